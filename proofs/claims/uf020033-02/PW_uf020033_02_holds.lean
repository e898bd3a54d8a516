import PyProof.Rows.All
import Wide.All
import OpenK.AllK
import Wide.FinOn
import PySem.Challenge.RW_uf020033_02
set_option Elab.async false
set_option maxHeartbeats 4000000
set_option linter.all false
set_option genSizeOf false
set_option genSizeOfSpec false
set_option genInjectivity false
set_option bootstrap.genMatcherCode false
namespace Mine.Internal.Cl
open PySem PySem.W PyProof.Rows
set_option maxRecDepth 100000
set_option maxHeartbeats 8000000
noncomputable def A8(i:Nat):Stmt:=PySem.Challenge.pw_uf020033_02.main.body.getD i (.Pass default)
noncomputable def Iu(i j:Nat):Stmt:=match A8 i with
 | .ClassDef _ _ _ b .. =>b.getD j (.Pass default)
 | s=>s
noncomputable def Dx(st:Stmt)(q:Str)(md:Value)(cd:Addr):Obj:=match st with
 | .FunctionDef name args body _ _ _ scope _ _ _=>{cls:= .type "function",data:= .func {name:=name,qualname:=q,params:=args,body:= .stmts body,scope:=scope,globals:=3,closure:=[],defaults:= .none,kwdefaults:= .none,pyModule:=md,code:= .ref cd}}
 | _=>default
noncomputable def Nx(st:Stmt)(q:Str):Obj:=match st with
 | .FunctionDef name args body _ _ _ scope _ _ _=>{cls:= .none,data:= .func {name:=name,qualname:=q,params:=args,body:= .stmts body,scope:=scope,globals:=0,closure:=[],defaults:= .none,kwdefaults:= .none}}
 | _=>default
noncomputable def vs(s:String)(n:Nat):Value:= .str (Str.ofString s) n
noncomputable def rf(n:Nat):Value:= .ref n
noncomputable def vi(n:Int):Value:= .int n 0
noncomputable def dE(P:Params)(s:String)(n:Nat)(v:Value):DictEntry:={hash:=PyData.keyHash P (Str.ofString s),key:= .str (Str.ofString s) n,val:=v}
noncomputable def tO(c:String)(a:Array Value):Obj:={cls:= .type c,data:= .seq a}
noncomputable def cO(c:String)(a:Array Value):Obj:={cls:= .type c,data:= .fields a}
noncomputable def dO(c:String)(a:Array DictEntry):Obj:={cls:= .type c,data:= .dict a}
noncomputable def fO(a:Array (Option Value)):Obj:={cls:= .type "frame",slots:=a}
noncomputable def kk(P:Params):Frag:=[
 (2,{cls:=Value.none,data:=Data.dict #[]}),
 (3,{cls:=Value.type "dict",data:=Data.dict #[dE P "__name__" 165 (vs "law_uf020033_02" 399),dE P "__doc__" 166 (Value.none),dE P "__package__" 167 (Value.none),dE P "__loader__" 168 (Value.builtin "__main__.__loader__#opaque"),dE P "__spec__" 169 (Value.none),dE P "__annotations__" 170 (rf 6),dE P "__builtins__" 171 (rf 4),dE P "__file__" 173 (vs "/claim/cut.py" 172),dE P "__cached__" 174 (Value.none),dE P "WebError" 206 (rf 24),dE P "BadWeb" 222 (rf 37),dE P "NoPoint" 238 (rf 49),dE P "BadText" 254 (rf 61),dE P "BadOrder" 270 (rf 73),dE P "HasGap" 286 (rf 85),dE P "MOST" 290 (Value.int 60 289),dE P "Web" 356 (rf 132),dE P "web_of" 362 (rf 141),dE P "FIGURES" 366 (vs "0123456789" 365),dE P "shown" 376 (rf 148),dE P "number_of" 384 (rf 155),dE P "tie_of" 392 (rf 162),dE P "read" 398 (rf 167),dE P "_law_cell_at" 408 (rf 174),dE P "_law_whole" 415 (rf 181),dE P "_law_numbers" 424 (rf 188),dE P "_law_pairs" 433 (rf 195),dE P "_law_mixed" 441 (rf 202),dE P "_law_earlier" 457 (rf 209),dE P "_law_any_rows" 463 (rf 214),dE P "_law_many" 471 (rf 221),dE P "_law_banded" 477 (rf 226),dE P "_law_ringed" 483 (rf 231),dE P "_law_hubbed" 489 (rf 236),dE P "_law_rows" 499 (rf 243),dE P "_law_name" 509 (rf 250),dE P "_law_ties" 515 (rf 255),dE P "_law_near" 521 (rf 260),dE P "_law_shown" 527 (rf 265),dE P "_law_number" 535 (rf 272),dE P "_law_read" 550 (rf 279),dE P "_law_odd_text" 558 (rf 286),dE P "_law_text_by" 572 (rf 293),dE P "_law_refused" 580 (rf 300),dE P "_law_by_base" 588 (rf 307),dE P "_law_no_point" 597 (rf 314),dE P "law" 603 (rf 319)] 47}),
 (23,{cls:=Value.type "dict",data:=Data.dict #[dE P "__module__" 196 (vs "shortring.errors" 187),dE P "__firstlineno__" 200 (Value.int 2 199),dE P "__static_attributes__" 201 (rf 22),dE P "__weakref__" 203 (rf 25),dE P "__doc__" 204 (Value.none)] 3}),
 (24,{cls:=Value.type "type",data:=Data.cls {name:=Str.ofString "WebError",bases:=[Value.type "ValueError"],mro:=[rf 24,Value.type "ValueError",Value.type "Exception",Value.type "BaseException",Value.type "object"],ns:=23,qualname:=Str.ofString "WebError",subclasses:=[rf 37,rf 49,rf 61,rf 73,rf 85]},slots:= #[some (rf 15),none,some (vs "WebError" 189),some (vs "WebError" 197),some (Value.builtin "ValueError.__new__"),some (Value.bool true)]}),
 (36,{cls:=Value.type "dict",data:=Data.dict #[dE P "__module__" 214 (vs "shortring.errors" 187),dE P "__firstlineno__" 218 (Value.int 4 217),dE P "__static_attributes__" 219 (rf 35),dE P "__doc__" 220 (Value.none)] 2}),
 (37,{cls:=Value.type "type",data:=Data.cls {name:=Str.ofString "BadWeb",bases:=[rf 24],mro:=[rf 37,rf 24,Value.type "ValueError",Value.type "Exception",Value.type "BaseException",Value.type "object"],ns:=36,qualname:=Str.ofString "BadWeb"},slots:= #[some (rf 28),none,some (vs "BadWeb" 207),some (vs "BadWeb" 215),some (Value.builtin "ValueError.__new__"),some (Value.bool true)]}),
 (48,{cls:=Value.type "dict",data:=Data.dict #[dE P "__module__" 230 (vs "shortring.errors" 187),dE P "__firstlineno__" 234 (Value.int 6 233),dE P "__static_attributes__" 235 (rf 47),dE P "__doc__" 236 (Value.none)] 2}),
 (49,{cls:=Value.type "type",data:=Data.cls {name:=Str.ofString "NoPoint",bases:=[rf 24],mro:=[rf 49,rf 24,Value.type "ValueError",Value.type "Exception",Value.type "BaseException",Value.type "object"],ns:=48,qualname:=Str.ofString "NoPoint"},slots:= #[some (rf 40),none,some (vs "NoPoint" 223),some (vs "NoPoint" 231),some (Value.builtin "ValueError.__new__"),some (Value.bool true)]}),
 (60,{cls:=Value.type "dict",data:=Data.dict #[dE P "__module__" 246 (vs "shortring.errors" 187),dE P "__firstlineno__" 250 (Value.int 8 249),dE P "__static_attributes__" 251 (rf 59),dE P "__doc__" 252 (Value.none)] 2}),
 (61,{cls:=Value.type "type",data:=Data.cls {name:=Str.ofString "BadText",bases:=[rf 24],mro:=[rf 61,rf 24,Value.type "ValueError",Value.type "Exception",Value.type "BaseException",Value.type "object"],ns:=60,qualname:=Str.ofString "BadText"},slots:= #[some (rf 52),none,some (vs "BadText" 239),some (vs "BadText" 247),some (Value.builtin "ValueError.__new__"),some (Value.bool true)]}),
 (72,{cls:=Value.type "dict",data:=Data.dict #[dE P "__module__" 262 (vs "shortring.errors" 187),dE P "__firstlineno__" 266 (Value.int 10 265),dE P "__static_attributes__" 267 (rf 71),dE P "__doc__" 268 (Value.none)] 2}),
 (73,{cls:=Value.type "type",data:=Data.cls {name:=Str.ofString "BadOrder",bases:=[rf 24],mro:=[rf 73,rf 24,Value.type "ValueError",Value.type "Exception",Value.type "BaseException",Value.type "object"],ns:=72,qualname:=Str.ofString "BadOrder"},slots:= #[some (rf 64),none,some (vs "BadOrder" 255),some (vs "BadOrder" 263),some (Value.builtin "ValueError.__new__"),some (Value.bool true)]}),
 (84,{cls:=Value.type "dict",data:=Data.dict #[dE P "__module__" 278 (vs "shortring.errors" 187),dE P "__firstlineno__" 282 (Value.int 12 281),dE P "__static_attributes__" 283 (rf 83),dE P "__doc__" 284 (Value.none)] 2}),
 (85,{cls:=Value.type "type",data:=Data.cls {name:=Str.ofString "HasGap",bases:=[rf 24],mro:=[rf 85,rf 24,Value.type "ValueError",Value.type "Exception",Value.type "BaseException",Value.type "object"],ns:=84,qualname:=Str.ofString "HasGap"},slots:= #[some (rf 76),none,some (vs "HasGap" 271),some (vs "HasGap" 279),some (Value.builtin "ValueError.__new__"),some (Value.bool true)]}),
 (100,cO "code" #[vs "__init__" 303,vs "Web.__init__" 304,vs "/claim/cut.py" 305,vi 18,vi 3,vi 0,vi 0,vi 3,rf 95,Value.bool true,vi 181,rf 96,Value.none,rf 97,rf 98,rf 99,vi 309,vi 18,vs "/claim/cut.py" 310]),
 (101,Dx (Iu 9 0) (Str.ofString "Web.__init__") (vs "shortring.webs" 287) 100),
 (107,cO "code" #[vs "need" 312,vs "Web.need" 313,vs "/claim/cut.py" 314,vi 22,vi 2,vi 0,vi 0,vi 3,rf 102,Value.bool true,vi 181,rf 103,Value.none,rf 104,rf 105,rf 106,vi 317,vi 22,vs "/claim/cut.py" 318]),
 (108,Dx (Iu 9 1) (Str.ofString "Web.need") (vs "shortring.webs" 287) 107),
 (114,cO "code" #[vs "beside" 320,vs "Web.beside" 321,vs "/claim/cut.py" 322,vi 26,vi 2,vi 0,vi 0,vi 3,rf 109,Value.bool true,vi 181,rf 110,Value.none,rf 111,rf 112,rf 113,vi 325,vi 26,vs "/claim/cut.py" 326]),
 (115,Dx (Iu 9 2) (Str.ofString "Web.beside") (vs "shortring.webs" 287) 114),
 (121,cO "code" #[vs "tied" 328,vs "Web.tied" 329,vs "/claim/cut.py" 330,vi 30,vi 3,vi 0,vi 0,vi 3,rf 116,Value.bool true,vi 181,rf 117,Value.none,rf 118,rf 119,rf 120,vi 334,vi 30,vs "/claim/cut.py" 335]),
 (122,Dx (Iu 9 3) (Str.ofString "Web.tied") (vs "shortring.webs" 287) 121),
 (128,cO "code" #[vs "ties" 337,vs "Web.ties" 338,vs "/claim/cut.py" 339,vi 35,vi 1,vi 0,vi 0,vi 3,rf 123,Value.bool true,vi 181,rf 124,Value.none,rf 125,rf 126,rf 127,vi 344,vi 35,vs "/claim/cut.py" 345]),
 (129,Dx (Iu 9 4) (Str.ofString "Web.ties") (vs "shortring.webs" 287) 128),
 (131,{cls:=Value.type "dict",data:=Data.dict #[dE P "__module__" 298 (vs "shortring.webs" 287),dE P "__firstlineno__" 302 (Value.int 16 301),dE P "__init__" 311 (rf 101),dE P "need" 319 (rf 108),dE P "beside" 327 (rf 115),dE P "tied" 336 (rf 122),dE P "ties" 346 (rf 129),dE P "__static_attributes__" 349 (rf 130),dE P "__dict__" 351 (rf 133),dE P "__weakref__" 353 (rf 134),dE P "__doc__" 354 (Value.none)] 4}),
 (132,{cls:=Value.type "type",data:=Data.cls {name:=Str.ofString "Web",bases:=[Value.type "object"],mro:=[rf 132,Value.type "object"],ns:=131,qualname:=Str.ofString "Web"},slots:= #[none,none,some (vs "Web" 291),some (vs "Web" 299),some (Value.builtin "object.__new__"),some (Value.bool true)]}),
 (140,cO "code" #[vs "web_of" 357,vs "web_of" 358,vs "/claim/cut.py" 359,vi 42,vi 2,vi 0,vi 0,vi 3,rf 137,Value.bool true,vi 181,rf 138,Value.none,Value.none,Value.none,rf 139,vi 360,vi 42,vs "/claim/cut.py" 361]),
 (141,Dx (A8 10) (Str.ofString "web_of") (vs "shortring.webs" 287) 140),
 (147,cO "code" #[vs "shown" 367,vs "shown" 368,vs "/claim/cut.py" 369,vi 55,vi 1,vi 0,vi 0,vi 3,rf 142,Value.bool true,vi 181,rf 143,Value.none,rf 144,rf 145,rf 146,vi 374,vi 55,vs "/claim/cut.py" 375]),
 (148,Dx (A8 13) (Str.ofString "shown") (vs "shortring.notes" 363) 147),
 (154,cO "code" #[vs "number_of" 377,vs "number_of" 378,vs "/claim/cut.py" 379,vi 60,vi 1,vi 0,vi 0,vi 3,rf 149,Value.bool true,vi 181,rf 150,Value.none,rf 151,rf 152,rf 153,vi 382,vi 60,vs "/claim/cut.py" 383]),
 (155,Dx (A8 14) (Str.ofString "number_of") (vs "shortring.notes" 363) 154),
 (161,cO "code" #[vs "tie_of" 385,vs "tie_of" 386,vs "/claim/cut.py" 387,vi 67,vi 1,vi 0,vi 0,vi 3,rf 156,Value.bool true,vi 181,rf 157,Value.none,rf 158,rf 159,rf 160,vi 390,vi 67,vs "/claim/cut.py" 391]),
 (162,Dx (A8 15) (Str.ofString "tie_of") (vs "shortring.notes" 363) 161),
 (166,cO "code" #[vs "read" 393,vs "read" 394,vs "/claim/cut.py" 395,vi 72,vi 1,vi 0,vi 0,vi 3,rf 163,Value.bool true,vi 181,rf 164,Value.none,Value.none,Value.none,rf 165,vi 396,vi 72,vs "/claim/cut.py" 397]),
 (167,Dx (A8 16) (Str.ofString "read") (vs "shortring.notes" 363) 166),
 (173,cO "code" #[vs "_law_cell_at" 401,vs "_law_cell_at" 402,vs "/claim/cut.py" 403,vi 86,vi 2,vi 0,vi 0,vi 3,rf 168,Value.bool true,vi 181,rf 169,Value.none,rf 170,rf 171,rf 172,vi 406,vi 86,vs "/claim/cut.py" 407]),
 (174,Dx (A8 18) (Str.ofString "_law_cell_at") (vs "law_uf020033_02" 399) 173),
 (180,cO "code" #[vs "_law_whole" 409,vs "_law_whole" 410,vs "/claim/cut.py" 411,vi 90,vi 1,vi 0,vi 0,vi 3,rf 175,Value.bool true,vi 181,rf 176,Value.none,rf 177,rf 178,rf 179,vi 413,vi 90,vs "/claim/cut.py" 414]),
 (181,Dx (A8 19) (Str.ofString "_law_whole") (vs "law_uf020033_02" 399) 180),
 (187,cO "code" #[vs "_law_numbers" 416,vs "_law_numbers" 417,vs "/claim/cut.py" 418,vi 92,vi 2,vi 0,vi 0,vi 3,rf 182,Value.bool true,vi 181,rf 183,Value.none,rf 184,rf 185,rf 186,vi 422,vi 92,vs "/claim/cut.py" 423]),
 (188,Dx (A8 20) (Str.ofString "_law_numbers") (vs "law_uf020033_02" 399) 187),
 (194,cO "code" #[vs "_law_pairs" 425,vs "_law_pairs" 426,vs "/claim/cut.py" 427,vi 99,vi 2,vi 0,vi 0,vi 3,rf 189,Value.bool true,vi 181,rf 190,Value.none,rf 191,rf 192,rf 193,vi 431,vi 99,vs "/claim/cut.py" 432]),
 (195,Dx (A8 21) (Str.ofString "_law_pairs") (vs "law_uf020033_02" 399) 194),
 (201,cO "code" #[vs "_law_mixed" 434,vs "_law_mixed" 435,vs "/claim/cut.py" 436,vi 108,vi 2,vi 0,vi 0,vi 3,rf 196,Value.bool true,vi 181,rf 197,Value.none,rf 198,rf 199,rf 200,vi 439,vi 108,vs "/claim/cut.py" 440]),
 (202,Dx (A8 22) (Str.ofString "_law_mixed") (vs "law_uf020033_02" 399) 201),
 (208,cO "code" #[vs "_law_earlier" 442,vs "_law_earlier" 443,vs "/claim/cut.py" 444,vi 110,vi 3,vi 0,vi 0,vi 3,rf 203,Value.bool true,vi 181,rf 204,Value.none,rf 205,rf 206,rf 207,vi 455,vi 110,vs "/claim/cut.py" 456]),
 (209,Dx (A8 23) (Str.ofString "_law_earlier") (vs "law_uf020033_02" 399) 208),
 (213,cO "code" #[vs "_law_any_rows" 458,vs "_law_any_rows" 459,vs "/claim/cut.py" 460,vi 129,vi 2,vi 0,vi 0,vi 3,rf 210,Value.bool true,vi 181,rf 211,Value.none,Value.none,Value.none,rf 212,vi 461,vi 129,vs "/claim/cut.py" 462]),
 (214,Dx (A8 24) (Str.ofString "_law_any_rows") (vs "law_uf020033_02" 399) 213),
 (220,cO "code" #[vs "_law_many" 464,vs "_law_many" 465,vs "/claim/cut.py" 466,vi 139,vi 1,vi 0,vi 0,vi 3,rf 215,Value.bool true,vi 181,rf 216,Value.none,rf 217,rf 218,rf 219,vi 469,vi 139,vs "/claim/cut.py" 470]),
 (221,Dx (A8 25) (Str.ofString "_law_many") (vs "law_uf020033_02" 399) 220),
 (225,cO "code" #[vs "_law_banded" 472,vs "_law_banded" 473,vs "/claim/cut.py" 474,vi 146,vi 2,vi 0,vi 0,vi 3,rf 222,Value.bool true,vi 181,rf 223,Value.none,Value.none,Value.none,rf 224,vi 475,vi 146,vs "/claim/cut.py" 476]),
 (226,Dx (A8 26) (Str.ofString "_law_banded") (vs "law_uf020033_02" 399) 225),
 (230,cO "code" #[vs "_law_ringed" 478,vs "_law_ringed" 479,vs "/claim/cut.py" 480,vi 151,vi 2,vi 0,vi 0,vi 3,rf 227,Value.bool true,vi 181,rf 228,Value.none,Value.none,Value.none,rf 229,vi 481,vi 151,vs "/claim/cut.py" 482]),
 (231,Dx (A8 27) (Str.ofString "_law_ringed") (vs "law_uf020033_02" 399) 230),
 (235,cO "code" #[vs "_law_hubbed" 484,vs "_law_hubbed" 485,vs "/claim/cut.py" 486,vi 159,vi 2,vi 0,vi 0,vi 3,rf 232,Value.bool true,vi 181,rf 233,Value.none,Value.none,Value.none,rf 234,vi 487,vi 159,vs "/claim/cut.py" 488]),
 (236,Dx (A8 28) (Str.ofString "_law_hubbed") (vs "law_uf020033_02" 399) 235),
 (242,cO "code" #[vs "_law_rows" 490,vs "_law_rows" 491,vs "/claim/cut.py" 492,vi 164,vi 2,vi 0,vi 0,vi 3,rf 237,Value.bool true,vi 181,rf 238,Value.none,rf 239,rf 240,rf 241,vi 497,vi 164,vs "/claim/cut.py" 498]),
 (243,Dx (A8 29) (Str.ofString "_law_rows") (vs "law_uf020033_02" 399) 242),
 (249,cO "code" #[vs "_law_name" 500,vs "_law_name" 501,vs "/claim/cut.py" 502,vi 178,vi 3,vi 0,vi 0,vi 3,rf 244,Value.bool true,vi 181,rf 245,Value.none,rf 246,rf 247,rf 248,vi 507,vi 178,vs "/claim/cut.py" 508]),
 (250,Dx (A8 30) (Str.ofString "_law_name") (vs "law_uf020033_02" 399) 249),
 (254,cO "code" #[vs "_law_ties" 510,vs "_law_ties" 511,vs "/claim/cut.py" 512,vi 183,vi 3,vi 0,vi 0,vi 3,rf 251,Value.bool true,vi 181,rf 252,Value.none,Value.none,Value.none,rf 253,vi 513,vi 183,vs "/claim/cut.py" 514]),
 (255,Dx (A8 31) (Str.ofString "_law_ties") (vs "law_uf020033_02" 399) 254),
 (259,cO "code" #[vs "_law_near" 516,vs "_law_near" 517,vs "/claim/cut.py" 518,vi 192,vi 2,vi 0,vi 0,vi 3,rf 256,Value.bool true,vi 181,rf 257,Value.none,Value.none,Value.none,rf 258,vi 519,vi 192,vs "/claim/cut.py" 520]),
 (260,Dx (A8 32) (Str.ofString "_law_near") (vs "law_uf020033_02" 399) 259),
 (264,cO "code" #[vs "_law_shown" 522,vs "_law_shown" 523,vs "/claim/cut.py" 524,vi 199,vi 2,vi 0,vi 0,vi 3,rf 261,Value.bool true,vi 181,rf 262,Value.none,Value.none,Value.none,rf 263,vi 525,vi 199,vs "/claim/cut.py" 526]),
 (265,Dx (A8 33) (Str.ofString "_law_shown") (vs "law_uf020033_02" 399) 264),
 (271,cO "code" #[vs "_law_number" 528,vs "_law_number" 529,vs "/claim/cut.py" 530,vi 204,vi 1,vi 0,vi 0,vi 3,rf 266,Value.bool true,vi 181,rf 267,Value.none,rf 268,rf 269,rf 270,vi 533,vi 204,vs "/claim/cut.py" 534]),
 (272,Dx (A8 34) (Str.ofString "_law_number") (vs "law_uf020033_02" 399) 271),
 (278,cO "code" #[vs "_law_read" 536,vs "_law_read" 537,vs "/claim/cut.py" 538,vi 211,vi 1,vi 0,vi 0,vi 3,rf 273,Value.bool true,vi 181,rf 274,Value.none,rf 275,rf 276,rf 277,vi 548,vi 211,vs "/claim/cut.py" 549]),
 (279,Dx (A8 35) (Str.ofString "_law_read") (vs "law_uf020033_02" 399) 278),
 (285,cO "code" #[vs "_law_odd_text" 551,vs "_law_odd_text" 552,vs "/claim/cut.py" 553,vi 230,vi 1,vi 0,vi 0,vi 3,rf 280,Value.bool true,vi 181,rf 281,Value.none,rf 282,rf 283,rf 284,vi 556,vi 230,vs "/claim/cut.py" 557]),
 (286,Dx (A8 36) (Str.ofString "_law_odd_text") (vs "law_uf020033_02" 399) 285),
 (292,cO "code" #[vs "_law_text_by" 559,vs "_law_text_by" 560,vs "/claim/cut.py" 561,vi 235,vi 3,vi 0,vi 0,vi 3,rf 287,Value.bool true,vi 181,rf 288,Value.none,rf 289,rf 290,rf 291,vi 570,vi 235,vs "/claim/cut.py" 571]),
 (293,Dx (A8 37) (Str.ofString "_law_text_by") (vs "law_uf020033_02" 399) 292),
 (299,cO "code" #[vs "_law_refused" 573,vs "_law_refused" 574,vs "/claim/cut.py" 575,vi 253,vi 1,vi 0,vi 0,vi 3,rf 294,Value.bool true,vi 181,rf 295,Value.none,rf 296,rf 297,rf 298,vi 578,vi 253,vs "/claim/cut.py" 579]),
 (300,Dx (A8 38) (Str.ofString "_law_refused") (vs "law_uf020033_02" 399) 299),
 (306,cO "code" #[vs "_law_by_base" 581,vs "_law_by_base" 582,vs "/claim/cut.py" 583,vi 261,vi 1,vi 0,vi 0,vi 3,rf 301,Value.bool true,vi 181,rf 302,Value.none,rf 303,rf 304,rf 305,vi 586,vi 261,vs "/claim/cut.py" 587]),
 (307,Dx (A8 39) (Str.ofString "_law_by_base") (vs "law_uf020033_02" 399) 306),
 (313,cO "code" #[vs "_law_no_point" 589,vs "_law_no_point" 590,vs "/claim/cut.py" 591,vi 269,vi 3,vi 0,vi 0,vi 3,rf 308,Value.bool true,vi 181,rf 309,Value.none,rf 310,rf 311,rf 312,vi 595,vi 269,vs "/claim/cut.py" 596]),
 (314,Dx (A8 40) (Str.ofString "_law_no_point") (vs "law_uf020033_02" 399) 313),
 (318,cO "code" #[vs "law" 598,vs "law" 599,vs "/claim/cut.py" 600,vi 278,vi 1,vi 0,vi 0,vi 3,rf 315,Value.bool true,vi 181,rf 316,Value.none,Value.none,Value.none,rf 317,vi 601,vi 278,vs "/claim/cut.py" 602]),
 (319,Dx (A8 41) (Str.ofString "law") (vs "law_uf020033_02" 399) 318)]
noncomputable def kas:List Addr:=[2,3,23,24,36,37,48,49,60,61,72,73,84,85,100,101,107,108,114,115,121,122,128,129,131,132,140,141,147,148,154,155,161,162,166,167,173,174,180,181,187,188,194,195,201,202,208,209,213,214,220,221,225,226,230,231,235,236,242,243,249,250,254,255,259,260,264,265,271,272,278,279,285,286,292,293,299,300,306,307,313,314,318,319]
noncomputable def kq:Program:={PySem.Challenge.pw_uf020033_02 with main:={PySem.Challenge.pw_uf020033_02.main with body:=[1,2,3,4,5,6,8,9,10,12,13,14,15,16,18,19,20,21,22,23,24,25,26,27,28,29,30,31,32,33,34,35,36,37,38,39,40,41].filterMap fun i=>PySem.Challenge.pw_uf020033_02.main.body[i]?}}
theorem Zx(P:Params):kas=(kk P).map (·.1):=by kernel_rfl
noncomputable def kH:Hook:=kHook kk kas Zx
noncomputable def Xz:Env:={scope:=PySem.Challenge.pw_uf020033_02.main.scope,locals:=mainNs,globals:=mainNs,cells:=[],code:=Value.ref 13,frame:=some 14}
noncomputable abbrev hB:List Stmt:=behindTheImports PySem.Challenge.pw_uf020033_02
noncomputable abbrev hC:Code:= .body hB Xz
noncomputable abbrev hF:List Frame:=[topFrame {line:=0,col:=0,endLine:=0,endCol:=0}]
noncomputable def s_a(P:Params)(os:OsState):Shared:=⟨⟨Array.mk [
 boot_o_0 P,
 boot_o_1 P,
 boot_o_2 P,
 boot_o_3 P,
 boot_o_4 P,
 boot_o_5 P,
 boot_o_6 P,
 boot_o_7 P,
 boot_o_8 P,
 boot_o_9 P,
 boot_o_10 P,
 tO "tuple" #[],
 {cls:=Value.none,data:=Data.fields #[]},
 cO "code" #[vs "<module>" 182,vs "<module>" 183,vs "/claim/cut.py" 184,vi 1,vi 0,vi 0,vi 0,vi 0,rf 11,Value.bool false,vi 181,rf 12,Value.none,Value.none,Value.none,Value.none,vi 185,vi 1,vs "/claim/cut.py" 186],
 fO #[some (rf 13),some (rf 3),some (rf 3),none,some (vs "__main__" 164),none,some (rf 0)]],{}⟩,Array.mk [],{},187,os⟩
noncomputable def s_b(P:Params)(os:OsState):Shared:=⟨⟨Array.mk [
 boot_o_0 P,
 boot_o_1 P,
 boot_o_2 P,
 boot_o_3 P,
 boot_o_4 P,
 boot_o_5 P,
 boot_o_6 P,
 boot_o_7 P,
 boot_o_8 P,
 boot_o_9 P,
 boot_o_10 P,
 tO "tuple" #[],
 {cls:=Value.none,data:=Data.fields #[]},
 cO "code" #[vs "<module>" 182,vs "<module>" 183,vs "/claim/cut.py" 184,vi 1,vi 0,vi 0,vi 0,vi 0,rf 11,Value.bool false,vi 181,rf 12,Value.none,Value.none,Value.none,Value.none,vi 185,vi 1,vs "/claim/cut.py" 186],
 fO #[some (rf 13),some (rf 3),some (rf 3),none,some (vs "__main__" 164),none,some (rf 0)]],{}⟩,Array.mk [],{},187,os⟩
noncomputable def Zf(P:Params)(os:OsState):Shared:=⟨⟨Array.mk [
 boot_o_0 P,
 boot_o_1 P,
 boot_o_2 P,
 {cls:=Value.type "dict",data:=Data.dict #[dE P "__name__" 165 (vs "law_uf020033_02" 399),dE P "__doc__" 166 (Value.none),dE P "__package__" 167 (Value.none),dE P "__loader__" 168 (Value.builtin "__main__.__loader__#opaque"),dE P "__spec__" 169 (Value.none),dE P "__annotations__" 170 (rf 6),dE P "__builtins__" 171 (rf 4),dE P "__file__" 173 (vs "/claim/cut.py" 172),dE P "__cached__" 174 (Value.none),dE P "WebError" 206 (rf 24),dE P "BadWeb" 222 (rf 37),dE P "NoPoint" 238 (rf 49),dE P "BadText" 254 (rf 61),dE P "BadOrder" 270 (rf 73),dE P "HasGap" 286 (rf 85),dE P "MOST" 290 (Value.int 60 289),dE P "Web" 356 (rf 132),dE P "web_of" 362 (rf 141),dE P "FIGURES" 366 (vs "0123456789" 365),dE P "shown" 376 (rf 148),dE P "number_of" 384 (rf 155),dE P "tie_of" 392 (rf 162),dE P "read" 398 (rf 167),dE P "_law_cell_at" 408 (rf 174),dE P "_law_whole" 415 (rf 181),dE P "_law_numbers" 424 (rf 188),dE P "_law_pairs" 433 (rf 195),dE P "_law_mixed" 441 (rf 202),dE P "_law_earlier" 457 (rf 209),dE P "_law_any_rows" 463 (rf 214),dE P "_law_many" 471 (rf 221),dE P "_law_banded" 477 (rf 226),dE P "_law_ringed" 483 (rf 231),dE P "_law_hubbed" 489 (rf 236)] 34},
 boot_o_4 P,
 boot_o_5 P,
 boot_o_6 P,
 boot_o_7 P,
 boot_o_8 P,
 boot_o_9 P,
 boot_o_10 P,
 tO "tuple" #[],
 {cls:=Value.none,data:=Data.fields #[vi 2,vi 0,rf 20,vi 4,vi 0,rf 33,vi 6,vi 0,rf 45,vi 8,vi 0,rf 57,vi 10,vi 0,rf 69,vi 12,vi 0,rf 81,vi 16,vi 0,rf 93,vi 42,vi 0,rf 140,vi 55,vi 0,rf 147,vi 60,vi 0,rf 154,vi 67,vi 0,rf 161,vi 72,vi 0,rf 166,vi 86,vi 0,rf 173,vi 90,vi 0,rf 180,vi 92,vi 0,rf 187,vi 99,vi 0,rf 194,vi 108,vi 0,rf 201,vi 110,vi 0,rf 208,vi 129,vi 0,rf 213,vi 139,vi 0,rf 220,vi 146,vi 0,rf 225,vi 151,vi 0,rf 230,vi 159,vi 0,rf 235]},
 cO "code" #[vs "<module>" 182,vs "<module>" 183,vs "/claim/cut.py" 184,vi 1,vi 0,vi 0,vi 0,vi 0,rf 11,Value.bool false,vi 181,rf 12,Value.none,Value.none,Value.none,Value.none,vi 185,vi 1,vs "/claim/cut.py" 186],
 fO #[some (rf 13),some (rf 3),some (rf 3),none,some (vs "__main__" 164),none,some (rf 0)],
 tO "tuple" #[Value.type "ValueError"],
 cO "builtin_function_or_method" #[Value.builtin "type.__prepare__",Value.type "type"],
 {cls:=Value.type "dict",data:=Data.dict #[dE P "__module__" 196 (vs "shortring.errors" 187),dE P "__qualname__" 198 (vs "WebError" 197),dE P "__firstlineno__" 200 (Value.int 2 199),dE P "__static_attributes__" 201 (rf 22)] 4},
 tO "tuple" #[],
 {cls:=Value.none,data:=Data.fields #[]},
 cO "code" #[vs "WebError" 191,vs "WebError" 192,vs "/claim/cut.py" 193,vi 2,vi 0,vi 0,vi 0,vi 0,rf 18,Value.bool false,vi 181,rf 19,Value.none,Value.none,Value.none,Value.none,vi 194,vi 2,vs "/claim/cut.py" 195],
 fO #[some (rf 20),some (rf 3),some (rf 17),none,some (vs "shortring.errors" 187),none,some (rf 0)],
 tO "tuple" #[],
 {cls:=Value.type "dict",data:=Data.dict #[dE P "__module__" 196 (vs "shortring.errors" 187),dE P "__firstlineno__" 200 (Value.int 2 199),dE P "__static_attributes__" 201 (rf 22),dE P "__weakref__" 203 (rf 25),dE P "__doc__" 204 (Value.none)] 3},
 {cls:=Value.type "type",data:=Data.cls {name:=Str.ofString "WebError",bases:=[Value.type "ValueError"],mro:=[rf 24,Value.type "ValueError",Value.type "Exception",Value.type "BaseException",Value.type "object"],ns:=23,qualname:=Str.ofString "WebError",subclasses:=[rf 37,rf 49,rf 61,rf 73,rf 85]},slots:= #[some (rf 15),none,some (vs "WebError" 189),some (vs "WebError" 197),some (Value.builtin "ValueError.__new__"),some (Value.bool true)]},
 cO "getset_descriptor" #[vs "__weakref__" 202,rf 24,Value.builtin "ExceptionGroup.__weakref__",Value.none],
 cO "super" #[rf 24,rf 24,rf 24],
 cO "builtin_function_or_method" #[Value.builtin "object.__init_subclass__",rf 24],
 tO "tuple" #[rf 24],
 cO "builtin_function_or_method" #[Value.builtin "type.__prepare__",Value.type "type"],
 {cls:=Value.type "dict",data:=Data.dict #[dE P "__module__" 214 (vs "shortring.errors" 187),dE P "__qualname__" 216 (vs "BadWeb" 215),dE P "__firstlineno__" 218 (Value.int 4 217),dE P "__static_attributes__" 219 (rf 35)] 4},
 tO "tuple" #[],
 {cls:=Value.none,data:=Data.fields #[]},
 cO "code" #[vs "BadWeb" 209,vs "BadWeb" 210,vs "/claim/cut.py" 211,vi 4,vi 0,vi 0,vi 0,vi 0,rf 31,Value.bool false,vi 181,rf 32,Value.none,Value.none,Value.none,Value.none,vi 212,vi 4,vs "/claim/cut.py" 213],
 fO #[some (rf 33),some (rf 3),some (rf 30),none,some (vs "shortring.errors" 187),none,some (rf 0)],
 tO "tuple" #[],
 {cls:=Value.type "dict",data:=Data.dict #[dE P "__module__" 214 (vs "shortring.errors" 187),dE P "__firstlineno__" 218 (Value.int 4 217),dE P "__static_attributes__" 219 (rf 35),dE P "__doc__" 220 (Value.none)] 2},
 {cls:=Value.type "type",data:=Data.cls {name:=Str.ofString "BadWeb",bases:=[rf 24],mro:=[rf 37,rf 24,Value.type "ValueError",Value.type "Exception",Value.type "BaseException",Value.type "object"],ns:=36,qualname:=Str.ofString "BadWeb"},slots:= #[some (rf 28),none,some (vs "BadWeb" 207),some (vs "BadWeb" 215),some (Value.builtin "ValueError.__new__"),some (Value.bool true)]},
 cO "super" #[rf 37,rf 37,rf 37],
 cO "builtin_function_or_method" #[Value.builtin "object.__init_subclass__",rf 37],
 tO "tuple" #[rf 24],
 cO "builtin_function_or_method" #[Value.builtin "type.__prepare__",Value.type "type"],
 {cls:=Value.type "dict",data:=Data.dict #[dE P "__module__" 230 (vs "shortring.errors" 187),dE P "__qualname__" 232 (vs "NoPoint" 231),dE P "__firstlineno__" 234 (Value.int 6 233),dE P "__static_attributes__" 235 (rf 47)] 4},
 tO "tuple" #[],
 {cls:=Value.none,data:=Data.fields #[]},
 cO "code" #[vs "NoPoint" 225,vs "NoPoint" 226,vs "/claim/cut.py" 227,vi 6,vi 0,vi 0,vi 0,vi 0,rf 43,Value.bool false,vi 181,rf 44,Value.none,Value.none,Value.none,Value.none,vi 228,vi 6,vs "/claim/cut.py" 229],
 fO #[some (rf 45),some (rf 3),some (rf 42),none,some (vs "shortring.errors" 187),none,some (rf 0)],
 tO "tuple" #[],
 {cls:=Value.type "dict",data:=Data.dict #[dE P "__module__" 230 (vs "shortring.errors" 187),dE P "__firstlineno__" 234 (Value.int 6 233),dE P "__static_attributes__" 235 (rf 47),dE P "__doc__" 236 (Value.none)] 2},
 {cls:=Value.type "type",data:=Data.cls {name:=Str.ofString "NoPoint",bases:=[rf 24],mro:=[rf 49,rf 24,Value.type "ValueError",Value.type "Exception",Value.type "BaseException",Value.type "object"],ns:=48,qualname:=Str.ofString "NoPoint"},slots:= #[some (rf 40),none,some (vs "NoPoint" 223),some (vs "NoPoint" 231),some (Value.builtin "ValueError.__new__"),some (Value.bool true)]},
 cO "super" #[rf 49,rf 49,rf 49],
 cO "builtin_function_or_method" #[Value.builtin "object.__init_subclass__",rf 49],
 tO "tuple" #[rf 24],
 cO "builtin_function_or_method" #[Value.builtin "type.__prepare__",Value.type "type"],
 {cls:=Value.type "dict",data:=Data.dict #[dE P "__module__" 246 (vs "shortring.errors" 187),dE P "__qualname__" 248 (vs "BadText" 247),dE P "__firstlineno__" 250 (Value.int 8 249),dE P "__static_attributes__" 251 (rf 59)] 4},
 tO "tuple" #[],
 {cls:=Value.none,data:=Data.fields #[]},
 cO "code" #[vs "BadText" 241,vs "BadText" 242,vs "/claim/cut.py" 243,vi 8,vi 0,vi 0,vi 0,vi 0,rf 55,Value.bool false,vi 181,rf 56,Value.none,Value.none,Value.none,Value.none,vi 244,vi 8,vs "/claim/cut.py" 245],
 fO #[some (rf 57),some (rf 3),some (rf 54),none,some (vs "shortring.errors" 187),none,some (rf 0)],
 tO "tuple" #[],
 {cls:=Value.type "dict",data:=Data.dict #[dE P "__module__" 246 (vs "shortring.errors" 187),dE P "__firstlineno__" 250 (Value.int 8 249),dE P "__static_attributes__" 251 (rf 59),dE P "__doc__" 252 (Value.none)] 2},
 {cls:=Value.type "type",data:=Data.cls {name:=Str.ofString "BadText",bases:=[rf 24],mro:=[rf 61,rf 24,Value.type "ValueError",Value.type "Exception",Value.type "BaseException",Value.type "object"],ns:=60,qualname:=Str.ofString "BadText"},slots:= #[some (rf 52),none,some (vs "BadText" 239),some (vs "BadText" 247),some (Value.builtin "ValueError.__new__"),some (Value.bool true)]},
 cO "super" #[rf 61,rf 61,rf 61],
 cO "builtin_function_or_method" #[Value.builtin "object.__init_subclass__",rf 61],
 tO "tuple" #[rf 24],
 cO "builtin_function_or_method" #[Value.builtin "type.__prepare__",Value.type "type"],
 {cls:=Value.type "dict",data:=Data.dict #[dE P "__module__" 262 (vs "shortring.errors" 187),dE P "__qualname__" 264 (vs "BadOrder" 263),dE P "__firstlineno__" 266 (Value.int 10 265),dE P "__static_attributes__" 267 (rf 71)] 4},
 tO "tuple" #[],
 {cls:=Value.none,data:=Data.fields #[]},
 cO "code" #[vs "BadOrder" 257,vs "BadOrder" 258,vs "/claim/cut.py" 259,vi 10,vi 0,vi 0,vi 0,vi 0,rf 67,Value.bool false,vi 181,rf 68,Value.none,Value.none,Value.none,Value.none,vi 260,vi 10,vs "/claim/cut.py" 261],
 fO #[some (rf 69),some (rf 3),some (rf 66),none,some (vs "shortring.errors" 187),none,some (rf 0)],
 tO "tuple" #[],
 {cls:=Value.type "dict",data:=Data.dict #[dE P "__module__" 262 (vs "shortring.errors" 187),dE P "__firstlineno__" 266 (Value.int 10 265),dE P "__static_attributes__" 267 (rf 71),dE P "__doc__" 268 (Value.none)] 2},
 {cls:=Value.type "type",data:=Data.cls {name:=Str.ofString "BadOrder",bases:=[rf 24],mro:=[rf 73,rf 24,Value.type "ValueError",Value.type "Exception",Value.type "BaseException",Value.type "object"],ns:=72,qualname:=Str.ofString "BadOrder"},slots:= #[some (rf 64),none,some (vs "BadOrder" 255),some (vs "BadOrder" 263),some (Value.builtin "ValueError.__new__"),some (Value.bool true)]},
 cO "super" #[rf 73,rf 73,rf 73],
 cO "builtin_function_or_method" #[Value.builtin "object.__init_subclass__",rf 73],
 tO "tuple" #[rf 24],
 cO "builtin_function_or_method" #[Value.builtin "type.__prepare__",Value.type "type"],
 {cls:=Value.type "dict",data:=Data.dict #[dE P "__module__" 278 (vs "shortring.errors" 187),dE P "__qualname__" 280 (vs "HasGap" 279),dE P "__firstlineno__" 282 (Value.int 12 281),dE P "__static_attributes__" 283 (rf 83)] 4},
 tO "tuple" #[],
 {cls:=Value.none,data:=Data.fields #[]},
 cO "code" #[vs "HasGap" 273,vs "HasGap" 274,vs "/claim/cut.py" 275,vi 12,vi 0,vi 0,vi 0,vi 0,rf 79,Value.bool false,vi 181,rf 80,Value.none,Value.none,Value.none,Value.none,vi 276,vi 12,vs "/claim/cut.py" 277],
 fO #[some (rf 81),some (rf 3),some (rf 78),none,some (vs "shortring.errors" 187),none,some (rf 0)],
 tO "tuple" #[],
 {cls:=Value.type "dict",data:=Data.dict #[dE P "__module__" 278 (vs "shortring.errors" 187),dE P "__firstlineno__" 282 (Value.int 12 281),dE P "__static_attributes__" 283 (rf 83),dE P "__doc__" 284 (Value.none)] 2},
 {cls:=Value.type "type",data:=Data.cls {name:=Str.ofString "HasGap",bases:=[rf 24],mro:=[rf 85,rf 24,Value.type "ValueError",Value.type "Exception",Value.type "BaseException",Value.type "object"],ns:=84,qualname:=Str.ofString "HasGap"},slots:= #[some (rf 76),none,some (vs "HasGap" 271),some (vs "HasGap" 279),some (Value.builtin "ValueError.__new__"),some (Value.bool true)]},
 cO "super" #[rf 85,rf 85,rf 85],
 cO "builtin_function_or_method" #[Value.builtin "object.__init_subclass__",rf 85],
 tO "tuple" #[],
 cO "builtin_function_or_method" #[Value.builtin "type.__prepare__",Value.type "type"],
 {cls:=Value.type "dict",data:=Data.dict #[dE P "__module__" 298 (vs "shortring.webs" 287),dE P "__qualname__" 300 (vs "Web" 299),dE P "__firstlineno__" 302 (Value.int 16 301),dE P "__init__" 311 (rf 101),dE P "need" 319 (rf 108),dE P "beside" 327 (rf 115),dE P "tied" 336 (rf 122),dE P "ties" 346 (rf 129),dE P "__static_attributes__" 349 (rf 130)] 9},
 tO "tuple" #[],
 {cls:=Value.none,data:=Data.fields #[vi 18,vi 4,rf 100,vi 22,vi 4,rf 107,vi 26,vi 4,rf 114,vi 30,vi 4,rf 121,vi 35,vi 4,rf 128]},
 cO "code" #[vs "Web" 293,vs "Web" 294,vs "/claim/cut.py" 295,vi 16,vi 0,vi 0,vi 0,vi 0,rf 91,Value.bool false,vi 181,rf 92,Value.none,Value.none,Value.none,Value.none,vi 296,vi 16,vs "/claim/cut.py" 297],
 fO #[some (rf 93),some (rf 3),some (rf 90),none,some (vs "shortring.webs" 287),none,some (rf 0)],
 tO "tuple" #[],
 {cls:=Value.none,data:=Data.fields #[]},
 tO "tuple" #[vs "self" 306,vs "many" 307,vs "rows" 308],
 tO "tuple" #[],
 Nx (Iu 9 0) (Str.ofString "Web.__init__"),
 cO "code" #[vs "__init__" 303,vs "Web.__init__" 304,vs "/claim/cut.py" 305,vi 18,vi 3,vi 0,vi 0,vi 3,rf 95,Value.bool true,vi 181,rf 96,Value.none,rf 97,rf 98,rf 99,vi 309,vi 18,vs "/claim/cut.py" 310],
 Dx (Iu 9 0) (Str.ofString "Web.__init__") (vs "shortring.webs" 287) 100,
 tO "tuple" #[],
 {cls:=Value.none,data:=Data.fields #[]},
 tO "tuple" #[vs "self" 315,vs "point" 316],
 tO "tuple" #[],
 Nx (Iu 9 1) (Str.ofString "Web.need"),
 cO "code" #[vs "need" 312,vs "Web.need" 313,vs "/claim/cut.py" 314,vi 22,vi 2,vi 0,vi 0,vi 3,rf 102,Value.bool true,vi 181,rf 103,Value.none,rf 104,rf 105,rf 106,vi 317,vi 22,vs "/claim/cut.py" 318],
 Dx (Iu 9 1) (Str.ofString "Web.need") (vs "shortring.webs" 287) 107,
 tO "tuple" #[],
 {cls:=Value.none,data:=Data.fields #[]},
 tO "tuple" #[vs "self" 323,vs "point" 324],
 tO "tuple" #[],
 Nx (Iu 9 2) (Str.ofString "Web.beside"),
 cO "code" #[vs "beside" 320,vs "Web.beside" 321,vs "/claim/cut.py" 322,vi 26,vi 2,vi 0,vi 0,vi 3,rf 109,Value.bool true,vi 181,rf 110,Value.none,rf 111,rf 112,rf 113,vi 325,vi 26,vs "/claim/cut.py" 326],
 Dx (Iu 9 2) (Str.ofString "Web.beside") (vs "shortring.webs" 287) 114,
 tO "tuple" #[],
 {cls:=Value.none,data:=Data.fields #[]},
 tO "tuple" #[vs "self" 331,vs "one" 332,vs "other" 333],
 tO "tuple" #[],
 Nx (Iu 9 3) (Str.ofString "Web.tied"),
 cO "code" #[vs "tied" 328,vs "Web.tied" 329,vs "/claim/cut.py" 330,vi 30,vi 3,vi 0,vi 0,vi 3,rf 116,Value.bool true,vi 181,rf 117,Value.none,rf 118,rf 119,rf 120,vi 334,vi 30,vs "/claim/cut.py" 335],
 Dx (Iu 9 3) (Str.ofString "Web.tied") (vs "shortring.webs" 287) 121,
 tO "tuple" #[],
 {cls:=Value.none,data:=Data.fields #[]},
 tO "tuple" #[vs "self" 340,vs "found" 341,vs "one" 342,vs "other" 343],
 tO "tuple" #[],
 Nx (Iu 9 4) (Str.ofString "Web.ties"),
 cO "code" #[vs "ties" 337,vs "Web.ties" 338,vs "/claim/cut.py" 339,vi 35,vi 1,vi 0,vi 0,vi 3,rf 123,Value.bool true,vi 181,rf 124,Value.none,rf 125,rf 126,rf 127,vi 344,vi 35,vs "/claim/cut.py" 345],
 Dx (Iu 9 4) (Str.ofString "Web.ties") (vs "shortring.webs" 287) 128,
 tO "tuple" #[vs "many" 347,vs "rows" 348],
 {cls:=Value.type "dict",data:=Data.dict #[dE P "__module__" 298 (vs "shortring.webs" 287),dE P "__firstlineno__" 302 (Value.int 16 301),dE P "__init__" 311 (rf 101),dE P "need" 319 (rf 108),dE P "beside" 327 (rf 115),dE P "tied" 336 (rf 122),dE P "ties" 346 (rf 129),dE P "__static_attributes__" 349 (rf 130),dE P "__dict__" 351 (rf 133),dE P "__weakref__" 353 (rf 134),dE P "__doc__" 354 (Value.none)] 4},
 {cls:=Value.type "type",data:=Data.cls {name:=Str.ofString "Web",bases:=[Value.type "object"],mro:=[rf 132,Value.type "object"],ns:=131,qualname:=Str.ofString "Web"},slots:= #[none,none,some (vs "Web" 291),some (vs "Web" 299),some (Value.builtin "object.__new__"),some (Value.bool true)]},
 cO "getset_descriptor" #[vs "__dict__" 350,rf 132,Value.builtin "function.__dict__",Value.builtin "function.__dict__#set"],
 cO "getset_descriptor" #[vs "__weakref__" 352,rf 132,Value.builtin "ExceptionGroup.__weakref__",Value.none],
 cO "super" #[rf 132,rf 132,rf 132],
 cO "builtin_function_or_method" #[Value.builtin "object.__init_subclass__",rf 132],
 tO "tuple" #[],
 {cls:=Value.none,data:=Data.fields #[]},
 Nx (A8 10) (Str.ofString "web_of"),
 cO "code" #[vs "web_of" 357,vs "web_of" 358,vs "/claim/cut.py" 359,vi 42,vi 2,vi 0,vi 0,vi 3,rf 137,Value.bool true,vi 181,rf 138,Value.none,Value.none,Value.none,rf 139,vi 360,vi 42,vs "/claim/cut.py" 361],
 Dx (A8 10) (Str.ofString "web_of") (vs "shortring.webs" 287) 140,
 tO "tuple" #[],
 {cls:=Value.none,data:=Data.fields #[]},
 tO "tuple" #[vs "web" 370,vs "words" 371,vs "one" 372,vs "other" 373],
 tO "tuple" #[],
 Nx (A8 13) (Str.ofString "shown"),
 cO "code" #[vs "shown" 367,vs "shown" 368,vs "/claim/cut.py" 369,vi 55,vi 1,vi 0,vi 0,vi 3,rf 142,Value.bool true,vi 181,rf 143,Value.none,rf 144,rf 145,rf 146,vi 374,vi 55,vs "/claim/cut.py" 375],
 Dx (A8 13) (Str.ofString "shown") (vs "shortring.notes" 363) 147,
 tO "tuple" #[],
 {cls:=Value.none,data:=Data.fields #[]},
 tO "tuple" #[vs "word" 380,vs "sign" 381],
 tO "tuple" #[],
 Nx (A8 14) (Str.ofString "number_of"),
 cO "code" #[vs "number_of" 377,vs "number_of" 378,vs "/claim/cut.py" 379,vi 60,vi 1,vi 0,vi 0,vi 3,rf 149,Value.bool true,vi 181,rf 150,Value.none,rf 151,rf 152,rf 153,vi 382,vi 60,vs "/claim/cut.py" 383],
 Dx (A8 14) (Str.ofString "number_of") (vs "shortring.notes" 363) 154,
 tO "tuple" #[],
 {cls:=Value.none,data:=Data.fields #[]},
 tO "tuple" #[vs "word" 388,vs "parts" 389],
 tO "tuple" #[],
 Nx (A8 15) (Str.ofString "tie_of"),
 cO "code" #[vs "tie_of" 385,vs "tie_of" 386,vs "/claim/cut.py" 387,vi 67,vi 1,vi 0,vi 0,vi 3,rf 156,Value.bool true,vi 181,rf 157,Value.none,rf 158,rf 159,rf 160,vi 390,vi 67,vs "/claim/cut.py" 391],
 Dx (A8 15) (Str.ofString "tie_of") (vs "shortring.notes" 363) 161,
 tO "tuple" #[],
 {cls:=Value.none,data:=Data.fields #[]},
 Nx (A8 16) (Str.ofString "read"),
 cO "code" #[vs "read" 393,vs "read" 394,vs "/claim/cut.py" 395,vi 72,vi 1,vi 0,vi 0,vi 3,rf 163,Value.bool true,vi 181,rf 164,Value.none,Value.none,Value.none,rf 165,vi 396,vi 72,vs "/claim/cut.py" 397],
 Dx (A8 16) (Str.ofString "read") (vs "shortring.notes" 363) 166,
 tO "tuple" #[],
 {cls:=Value.none,data:=Data.fields #[]},
 tO "tuple" #[vs "_law_script" 404,vs "_law_k" 405],
 tO "tuple" #[],
 Nx (A8 18) (Str.ofString "_law_cell_at"),
 cO "code" #[vs "_law_cell_at" 401,vs "_law_cell_at" 402,vs "/claim/cut.py" 403,vi 86,vi 2,vi 0,vi 0,vi 3,rf 168,Value.bool true,vi 181,rf 169,Value.none,rf 170,rf 171,rf 172,vi 406,vi 86,vs "/claim/cut.py" 407],
 Dx (A8 18) (Str.ofString "_law_cell_at") (vs "law_uf020033_02" 399) 173,
 tO "tuple" #[],
 {cls:=Value.none,data:=Data.fields #[]},
 tO "tuple" #[vs "_law_found" 412],
 tO "tuple" #[],
 Nx (A8 19) (Str.ofString "_law_whole"),
 cO "code" #[vs "_law_whole" 409,vs "_law_whole" 410,vs "/claim/cut.py" 411,vi 90,vi 1,vi 0,vi 0,vi 3,rf 175,Value.bool true,vi 181,rf 176,Value.none,rf 177,rf 178,rf 179,vi 413,vi 90,vs "/claim/cut.py" 414],
 Dx (A8 19) (Str.ofString "_law_whole") (vs "law_uf020033_02" 399) 180,
 tO "tuple" #[],
 {cls:=Value.none,data:=Data.fields #[]},
 tO "tuple" #[vs "_law_found" 419,vs "_law_due" 420,vs "_law_k" 421],
 tO "tuple" #[],
 Nx (A8 20) (Str.ofString "_law_numbers"),
 cO "code" #[vs "_law_numbers" 416,vs "_law_numbers" 417,vs "/claim/cut.py" 418,vi 92,vi 2,vi 0,vi 0,vi 3,rf 182,Value.bool true,vi 181,rf 183,Value.none,rf 184,rf 185,rf 186,vi 422,vi 92,vs "/claim/cut.py" 423],
 Dx (A8 20) (Str.ofString "_law_numbers") (vs "law_uf020033_02" 399) 187,
 tO "tuple" #[],
 {cls:=Value.none,data:=Data.fields #[]},
 tO "tuple" #[vs "_law_found" 428,vs "_law_due" 429,vs "_law_k" 430],
 tO "tuple" #[],
 Nx (A8 21) (Str.ofString "_law_pairs"),
 cO "code" #[vs "_law_pairs" 425,vs "_law_pairs" 426,vs "/claim/cut.py" 427,vi 99,vi 2,vi 0,vi 0,vi 3,rf 189,Value.bool true,vi 181,rf 190,Value.none,rf 191,rf 192,rf 193,vi 431,vi 99,vs "/claim/cut.py" 432],
 Dx (A8 21) (Str.ofString "_law_pairs") (vs "law_uf020033_02" 399) 194,
 tO "tuple" #[],
 {cls:=Value.none,data:=Data.fields #[]},
 tO "tuple" #[vs "_law_cell" 437,vs "_law_k" 438],
 tO "tuple" #[],
 Nx (A8 22) (Str.ofString "_law_mixed"),
 cO "code" #[vs "_law_mixed" 434,vs "_law_mixed" 435,vs "/claim/cut.py" 436,vi 108,vi 2,vi 0,vi 0,vi 3,rf 196,Value.bool true,vi 181,rf 197,Value.none,rf 198,rf 199,rf 200,vi 439,vi 108,vs "/claim/cut.py" 440],
 Dx (A8 22) (Str.ofString "_law_mixed") (vs "law_uf020033_02" 399) 201,
 tO "tuple" #[],
 {cls:=Value.none,data:=Data.fields #[]},
 tO "tuple" #[vs "_law_script" 445,vs "_law_many_here" 446,vs "_law_ring" 447,vs "_law_rows_here" 448,vs "_law_k" 449,vs "_law_cell" 450,vs "_law_row" 451,vs "_law_mate" 452,vs "_law_left" 453,vs "_law_one" 454],
 tO "tuple" #[],
 Nx (A8 23) (Str.ofString "_law_earlier"),
 cO "code" #[vs "_law_earlier" 442,vs "_law_earlier" 443,vs "/claim/cut.py" 444,vi 110,vi 3,vi 0,vi 0,vi 3,rf 203,Value.bool true,vi 181,rf 204,Value.none,rf 205,rf 206,rf 207,vi 455,vi 110,vs "/claim/cut.py" 456],
 Dx (A8 23) (Str.ofString "_law_earlier") (vs "law_uf020033_02" 399) 208,
 tO "tuple" #[],
 {cls:=Value.none,data:=Data.fields #[]},
 Nx (A8 24) (Str.ofString "_law_any_rows"),
 cO "code" #[vs "_law_any_rows" 458,vs "_law_any_rows" 459,vs "/claim/cut.py" 460,vi 129,vi 2,vi 0,vi 0,vi 3,rf 210,Value.bool true,vi 181,rf 211,Value.none,Value.none,Value.none,rf 212,vi 461,vi 129,vs "/claim/cut.py" 462],
 Dx (A8 24) (Str.ofString "_law_any_rows") (vs "law_uf020033_02" 399) 213,
 tO "tuple" #[],
 {cls:=Value.none,data:=Data.fields #[]},
 tO "tuple" #[vs "_law_script" 467,vs "_law_cell" 468],
 tO "tuple" #[],
 Nx (A8 25) (Str.ofString "_law_many"),
 cO "code" #[vs "_law_many" 464,vs "_law_many" 465,vs "/claim/cut.py" 466,vi 139,vi 1,vi 0,vi 0,vi 3,rf 215,Value.bool true,vi 181,rf 216,Value.none,rf 217,rf 218,rf 219,vi 469,vi 139,vs "/claim/cut.py" 470],
 Dx (A8 25) (Str.ofString "_law_many") (vs "law_uf020033_02" 399) 220,
 tO "tuple" #[],
 {cls:=Value.none,data:=Data.fields #[]},
 Nx (A8 26) (Str.ofString "_law_banded"),
 cO "code" #[vs "_law_banded" 472,vs "_law_banded" 473,vs "/claim/cut.py" 474,vi 146,vi 2,vi 0,vi 0,vi 3,rf 222,Value.bool true,vi 181,rf 223,Value.none,Value.none,Value.none,rf 224,vi 475,vi 146,vs "/claim/cut.py" 476],
 Dx (A8 26) (Str.ofString "_law_banded") (vs "law_uf020033_02" 399) 225,
 tO "tuple" #[],
 {cls:=Value.none,data:=Data.fields #[]},
 Nx (A8 27) (Str.ofString "_law_ringed"),
 cO "code" #[vs "_law_ringed" 478,vs "_law_ringed" 479,vs "/claim/cut.py" 480,vi 151,vi 2,vi 0,vi 0,vi 3,rf 227,Value.bool true,vi 181,rf 228,Value.none,Value.none,Value.none,rf 229,vi 481,vi 151,vs "/claim/cut.py" 482],
 Dx (A8 27) (Str.ofString "_law_ringed") (vs "law_uf020033_02" 399) 230,
 tO "tuple" #[],
 {cls:=Value.none,data:=Data.fields #[]},
 Nx (A8 28) (Str.ofString "_law_hubbed"),
 cO "code" #[vs "_law_hubbed" 484,vs "_law_hubbed" 485,vs "/claim/cut.py" 486,vi 159,vi 2,vi 0,vi 0,vi 3,rf 232,Value.bool true,vi 181,rf 233,Value.none,Value.none,Value.none,rf 234,vi 487,vi 159,vs "/claim/cut.py" 488],
 Dx (A8 28) (Str.ofString "_law_hubbed") (vs "law_uf020033_02" 399) 235],{}⟩,Array.mk [],{},490,os⟩
theorem Abe:∀w:World,(fun os=>topGo treeTable PySem.Challenge.pw_uf020033_02 w 11 (some (Value.ref 6)) 12 ⟨boot_heap w.params,Array.mk [],boot_drawn,boot_toks,os⟩ (topStub PySem.Challenge.pw_uf020033_02))=fun os=>some (s_a w.params os,⟨denote treeTable hC,hC,{line:=0,col:=0,endLine:=0,endCol:=0},hF⟩):=by
 intro w
 kernel_rfl
theorem Abf:∀w:World,(fun os=>segRun treeTable PySem.Challenge.pw_uf020033_02 w 11 (some (Value.ref 6)) 1 1 (s_a w.params os) (blockOf hB Xz hC {line:=0,col:=0,endLine:=0,endCol:=0} hF))=fun os=>some (Flow.next,s_b w.params os,hC,{line:=0,col:=0,endLine:=0,endCol:=0}):=by
 intro w
 kernel_rfl
theorem T6{p:Program}{w:World}{n₀:Nat}{ann:Option Value}{env:Env}{q:Pos}(k:Nat){n N:Nat}{s s' r:Shared}{b:List Stmt}{c:Code}{pos p':Pos}(h:segRun treeTable p w n₀ ann 1 n s (piecesOf (b.take k) env c pos [topFrame q])=some (.next,s',c,p'))
 (t:topRun treeTable p w n₀ ann N s' (restOf (b.drop k) env c p' [topFrame q])=some r):topRun treeTable p w n₀ ann (n+N) s (restOf b env c pos [topFrame q])=some r:=by
 have:=piece_app h t
 rwa[List.take_append_drop]at this
theorem Abg:∀w:World,(fun os=>segRun treeTable PySem.Challenge.pw_uf020033_02 w 11 (some (Value.ref 6)) 1 2161 (s_b w.params os) (piecesOf ((hB).take 29) Xz hC {line:=0,col:=0,endLine:=0,endCol:=0} hF))=fun os=>some (Flow.next,Zf w.params os,hC,{line:=159,col:=0,endLine:=163,endCol:=84}):=by
 intro w
 kernel_rfl
theorem Abh:∀w:World,(fun os=>(topRun treeTable PySem.Challenge.pw_uf020033_02 w 11 (some (Value.ref 6)) 456 (Zf w.params os) (restOf ((hB).drop 29) Xz hC {line:=159,col:=0,endLine:=163,endCol:=84} hF)).map (fun s=>(staticsOk (importedModules PySem.Challenge.pw_uf020033_02.main.body) (boot_heap w.params) s.heap&&namesBound PySem.Challenge.pw_uf020033_02 s.heap&&gensDone s&&laidKept (boot_heap w.params) s.heap,openSeen kq [] (importedModules PySem.Challenge.pw_uf020033_02.main.body) (fun s=>xlAt kq [] s&&recOk (RowW.records PySem.Challenge.rw_uf020033_02.row.toRowW) s) true s,Hook.obs kH s)))=fun os=>some (true,openGood kq [],Hook.val kH w):=by
 intro w
 kernel_rfl
theorem U9{p q:Program}{loose:List Str}{Xt:Shared->Bool}{α:Type}{Yf:Shared->α}{Ya:World->α}{N:Nat}{H₀:Params->Heap}{gs₀:Array GenState}{d₀:Drawn}{k₀:Nat}{m₀:Nat}{ann:Option Value}{M:Nat}
 (op:∀w:World,(fencedOpening treeTable p w N).map (fun s=>(s.heap,s.gens,s.drawn,s.toks))=some (H₀ w.params,gs₀,d₀,k₀))
 (size:∀w:World,((H₀ w.params).isNs mainGlobals&&gs₀.size==0,(H₀ w.params).objs.size,(H₀ w.params).nsMap mainGlobals "__annotations__")=(true,m₀,ann))
 (run:∀(w:World) (os:OsState),∃r,topRun treeTable p w m₀ ann M ⟨H₀ w.params,gs₀,d₀,k₀,os⟩ (topStub p)=some r/\(staticsOk (importedModules p.main.body) (H₀ w.params) r.heap&&namesBound p r.heap&&gensDone r&&laidKept (H₀ w.params) r.heap)=true/\openSeen q loose (importedModules p.main.body) Xt true r=openGood q loose/\Yf r=Ya w)
 (le:Nat.ble M N=true):LeftO p q loose Xt Yf Ya N:=fun w=>by
 obtain⟨⟨h,gs,d,k,os⟩,e,e'⟩:=Option.map_eq_some_iff.mp (op w)
 obtain⟨rfl,rfl,rfl,rfl⟩:h=H₀ w.params/\gs=gs₀/\d=d₀/\k=k₀:=by simpa using e'
 obtain⟨z1,z2,z3⟩:_/\_/\_:=by simpa only[Prod.mk.injEq]using size w
 obtain⟨r,hr,l1,l2,l3⟩:=run w os
 have r':=topRun_mono (N-M) _ _ _ _ hr
 rw[show M+(N-M)=N by have:=Nat.le_of_ble_eq_true le;omega]at r'
 have t:topFrom treeTable p w N ⟨H₀ w.params,gs,d,k,os⟩=some r:=by
  unfold topFrom
  dsimp only
  rw[z1,z2,z3,r']
  show (match staticsOk (importedModules p.main.body) (H₀ w.params) r.heap&&namesBound p r.heap&&gensDone r&&laidKept (H₀ w.params) r.heap with|true=>_|false=>_)=_
  rw[l1]
 unfold openEnds
 rw[e]
 show (topFrom treeTable p w N _).map _=_
 rw[t]
 exact congrArg some (Prod.ext l2 l3)
theorem b_e:opening PySem.Challenge.pw_uf020033_02=plainProg PySem.Challenge.pw_uf020033_02.main.scope.names:=by kernel_rfl
theorem b_f(s:Shared):fenceModules? PySem.Challenge.pw_uf020033_02 s=some s:=by kernel_rfl
theorem Zy(w:World):((boot_heap w.params).isNs mainGlobals&&(Array.mk ([]:List GenState)).size==0,(boot_heap w.params).objs.size,(boot_heap w.params).nsMap mainGlobals "__annotations__")=(true,11,some (Value.ref 6)):=by kernel_rfl
theorem Acf:LeftO PySem.Challenge.pw_uf020033_02 kq [] (fun s=>xlAt kq [] s&&recOk (RowW.records PySem.Challenge.rw_uf020033_02.row.toRowW) s) (Hook.obs kH) (Hook.val kH) 5164:=
 U9 (M:=12+(1+(2161+(456)))) (boot_open b_e (by decide) b_f) Zy (fun w os=>by
  obtain⟨r,hr,ho⟩:=Option.map_eq_some_iff.mp (congrFun (Abh w) os)
  obtain⟨o1,ho⟩:=Prod.mk.inj ho
  obtain⟨o2,o3⟩:=Prod.mk.inj ho
  exact⟨r,go_top (congrFun (Abe w) os) (piece_block (congrFun (Abf w) os) (T6 29 (congrFun (Abg w) os) (hr))),o1,o2,o3⟩) (by decide)
end Mine.Internal.Cl
namespace Mine.Internal
open PySem
theorem Aa{p:Prop}(h:¬p->False):p:=Classical.byContradiction h
inductive Li{α0:Type}(p:α0->Prop):Prop
 | mk (x0:α0) (h:p x0)
inductive Gx{α0 α1:Type}(p:α0->α1->Prop):Prop
 | mk (x0:α0) (x1:α1) (h:p x0 x1)
inductive Rm{α0 α1 α2:Type}(p:α0->α1->α2->Prop):Prop
 | mk (x0:α0) (x1:α1) (x2:α2) (h:p x0 x1 x2)
inductive Ex4{α0 α1 α2 α3:Type}(p:α0->α1->α2->α3->Prop):Prop
 | mk (x0:α0) (x1:α1) (x2:α2) (x3:α3) (h:p x0 x1 x2 x3)
inductive Ex5{α0 α1 α2 α3 α4:Type}(p:α0->α1->α2->α3->α4->Prop):Prop
 | mk (x0:α0) (x1:α1) (x2:α2) (x3:α3) (x4:α4) (h:p x0 x1 x2 x3 x4)
inductive Zz{α0 α1 α2 α3 α4 α5:Type}(p:α0->α1->α2->α3->α4->α5->Prop):Prop
 | mk (x0:α0) (x1:α1) (x2:α2) (x3:α3) (x4:α4) (x5:α5) (h:p x0 x1 x2 x3 x4 x5)
inductive Ex8{α0 α1 α2 α3 α4 α5 α6 α7:Type}(p:α0->α1->α2->α3->α4->α5->α6->α7->Prop):Prop
 | mk (x0:α0) (x1:α1) (x2:α2) (x3:α3) (x4:α4) (x5:α5) (x6:α6) (x7:α7) (h:p x0 x1 x2 x3 x4 x5 x6 x7)
inductive Go(a0 a1 a2:Prop):Prop
 | mk (h0:a0) (h1:a1) (h2:a2)
inductive Rq(a0 a1 a2 a3:Prop):Prop
 | mk (h0:a0) (h1:a1) (h2:a2) (h3:a3)
inductive Xx(a0 a1 a2 a3 a4:Prop):Prop
 | mk (h0:a0) (h1:a1) (h2:a2) (h3:a3) (h4:a4)
inductive Z0(a0 a1 a2 a3 a4 a5:Prop):Prop
 | mk (h0:a0) (h1:a1) (h2:a2) (h3:a3) (h4:a4) (h5:a5)
inductive Acg(a0 a1 a2 a3 a4 a5 a6 a7 a8 a9 a10 a11 a12:Prop):Prop
 | mk (h0:a0) (h1:a1) (h2:a2) (h3:a3) (h4:a4) (h5:a5) (h6:a6) (h7:a7) (h8:a8) (h9:a9) (h10:a10) (h11:a11) (h12:a12)
inductive V where
 | none|bool (b:Bool)|int (i:Int)|str (s:List Nat)|ref (a:Nat)|fn (f:Str)|script (ns:List Int)
inductive Cp where
 | web|verdict|webError|badWeb|noPoint|badText|badOrder|hasGap
 deriving DecidableEq
inductive C6 where
 | many|rows
 deriving DecidableEq
inductive Ty where
 | int|bool|list|tuple|str
 deriving DecidableEq
inductive BI where
 | len|list|listRange|sorted|max|min|minL|all|any|lenSet|sortedSet|isinst (t:Ty)|str|int
 deriving DecidableEq
inductive LM where
 | append|clear|count|extend|index|remove|reverse|setdefault|split|join
 deriving DecidableEq
inductive O where
 | list (xs:List V)|tuple (xs:List V)|dict (es:List (Int×V))|inst (c:Cp) (d:Nat)|ns (fs:List (C6×V))|exc (c:Cp)
noncomputable abbrev AH:=Nat->Option O
noncomputable def upd(h:AH)(a:Nat)(o:O):AH:=fun b=>if b=a then some o else h b
noncomputable abbrev Ao:=List (Option V)
set_option genCtorIdx false in
inductive X where
 | omit
 | cnone|cbool (b:Bool)|cint (i:Int)|cstr (s:Str)
 | var (i:Nat)
 | glob (g:Str)
 | fnv (f:Str)
 | not (e:X)|neg (e:X)
 | and (l r:X)|or (l r:X)
 | bin (op:Operator) (l r:X)
 | cmp (op:CmpOp) (l r:X)
 | chain (l:X) (op1:CmpOp) (m:X) (op2:CmpOp) (r:X)
 | ite (t a b:X)
 | call (f:Str) (args:List X)
 | callv (f:X) (args:List X)
 | mk (c:Cp) (args:List X)
 | meth (m:Str) (o:X) (args:List X)
 | bi (b:BI) (args:List X)
 | isown (c:Cp) (e:X)
 | isVE (e:X)
 | lm (m:LM) (o:X) (args:List X)
 | attr (o:X) (a:C6)
 | sub (o i:X)
 | slice (o l u s:X)
 | list (es:List X)|tuple (es:List X)|dict (ks vs:List X)
 | range (args:List X)|enum (e:X)|rev (e:X)|val (e:X)
 | comp (k:Nat) (src elt:X)
 | compIf (k:Nat) (src cond elt:X)
set_option genCtorIdx false in
inductive P8 where
 | one (i:Nat)|two (i j:Nat)
set_option genCtorIdx false in
inductive S where
 | assign (i:Nat) (e:X)
 | setattr (o:X) (a:C6) (e:X)
 | setitem (o i e:X)
 | expr (e:X)
 | ite (t:X) (a b:List S)
 | for (t:P8) (src:X) (body:List S)
 | while (t:X) (body:List S)
 | ret (e:X)
 | pass
 | raise (c:Cp)
 | try1 (body:List S) (c:Cp) (as:Option Nat) (h:List S)
 | tryR (body:List S) (c c':Cp)
 | try2 (body:List S) (c:Cp) (as:Option Nat) (h:List S) (c':Cp) (h':List S)
set_option genCtorIdx false in
structure Fn where
 slots:Nat
 arity:Nat
 body:List S
set_option genCtorIdx false in
structure Ap where
 fn:Str->Option Fn
 const:Str->Option V
 exc:Cp->Bool
noncomputable abbrev Ad:=V->AH->Prop
noncomputable abbrev EP:=V->AH->Prop
noncomputable abbrev EF:EP:=fun _ _=>False
noncomputable abbrev CS:=Str->List V->AH->Ad->EP->Prop
noncomputable def B6:Nat:=1048576
noncomputable def A5(o:O)(H:AH)(Q:Ad):Prop:=∀a,H a=none->Q (.ref a) (upd H a o)
noncomputable def Bl(v:V)(P:Nat->Prop):Prop:=match v with | .ref a=>P a|_=>False
noncomputable def A0(v:V)(P:Int->Prop):Prop:=match v with | .int i=>P i|_=>False
noncomputable def Oa(v:V)(P:List Nat->Prop):Prop:=match v with | .str s=>P s|_=>False
noncomputable def Z1(s:List Nat)(P:Nat->Prop):Prop:=match s with | [c]=>P c|_=>False
noncomputable def Ob(o:Option O)(P:List V->Prop):Prop:=match o with|some (.list xs)=>P xs|_=>False
noncomputable def onD(o:Option O)(P:List (Int×V)->Prop):Prop:=match o with|some (.dict es)=>P es|_=>False
noncomputable def Mq(o:Option O)(P:Cp->Nat->Prop):Prop:=match o with|some (.inst c d)=>P c d|_=>False
noncomputable def S6(o:Option O)(P:Nat->Prop):Prop:=match o with|some (.inst .web d)=>P d|_=>False
noncomputable def P9(o:Option O)(P:List (C6×V)->Prop):Prop:=match o with|some (.ns fs)=>P fs|_=>False
noncomputable def Ff{α:Type}(o:Option α)(P:α->Prop):Prop:=match o with|some x=>P x|none=>False
noncomputable def on0(vs:List V)(P:Prop):Prop:=match vs with | []=>P|_=>False
noncomputable def Rr(vs:List V)(P:V->Prop):Prop:=match vs with | [v]=>P v|_=>False
noncomputable def X0(vs:List V)(P:V->V->Prop):Prop:=match vs with | [v,w]=>P v w|_=>False
noncomputable def ints? :List V->Option (List Int)
 | []=>some []
 | .int i::r=>(ints? r).map (i :: ·)
 | _=>none
noncomputable def strs? :List V->Option (List (List Nat))
 | []=>some []
 | .str s::r=>(strs? r).map (s :: ·)
 | _=>none
/-! texts -/
noncomputable def Lj(c:Nat):Bool:=decide (48<=c)&&decide (c<=57)
noncomputable def Bg:List Nat->Option Nat
 | [a]=>if Lj a then some (a-48)else none
 | [a,b]=>if Lj a&&Lj b then some ((a-48)*10+(b-48))else none
 | _=>none
noncomputable def Gy(n:Nat):List Nat:=if n<10 then [48+n]else [48+n/10,48+n%10]
noncomputable def Kh(d:Nat):List (List Nat)->List (List Nat)
 | []=>[[d]]
 | p::ps=>(d::p)::ps
noncomputable def Af(c:Nat):List Nat->List (List Nat)
 | []=>[[]]
 | d::r=>if d=c then []::Af c r else Kh d (Af c r)
noncomputable def B7(x:List Nat):List (List Nat)->List Nat
 | []=>[]
 | t::r=>(match r with
   | []=>t
   | _::_=>t++x++B7 x r)
noncomputable def Mc(x:Int):List Int->List Int
 | []=>[x]
 | y::r=>if x<=y then x::y::r else y::Mc x r
noncomputable def Cn:List Int->List Int
 | []=>[]
 | x::r=>Mc x (Cn r)
noncomputable def Ci(k:Int)(n:Nat):Option Nat:=
 if 0<=k then(if k<n then some k.toNat else none)else(if 0<=k+n then some (k+n).toNat else none)
noncomputable def Cs(k:Int)(n:Nat):Nat:=if k<0 then(k+n).toNat else min k.toNat n
noncomputable def dget(es:List (Int×V))(k:Int):Option V:=es.lookup k
noncomputable def Fo(es:List (Int×V))(k:Int)(v:V):List (Int×V):=
 match es with
 | []=>[(k,v)]
 | (k',v')::r=>if k=k' then(k,v)::r else(k',v')::Fo r k v
noncomputable def Iv(fs:List (C6×V))(a:C6):Option V:=fs.lookup a
noncomputable def Md(fs:List (C6×V))(k:C6)(v:V):List (C6×V):=
 match fs with
 | []=>[(k,v)]
 | (k',v')::r=>if k=k' then(k,v)::r else(k',v')::Md r k v
noncomputable def T7:V->V->Option Bool
 | .int i,.int j=>some (decide (i=j))
 | .bool a,.bool b=>some (a==b)
 | .none,.none=>some true
 | .none,.int _=>some false
 | .int _,.none=>some false
 | .none,.bool _=>some false
 | .bool _,.none=>some false
 | .str x,.str y=>some (decide (x=y))
 | _,_=>none
noncomputable def Ic:List (Option Bool)->Option Bool
 | []=>some true
 | none::_=>none
 | some r::t=>(Ic t).map (r && ·)
noncomputable def Rs:List (Option Bool)->Option Bool
 | []=>some false
 | none::_=>none
 | some r::t=>(Rs t).map (r || ·)
noncomputable def Mi:Nat->AH->V->V->Option Bool
 | 0,_,a,b=>T7 a b
 | n+1,H,a,b=>match a,b with
   | .ref x,.ref y=>(match H x,H y with
     | some (.list xs),some (.list ys)=>if xs.length=ys.length then Ic (List.zipWith (Mi n H) xs ys)else some false
     | some (.tuple xs),some (.tuple ys)=>if xs.length=ys.length then Ic (List.zipWith (Mi n H) xs ys)else none
     | _,_=>none)
   | .ref x,.none=>(match H x with|some (.list _)=>some false|some (.tuple _)=>some false|_=>none)
   | .none,.ref x=>(match H x with|some (.list _)=>some false|some (.tuple _)=>some false|_=>none)
   | a,b=>T7 a b
noncomputable def Va(v:V)(xs:List V):Option Bool:=Rs (xs.map fun x=>T7 x v)
noncomputable def E1:Nat:=5
noncomputable def Abj(a b:V)(H:AH)(Q:Ad):Prop:=A0 a fun i=>A0 b fun j=>Q (.bool (decide (i<j))) H
noncomputable def Abk(a b:V)(H:AH)(Q:Ad):Prop:=A0 a fun i=>A0 b fun j=>Q (.bool (decide (i<=j))) H
noncomputable def Abl(a b:V)(H:AH)(Q:Ad):Prop:=A0 a fun i=>A0 b fun j=>Q (.bool (decide (j<i))) H
noncomputable def Abm(a b:V)(H:AH)(Q:Ad):Prop:=A0 a fun i=>A0 b fun j=>Q (.bool (decide (j<=i))) H
noncomputable def isB:V->V->Option Bool
 | .none,.none=>some true
 | .bool x,.bool y=>some (x==y)
 | .ref _,.none=>some false
 | .int _,.none=>some false
 | .bool _,.none=>some false
 | .str _,.none=>some false
 | _,_=>none
noncomputable def Abn(a b:V)(H:AH)(Q:Ad):Prop:=Ff (isB a b) fun r=>Q (.bool r) H
noncomputable def Zg(a b:V)(H:AH)(Q:Ad):Prop:=Ff (isB a b) fun r=>Q (.bool (!r)) H
noncomputable def Qa(v b:V)(H:AH)(Q:Ad):Prop:=match b with
 | .ref a=>(match H a with
   | some (.list xs)=>Ff (Va v xs) fun r=>Q (.bool r) H
   | some (.tuple xs)=>Ff (Va v xs) fun r=>Q (.bool r) H
   | some (.dict es)=>A0 v fun k=>Q (.bool (dget es k).isSome) H
   | _=>False)
 | .str y=>Oa v fun x=>Z1 x fun c=>Q (.bool (decide (c∈y))) H
 | _=>False
noncomputable def Bz(op:CmpOp)(a b:V)(H:AH)(Q:Ad):Prop:=
 match op with
 | .Lt=>Abj a b H Q
 | .LtE=>Abk a b H Q
 | .Gt=>Abl a b H Q
 | .GtE=>Abm a b H Q
 | .Eq=>Ff (Mi E1 H a b) fun r=>Q (.bool r) H
 | .NotEq=>Ff (Mi E1 H a b) fun r=>Q (.bool (!r)) H
 | .Is=>Abn a b H Q
 | .IsNot=>Zg a b H Q
 | .In=>Qa a b H Q
 | .NotIn=>Qa a b H (fun v H=>match v with | .bool r=>Q (.bool (!r)) H|_=>False)
noncomputable def S7(a b:V)(H:AH)(Q:Ad):Prop:=match a with
 | .int i=>A0 b fun j=>Q (.int (i+j)) H
 | .ref a=>Bl b fun b=>Ob (H a) fun xs=>Ob (H b) fun ys=>xs.length+ys.length<=B6/\A5 (.list (xs++ys)) H Q
 | .str x=>Oa b fun y=>x.length+y.length<=B6/\Q (.str (x++y)) H
 | _=>False
noncomputable def S8(a b:V)(H:AH)(Q:Ad):Prop:=A0 b fun k=>match a with
 | .int i=>(i.natAbs<2 ^ 64\/k.natAbs<2 ^ 64)/\Q (.int (i*k)) H
 | .ref a=>Ob (H a) fun xs=>(0<=k/\k<=1000/\xs.length*k.toNat<=B6)/\A5 (.list (List.replicate k.toNat xs).flatten) H Q
 | _=>False
noncomputable def Vb(a b:V)(H:AH)(Q:Ad):Prop:=A0 a fun i=>A0 b fun j=>Q (.int (i-j)) H
noncomputable def Vc(a b:V)(H:AH)(Q:Ad):Prop:=A0 a fun i=>A0 b fun j=>(j≠0/\j.natAbs<=10 ^ 30)/\Q (.int (i.fdiv j)) H
noncomputable def Vd(a b:V)(H:AH)(Q:Ad):Prop:=A0 a fun i=>A0 b fun j=>(j≠0/\j.natAbs<=10 ^ 30)/\Q (.int (i.fmod j)) H
noncomputable def Fp(op:Operator)(a b:V)(H:AH)(Q:Ad):Prop:=
 match op with
 | .Add=>S7 a b H Q
 | .Sub=>Vb a b H Q
 | .Mult=>S8 a b H Q
 | .FloorDiv=>Vc a b H Q
 | .Mod=>Vd a b H Q
 | _=>False
noncomputable def Cj(o i:V)(H:AH)(Q:Ad):Prop:=A0 i fun k=>match o with
 | .ref a=>(match H a with
   | some (.list xs)=>Ff (Ci k xs.length) fun j=>Ff xs[j]? fun v=>Q v H
   | some (.tuple xs)=>Ff (Ci k xs.length) fun j=>Ff xs[j]? fun v=>Q v H
   | some (.dict es)=>Ff (dget es k) fun v=>Q v H
   | _=>False)
 | .script ns=>Ff (Ci k ns.length) fun j=>Ff ns[j]? fun i=>Q (.int i) H
 | .str x=>x.length<=B6/\Ff (Ci k x.length) fun j=>Ff x[j]? fun c=>Q (.str [c]) H
 | _=>False
noncomputable def bound? :V->Option (Option Int)
 | .none=>some none
 | .int k=>some (some k)
 | _=>none
noncomputable def cut{α:Type}(xs:List α)(l u:Option Int):List α:=
 ((xs.take (match u with|some k=>Cs k xs.length|none=>xs.length)).drop (match l with|some k=>Cs k xs.length|none=>0))
noncomputable def Ve(x:List Nat)(l u s:V)(H:AH)(Q:Ad):Prop:=Ff (bound? l) fun l'=>Ff (bound? u) fun u'=>(s = .none/\x.length<=B6)/\Q (.str (cut x l' u')) H
noncomputable def Vf(xs:List V)(l' u':Option Int)(s:V)(H:AH)(Q:Ad):Prop:=match s with
 | .none=>A5 (.list (cut xs l' u')) H Q
 | _=>False
noncomputable def O5(a:Nat)(l u s:V)(H:AH)(Q:Ad):Prop:=Ff (bound? l) fun l'=>Ff (bound? u) fun u'=>Ob (H a) fun xs=>Vf xs l' u' s H Q
noncomputable def F6(o l u s:V)(H:AH)(Q:Ad):Prop:=match o with
 | .ref a=>O5 a l u s H Q
 | .str x=>Ve x l u s H Q
 | _=>False
noncomputable def Hz(o:O)(t:Ty):Option Bool:=match o with
 | .list _=>(match t with | .list=>some true|_=>some false)
 | .tuple _=>(match t with | .tuple=>some true|_=>some false)
 | .exc _=>none
 | .dict _=>none
 | .inst _ _=>none
 | .ns _=>none
noncomputable def Iw(t:Ty)(v:V)(H:AH):Option Bool:=
 match v with
 | .ref a=>(match H a with|some o=>Hz o t|none=>none)
 | .int _=>(match t with | .int=>some true|_=>some false)
 | .bool _=>(match t with | .int=>some true | .bool=>some true|_=>some false)
 | .str _=>(match t with | .str=>some true|_=>some false)
 | .none=>some false
 | .fn _=>none
 | .script _=>none
noncomputable def E2(_:Ty):Bool:=true
noncomputable def Mr(args:List V)(H:AH)(Q:Ad):Prop:=Rr args fun v=>match v with
 | .script ns=>Q (.int ns.length) H
 | .str x=>x.length<=B6/\Q (.int x.length) H
 | .ref a=>(match H a with
   | some (.list xs)=>Q (.int xs.length) H
   | some (.tuple xs)=>Q (.int xs.length) H
   | some (.dict es)=>Q (.int es.length) H
   | _=>False)
 | _=>False
noncomputable def Ix(args:List V)(H:AH)(Q:Ad):Prop:=Rr args fun v=>Bl v fun a=>match H a with
 | some (.list xs)=>A5 (.list xs) H Q
 | some (.tuple xs)=>A5 (.list xs) H Q
 | _=>False
noncomputable def Abo(args:List V)(H:AH)(Q:Ad):Prop:=match args with
 | [v]=>A0 v fun n=>(-B6<=n/\n<=B6)/\A5 (.list ((List.range n.toNat).map fun(i:Nat)=>V.int i)) H Q
 | [v,w]=>A0 v fun m=>A0 w fun n=>(0<=m/\m<=B6/\ -B6<=n/\n<=B6)/\A5 (.list ((List.range (n-m).toNat).map fun(i:Nat)=>V.int (m+i))) H Q
 | _=>False
noncomputable def Iy(args:List V)(H:AH)(Q:Ad):Prop:=Rr args fun v=>Bl v fun a=>match H a with
 | some (.list xs)=>(match ints? xs with|some ns=>ns.length<64/\A5 (.list ((Cn ns).map V.int)) H Q|none=>False)
 | some (.dict es)=>es.length<64/\A5 (.list ((Cn (es.map (·.1))).map V.int)) H Q
 | _=>False
noncomputable def Zh(args:List V)(H:AH)(Q:Ad):Prop:=X0 args fun v w=>A0 v fun i=>A0 w fun j=>Q (.int (max i j)) H
noncomputable def Zi(args:List V)(H:AH)(Q:Ad):Prop:=X0 args fun v w=>A0 v fun i=>A0 w fun j=>Q (.int (min i j)) H
noncomputable def Aci(t:Ty)(args:List V)(H:AH)(Q:Ad):Prop:=match args with
 | [v]=>E2 t=true/\(match Iw t v H with|some r=>Q (.bool r) H|none=>False)
 | _=>False
noncomputable def Zj(args:List V)(H:AH)(Q:Ad):Prop:=Rr args fun v=>match v with
 | .bool b=>Q (.int (if b then 1 else 0)) H
 | .str x=>Ff (Bg x) fun i=>Q (.int (i:Int)) H
 | _=>False
noncomputable def Zk(args:List V)(H:AH)(Q:Ad):Prop:=Rr args fun v=>A0 v fun i=>(0<=i/\i<100)/\Q (.str (Gy i.toNat)) H
noncomputable def D7(b:BI)(args:List V)(H:AH)(Q:Ad):Prop:=
 match b with
 | .len=>Mr args H Q
 | .list=>Ix args H Q
 | .listRange=>Abo args H Q
 | .sorted=>Iy args H Q
 | .max=>Zh args H Q
 | .min=>Zi args H Q
 | .minL=>False
 | .all=>False
 | .any=>False
 | .lenSet=>False
 | .sortedSet=>False
 | .isinst t=>Aci t args H Q
 | .str=>Zk args H Q
 | .int=>Zj args H Q
noncomputable def O6(o:V)(args:List V)(H:AH)(Q:Ad):Prop:=Bl o fun a=>Rr args fun v=>Ob (H a) fun xs=>xs.length<B6/\Q .none (upd H a (.list (xs ++ [v])))
noncomputable def Vg(o:V)(args:List V)(H:AH)(Q:Ad):Prop:=Oa o fun x=>Rr args fun v=>Oa v fun y=>Z1 y fun c=>x.length<B6/\A5 (.list ((Af c x).map V.str)) H Q
noncomputable def Zl(o:V)(args:List V)(H:AH)(Q:Ad):Prop:=Oa o fun x=>Rr args fun v=>Bl v fun a=>Ob (H a) fun xs=>Ff (strs? xs) fun ts=>(x.length<=1000/\(B7 x ts).length<=B6)/\Q (.str (B7 x ts)) H
noncomputable def Ru(m:LM)(o:V)(args:List V)(H:AH)(Q:Ad):Prop:=
 match m with
 | .append=>O6 o args H Q
 | .clear=>False
 | .count=>False
 | .extend=>False
 | .index=>False
 | .remove=>False
 | .reverse=>False
 | .setdefault=>False
 | .split=>Vg o args H Q
 | .join=>Zl o args H Q
noncomputable def lmL:LM->Prop
 | .setdefault=>False
 | .split=>False
 | .join=>False
 | _=>True
noncomputable def lmS:LM->Prop
 | .split=>True
 | .join=>True
 | _=>False
noncomputable def Gz(m:LM)(o:V)(H:AH):Prop:=match o with
 | .ref a=>(match H a with
   | some (.list _)=>lmL m
   | some (.dict _)=>m = .setdefault
   | _=>False)
 | .str _=>lmS m
 | _=>False
noncomputable def setAttr(o:V)(t:C6)(v:V)(H:AH)(N:AH->Prop):Prop:=Bl o fun a=>Mq (H a) fun _ d=>P9 (H d) fun fs=>fs.length<10/\N (upd H d (.ns (Md fs t v)))
noncomputable def getAttr(o:V)(t:C6)(H:AH)(Q:Ad):Prop:=Bl o fun a=>Mq (H a) fun _ d=>P9 (H d) fun fs=>Ff (Iv fs t) fun v=>Q v H
noncomputable def setItem(o i v:V)(H:AH)(N:AH->Prop):Prop:=Bl o fun a=>A0 i fun k=>match H a with
 | some (.list xs)=>Ff (Ci k xs.length) fun j=>N (upd H a (.list (xs.set j v)))
 | some (.dict es)=>es.length<B6/\N (upd H a (.dict (Fo es k v)))
 | _=>False
set_option genCtorIdx false in
inductive It where
 | v (x:V)|pair (a b:V)
noncomputable def Ki(v:V)(H:AH)(K:List It->(AH->Prop)->AH->Prop):Prop:=match v with
 | .ref a=>(match H a with
   | some (.list xs)=>K (xs.map .v) (fun H'=>H' a=some (.list xs)) H
   | some (.tuple xs)=>K (xs.map .v) (fun H'=>H' a=some (.tuple xs)) H
   | some (.dict es)=>K (es.map fun e=> .v (.int e.1)) (fun _=>True) (fun b=>if b=a then none else H b)
   | _=>False)
 | .str x=>K (x.map fun c=> .v (.str [c])) (fun _=>True) H
 | _=>False
noncomputable def Vh(v:V)(H:AH)(K:List It->(AH->Prop)->AH->Prop):Prop:=Bl v fun a=>Ob (H a) fun xs=>K (xs.mapIdx fun i x=> .pair (.int i) x) (fun H'=>H' a=some (.list xs)) H
noncomputable def Zm(v:V)(H:AH)(K:List It->(AH->Prop)->AH->Prop):Prop:=Bl v fun a=>Ob (H a) fun xs=>K (xs.reverse.map .v) (fun H'=>H' a=some (.list xs)) H
noncomputable def Kj(vs:List V)(H:AH)(K:List It->(AH->Prop)->AH->Prop):Prop:=
 match vs with
 | [v]=>A0 v fun n=>(-B6<=n/\n<=B6)/\K ((List.range n.toNat).map fun(i:Nat)=> .v (.int i)) (fun _=>True) H
 | [v,w]=>A0 v fun m=>A0 w fun n=>(0<=m/\m<=B6/\ -B6<=n/\n<=B6)/\K ((List.range (n-m).toNat).map fun(i:Nat)=> .v (.int (m+i))) (fun _=>True) H
 | _=>False
noncomputable def Kl(t:P8)(i:It)(ρ:Ao)(H:AH)(N:Ao->Prop):Prop:=
 match t,i with
 | .one k,.v x=>N (ρ.set k (some x))
 | .two k l,.pair a b=>N ((ρ.set k (some a)).set l (some b))
 | .two k l,.v (.ref a)=>(match H a with
   | some (.tuple [x,y])=>N ((ρ.set k (some x)).set l (some y))
   | _=>False)
 | _,_=>False
noncomputable def Lk(g:AH->Prop)(t:P8)(body:Ao->AH->(Ao->AH->Prop)->Prop)(N:Ao->AH->Prop):List It->Ao->AH->Prop
 | [],ρ,H=>g H/\N ρ H
 | i::r,ρ,H=>g H/\Kl t i ρ H fun ρ'=>body ρ' H fun ρ'' H''=>Lk g t body N r ρ'' H''
noncomputable def B9(g:AH->Prop)(t:P8)(elt:Ao->AH->(Option V->AH->Prop)->Prop)(Q:List V->AH->Prop):List It->List V->Ao->AH->Prop
 | [],acc,_,H=>g H/\Q acc H
 | i::r,acc,ρ,H=>g H/\Kl t i ρ H fun ρ'=>elt ρ' H fun o H''=>B9 g t elt Q r (match o with|some v=>acc ++ [v]|none=>acc) ρ' H''
noncomputable def truthy(v:V)(Q:Bool->Prop):Prop:=match v with | .bool b=>Q b|_=>False
noncomputable def O7(c:Cp)(o:O):Option Bool:=match o with
 | .exc c'=>some (c'==c||c == .webError)
 | _=>none
noncomputable def Ct(c:Cp)(v:V)(H:AH):Option Bool:=
 match v with
 | .ref a=>(match H a with|some o=>O7 c o|none=>none)
 | _=>none
theorem Km{c:Cp}{a:Nat}{H:AH}{o:O}(h:H a=some o):Ct c (.ref a) H=O7 c o:=by
 show (match H a with|some o=>O7 c o|none=>none)=_
 rw[h]
theorem Vi{c:Cp}{a:Nat}{H:AH}(h:H a=none):Ct c (.ref a) H=none:=by
 show (match H a with|some o=>O7 c o|none=>none)=_
 rw[h]
noncomputable def T8(i:Option Nat)(ρ:Ao):Ao:=match i with|some _=>[]|none=>ρ
noncomputable def T9(i:Option Nat)(v:Option V)(ρ:Ao):Ao:=match i with|some i=>ρ.set i v|none=>ρ
noncomputable def G0:Cp->Str
 | .web=> "Web.__init__"
 | _=> "Verdict.__init__"
noncomputable def D8(k:Nat):P8:=if k=1 then .one 0 else .two 0 1
mutual
noncomputable def Ay(G:Ap)(C:CS):X->Ao->AH->Ad->EP->Prop
 | .omit,_,H,Q,_=>Q .none H
 | .cnone,_,H,Q,_=>Q .none H
 | .cbool b,_,H,Q,_=>Q (.bool b) H
 | .cint i,_,H,Q,_=>Q (.int i) H
 | .cstr s,_,H,Q,_=>Q (.str s.cps.toList) H
 | .var i,ρ,H,Q,_=>(match ρ[i]? with|some (some v)=>Q v H|_=>False)
 | .glob g,_,H,Q,_=>(match G.const g with|some v=>Q v H|none=>False)
 | .fnv f,_,H,Q,_=>(G.fn f).isSome=true/\Q (.fn f) H
 | .not e,ρ,H,Q,E=>Ay G C e ρ H (fun v H=>truthy v fun b=>Q (.bool (!b)) H) E
 | .neg e,ρ,H,Q,E=>Ay G C e ρ H (fun v H=>match v with | .int i=>Q (.int (-i)) H|_=>False) E
 | .and l r,ρ,H,Q,E=>Ay G C l ρ H (fun v H=>truthy v fun b=>if b then Ay G C r ρ H Q E else Q (.bool false) H) E
 | .or l r,ρ,H,Q,E=>Ay G C l ρ H (fun v H=>truthy v fun b=>if b then Q (.bool true) H else Ay G C r ρ H Q E) E
 | .bin op l r,ρ,H,Q,E=>Ay G C l ρ H (fun a H=>Ay G C r ρ H (fun b H=>Fp op a b H Q) E) E
 | .cmp op l r,ρ,H,Q,E=>Ay G C l ρ H (fun a H=>Ay G C r ρ H (fun b H=>Bz op a b H Q) E) E
 | .chain l o1 m o2 r,ρ,H,Q,E=>Ay G C l ρ H (fun a H=>Ay G C m ρ H (fun b H=>Bz o1 a b H fun c H=>truthy c fun t=>
    if t then Ay G C r ρ H (fun d H=>Bz o2 b d H Q) E else Q (.bool false) H) E) E
 | .ite t a b,ρ,H,Q,E=>Ay G C t ρ H (fun v H=>truthy v fun c=>if c then Ay G C a ρ H Q E else Ay G C b ρ H Q E) E
 | .call f args,ρ,H,Q,E=>(G.fn f).isSome=true/\Dj G C args ρ H (fun vs H=>C f vs H Q E) E
 | .callv f args,ρ,H,Q,E=>Ay G C f ρ H (fun v H=>match v with | .fn g=>Dj G C args ρ H (fun vs H=>C g vs H Q E) E|_=>False) E
 | .mk c args,ρ,H,Q,E=>(G.fn (G0 c)).isSome=true/\Dj G C args ρ H (fun vs H=>∀a d,H a=none->H d=none->a≠d->
    C (G0 c) (.ref a::vs) (upd (upd H d (.ns [])) a (.inst c d)) (fun r H'=>r = .none/\Q (.ref a) H') E) E
 | .meth m o args,ρ,H,Q,E=>Ay G C o ρ H (fun v H=>Bl v fun a=>S6 (H a) fun d=>P9 (H d) fun _=>(G.fn m).isSome=true/\Dj G C args ρ H (fun vs H=>C m (.ref a::vs) H Q E) E) E
 | .bi b args,ρ,H,Q,E=>Dj G C args ρ H (fun vs H=>D7 b vs H Q) E
 | .isown c e,ρ,H,Q,E=>G.exc c=true/\Ay G C e ρ H (fun v H=>match Ct c v H with|some r=>Q (.bool r) H|none=>False) E
 | .lm m o args,ρ,H,Q,E=>Ay G C o ρ H (fun v H=>Gz m v H/\Dj G C args ρ H (fun vs H=>Ru m v vs H Q) E) E
 | .isVE e,ρ,H,Q,E=>Ay G C e ρ H (fun v H=>match Ct .webError v H with|some true=>Q (.bool true) H|_=>False) E
 | .attr o a,ρ,H,Q,E=>Ay G C o ρ H (fun v H=>getAttr v a H Q) E
 | .sub o i,ρ,H,Q,E=>Ay G C o ρ H (fun a H=>Ay G C i ρ H (fun b H=>Cj a b H Q) E) E
 | .slice o l u s,ρ,H,Q,E=>Ay G C o ρ H (fun a H=>Ay G C l ρ H (fun x H=>Ay G C u ρ H (fun y H=>Ay G C s ρ H (fun z H=>F6 a x y z H Q) E) E) E) E
 | .list es,ρ,H,Q,E=>Dj G C es ρ H (fun vs H=>A5 (.list vs) H Q) E
 | .tuple es,ρ,H,Q,E=>Dj G C es ρ H (fun vs H=>A5 (.tuple vs) H Q) E
 | .dict ks vs,ρ,H,Q,E=>Dj G C ks ρ H (fun as H=>Dj G C vs ρ H (fun bs H=>match as,bs with
    | [],[]=>A5 (.dict []) H Q
    | [.int k],[v]=>A5 (.dict [(k,v)]) H Q
    | _,_=>False) E) E
 | .range _,_,_,_,_=>False
 | .enum _,_,_,_,_=>False
 | .rev _,_,_,_,_=>False
 | .val _,_,_,_,_=>False
 | .comp k src elt,ρ,H,Q,E=>Et G C src ρ H (fun its g H=>its.length<=B6/\
    B9 g (D8 k) (fun ρ H K=>Ay G C elt ρ H (fun v H=>K (some v) H) E) (fun vs H=>A5 (.list vs) H Q) its [] (List.replicate k none++ρ) H) E
 | .compIf k src cond elt,ρ,H,Q,E=>Et G C src ρ H (fun its g H=>its.length<=B6/\
    B9 g (D8 k) (fun ρ H K=>Ay G C cond ρ H (fun c H=>truthy c fun b=>if b then Ay G C elt ρ H (fun v H=>K (some v) H) E else K none H) E)
     (fun vs H=>A5 (.list vs) H Q) its [] (List.replicate k none++ρ) H) E
noncomputable def Dj(G:Ap)(C:CS):List X->Ao->AH->(List V->AH->Prop)->EP->Prop
 | [],_,H,Q,_=>Q [] H
 | e::r,ρ,H,Q,E=>Ay G C e ρ H (fun v H=>Dj G C r ρ H (fun vs H=>Q (v::vs) H) E) E
noncomputable def Et(G:Ap)(C:CS):X->Ao->AH->(List It->(AH->Prop)->AH->Prop)->EP->Prop
 | .range args,ρ,H,K,E=>Dj G C args ρ H (fun vs H=>Kj vs H K) E
 | .enum e,ρ,H,K,E=>Ay G C e ρ H (fun v H=>Vh v H K) E
 | .rev e,ρ,H,K,E=>Ay G C e ρ H (fun v H=>Zm v H K) E
 | .val e,ρ,H,K,E=>Ay G C e ρ H (fun v H=>Ki v H K) E
 | _,_,_,_,_=>False
end
mutual
noncomputable def Ny(G:Ap)(C:CS):S->Ao->AH->(Ao->AH->Prop)->Ad->EP->Prop
 | .assign i e,ρ,H,N,_,E=>Ay G C e ρ H (fun v H=>N (ρ.set i (some v)) H) E
 | .setattr o a e,ρ,H,N,_,E=>Ay G C e ρ H (fun v H=>Ay G C o ρ H (fun ov H=>setAttr ov a v H fun H=>N ρ H) E) E
 | .setitem o i e,ρ,H,N,_,E=>Ay G C e ρ H (fun v H=>Ay G C o ρ H (fun ov H=>Ay G C i ρ H (fun iv H=>setItem ov iv v H fun H=>N ρ H) E) E) E
 | .expr e,ρ,H,N,_,E=>Ay G C e ρ H (fun _ H=>N ρ H) E
 | .ite t a b,ρ,H,N,R,E=>Ay G C t ρ H (fun v H=>truthy v fun c=>if c then Bt G C a ρ H N R E else Bt G C b ρ H N R E) E
 | .for t src body,ρ,H,N,R,E=>Et G C src ρ H (fun its g H=>Lk g t (fun ρ H K=>Bt G C body ρ H K R E) N its ρ H) E
 | .while t body,ρ,H,N,R,E=>∃I:Nat->Ao->AH->Prop,(∃n,I n ρ H)/\∀n ρ H,I n ρ H->
    Ay G C t ρ H (fun v H=>truthy v fun c=>if c then Bt G C body ρ H (fun ρ H=>∃m,m<n/\I m ρ H) R E else N ρ H) E
 | .ret e,ρ,H,_,R,E=>Ay G C e ρ H R E
 | .pass,ρ,H,N,_,_=>N ρ H
 | .raise c,_,H,_,_,E=>G.exc c=true/\∀a,H a=none->E (.ref a) (upd H a (.exc c))
 | .try1 body c as h,ρ,H,N,R,_=>G.exc c=true/\Bt G C body ρ H N R fun e H=>match Ct c e H with
    | some true=>Bt G C h (T9 as (some e) ρ) H (fun ρ H=>N (T8 as ρ) H) R EF
    | _=>False
 | .tryR body c c',ρ,H,N,R,E=>(G.exc c=true/\G.exc c'=true/\c = .badWeb/\c' = .badText)/\Bt G C body ρ H N R fun e H=>match Ct c e H with
    | some true=>∀a,H a=none->E (.ref a) (upd H a (.exc c'))
    | _=>False
 | .try2 body c as h c' h',ρ,H,N,R,_=>G.exc c=true/\G.exc c'=true/\Bt G C body ρ H N R fun e H=>match Ct c e H with
    | some true=>Bt G C h (T9 as (some e) ρ) H (fun ρ H=>N (T8 as ρ) H) R EF
    | some false=>(match Ct c' e H with
      | some true=>Bt G C h' ρ H N R EF
      | _=>False)
    | none=>False
noncomputable def Bt(G:Ap)(C:CS):List S->Ao->AH->(Ao->AH->Prop)->Ad->EP->Prop
 | [],ρ,H,N,_,_=>N ρ H
 | s::r,ρ,H,N,R,E=>Ny G C s ρ H (fun ρ H=>Bt G C r ρ H N R E) R E
end
noncomputable def Ab(G:Ap):Nat->CS
 | 0=>fun _ _ _ _ _=>False
 | n+1=>fun f args H Q E=>match G.fn f with
   | some d=>d.arity=args.length/\Bt G (Ab G n) d.body (args.map some++List.replicate (d.slots-d.arity) none) H (fun _ H=>Q .none H) Q E
   | none=>False
section
variable {G:Ap} {n:Nat} {H:AH} {Q:Ad} {E:EP} {C:CS} {ρ:Ao} {N:Ao->AH->Prop} {R:Ad}
/-! the running of the abstract machine,as rules -/
theorem Jb:Ay G C .cnone ρ H Q E=Q .none H:=rfl
theorem Jc:Ay G C .omit ρ H Q E=Q .none H:=rfl
theorem Jd{b}:Ay G C (.cbool b) ρ H Q E=Q (.bool b) H:=rfl
theorem Je{i}:Ay G C (.cint i) ρ H Q E=Q (.int i) H:=rfl
theorem Jf{i}:Ay G C (.cstr i) ρ H Q E=Q (.str i.cps.toList) H:=rfl
theorem Jg{i}:Ay G C (.var i) ρ H Q E=(match ρ[i]? with|some (some v)=>Q v H|_=>False):=rfl
theorem Jh{e}:Ay G C (.not e) ρ H Q E=Ay G C e ρ H (fun v H=>truthy v fun b=>Q (.bool (!b)) H) E:=rfl
theorem Ji{e}:Ay G C (.neg e) ρ H Q E=Ay G C e ρ H (fun v H=>match v with | .int i=>Q (.int (-i)) H|_=>False) E:=rfl
theorem Jj{l r}:Ay G C (.and l r) ρ H Q E=Ay G C l ρ H (fun v H=>truthy v fun b=>if b then Ay G C r ρ H Q E else Q (.bool false) H) E:=rfl
theorem Jk{l r}:Ay G C (.or l r) ρ H Q E=Ay G C l ρ H (fun v H=>truthy v fun b=>if b then Q (.bool true) H else Ay G C r ρ H Q E) E:=rfl
theorem Jl{op l r}:Ay G C (.bin op l r) ρ H Q E=Ay G C l ρ H (fun a H=>Ay G C r ρ H (fun b H=>Fp op a b H Q) E) E:=rfl
theorem Jm{op l r}:Ay G C (.cmp op l r) ρ H Q E=Ay G C l ρ H (fun a H=>Ay G C r ρ H (fun b H=>Bz op a b H Q) E) E:=rfl
theorem Jn{l o1 m o2 r}:Ay G C (.chain l o1 m o2 r) ρ H Q E=Ay G C l ρ H (fun a H=>Ay G C m ρ H (fun b H=>Bz o1 a b H fun c H=>truthy c fun t=>
 if t then Ay G C r ρ H (fun d H=>Bz o2 b d H Q) E else Q (.bool false) H) E) E:=rfl
theorem Jo{t a b}:Ay G C (.ite t a b) ρ H Q E=Ay G C t ρ H (fun v H=>truthy v fun c=>if c then Ay G C a ρ H Q E else Ay G C b ρ H Q E) E:=rfl
theorem Jp{f as}:Ay G C (.call f as) ρ H Q E=((G.fn f).isSome=true/\Dj G C as ρ H (fun vs H=>C f vs H Q E) E):=rfl
theorem Jq{b as}:Ay G C (.bi b as) ρ H Q E=Dj G C as ρ H (fun vs H=>D7 b vs H Q) E:=rfl
theorem Bq{m o as}:Ay G C (.lm m o as) ρ H Q E=Ay G C o ρ H (fun v H=>Gz m v H/\Dj G C as ρ H (fun vs H=>Ru m v vs H Q) E) E:=rfl
theorem Jr{o a}:Ay G C (.attr o a) ρ H Q E=Ay G C o ρ H (fun v H=>getAttr v a H Q) E:=rfl
theorem Js{o i}:Ay G C (.sub o i) ρ H Q E=Ay G C o ρ H (fun a H=>Ay G C i ρ H (fun b H=>Cj a b H Q) E) E:=rfl
theorem Jt{o l u s}:Ay G C (.slice o l u s) ρ H Q E=Ay G C o ρ H (fun a H=>Ay G C l ρ H (fun x H=>Ay G C u ρ H (fun y H=>Ay G C s ρ H (fun z H=>F6 a x y z H Q) E) E) E) E:=rfl
theorem Ju{es}:Ay G C (.list es) ρ H Q E=Dj G C es ρ H (fun vs H=>A5 (.list vs) H Q) E:=rfl
theorem Jv{es}:Ay G C (.tuple es) ρ H Q E=Dj G C es ρ H (fun vs H=>A5 (.tuple vs) H Q) E:=rfl
theorem X1:Ay G C (.dict [] []) ρ H Q E=A5 (.dict []) H Q:=rfl
theorem C7{a:Nat}{P:Nat->Prop}:Bl (.ref a) P=P a:=rfl
theorem C8{d:Nat}{P:Nat->Prop}:S6 (some (.inst .web d)) P=P d:=rfl
theorem E3{fs:List (C6×V)}{P:List (C6×V)->Prop}:P9 (some (.ns fs)) P=P fs:=rfl
theorem Aq{m o as}:Ay G C (.meth m o as) ρ H Q E=Ay G C o ρ H (fun v H=>Bl v fun a=>S6 (H a) fun d=>P9 (H d) fun _=>(G.fn m).isSome=true/\Dj G C as ρ H (fun vs H=>C m (.ref a::vs) H Q E) E) E:=rfl
theorem C9{c as}:Ay G C (.mk c as) ρ H Q E=((G.fn (G0 c)).isSome=true/\Dj G C as ρ H (fun vs H=>∀a d,H a=none->H d=none->a≠d->
 C (G0 c) (.ref a::vs) (upd (upd H d (.ns [])) a (.inst c d)) (fun r H'=>r = .none/\Q (.ref a) H') E) E):=rfl
theorem Ar{k s e}:Ay G C (.comp k s e) ρ H Q E=Et G C s ρ H (fun its g H=>its.length<=B6/\
 B9 g (D8 k) (fun ρ H K=>Ay G C e ρ H (fun v H=>K (some v) H) E) (fun vs H=>A5 (.list vs) H Q) its [] (List.replicate k none++ρ) H) E:=rfl
theorem An{k s c e}:Ay G C (.compIf k s c e) ρ H Q E=Et G C s ρ H (fun its g H=>its.length<=B6/\
 B9 g (D8 k) (fun ρ H K=>Ay G C c ρ H (fun c H=>truthy c fun b=>if b then Ay G C e ρ H (fun v H=>K (some v) H) E else K none H) E)
  (fun vs H=>A5 (.list vs) H Q) its [] (List.replicate k none++ρ) H) E:=rfl
theorem Jw{Q:List V->AH->Prop}:Dj G C [] ρ H Q E=Q [] H:=rfl
theorem Jx{e r}{Q:List V->AH->Prop}:Dj G C (e::r) ρ H Q E=Ay G C e ρ H (fun v H=>Dj G C r ρ H (fun vs H=>Q (v::vs) H) E) E:=rfl
theorem Bh{as}{K:List It->(AH->Prop)->AH->Prop}:Et G C (.range as) ρ H K E=Dj G C as ρ H (fun vs H=>Kj vs H K) E:=rfl
theorem Vj{e}{K:List It->(AH->Prop)->AH->Prop}:Et G C (.enum e) ρ H K E=Ay G C e ρ H (fun v H=>Vh v H K) E:=rfl
theorem Zn{e}{K:List It->(AH->Prop)->AH->Prop}:Et G C (.rev e) ρ H K E=Ay G C e ρ H (fun v H=>Zm v H K) E:=rfl
theorem C2{e}{K:List It->(AH->Prop)->AH->Prop}:Et G C (.val e) ρ H K E=Ay G C e ρ H (fun v H=>Ki v H K) E:=rfl
theorem Jy{i e}:Ny G C (.assign i e) ρ H N R E=Ay G C e ρ H (fun v H=>N (ρ.set i (some v)) H) E:=rfl
theorem Cg{o a e}:Ny G C (.setattr o a e) ρ H N R E=Ay G C e ρ H (fun v H=>Ay G C o ρ H (fun ov H=>setAttr ov a v H fun H=>N ρ H) E) E:=rfl
theorem Bk{o i e}:Ny G C (.setitem o i e) ρ H N R E=Ay G C e ρ H (fun v H=>Ay G C o ρ H (fun ov H=>Ay G C i ρ H (fun iv H=>setItem ov iv v H fun H=>N ρ H) E) E) E:=rfl
theorem Jz{e}:Ny G C (.expr e) ρ H N R E=Ay G C e ρ H (fun _ H=>N ρ H) E:=rfl
theorem Ja{t a b}:Ny G C (.ite t a b) ρ H N R E=Ay G C t ρ H (fun v H=>truthy v fun c=>if c then Bt G C a ρ H N R E else Bt G C b ρ H N R E) E:=rfl
theorem J0{e}:Ny G C (.ret e) ρ H N R E=Ay G C e ρ H R E:=rfl
theorem J1:Ny G C .pass ρ H N R E=N ρ H:=rfl
theorem Bm{t s b}:Ny G C (.for t s b) ρ H N R E=Et G C s ρ H (fun its g H=>Lk g t (fun ρ H K=>Bt G C b ρ H K R E) N its ρ H) E:=rfl
theorem Eg{t b}:Ny G C (.while t b) ρ H N R E = ∃I:Nat->Ao->AH->Prop,(∃n,I n ρ H)/\∀n ρ H,I n ρ H->
 Ay G C t ρ H (fun v H=>truthy v fun c=>if c then Bt G C b ρ H (fun ρ H=>∃m,m<n/\I m ρ H) R E else N ρ H) E:=rfl
theorem J2:Bt G C [] ρ H N R E=N ρ H:=rfl
theorem J3{s r}:Bt G C (s::r) ρ H N R E=Ny G C s ρ H (fun ρ H=>Bt G C r ρ H N R E) R E:=rfl
theorem Aw{g}:Ay G C (.glob g) ρ H Q E=(match G.const g with|some v=>Q v H|none=>False):=rfl
theorem Bw{f}:Ay G C (.fnv f) ρ H Q E=((G.fn f).isSome=true/\Q (.fn f) H):=rfl
theorem Az{f as}:Ay G C (.callv f as) ρ H Q E=Ay G C f ρ H (fun v H=>match v with | .fn g=>Dj G C as ρ H (fun vs H=>C g vs H Q E) E|_=>False) E:=rfl
theorem A9{ks vs}:Ay G C (.dict ks vs) ρ H Q E=Dj G C ks ρ H (fun as H=>Dj G C vs ρ H (fun bs H=>match as,bs with
 | [],[]=>A5 (.dict []) H Q
 | [.int k],[v]=>A5 (.dict [(k,v)]) H Q
 | _,_=>False) E) E:=rfl
theorem Bo{c}:Ny G C (.raise c) ρ H N R E=(G.exc c=true/\∀a,H a=none->E (.ref a) (upd H a (.exc c))):=rfl
theorem Rv{b c as h}:Ny G C (.try1 b c as h) ρ H N R E=(G.exc c=true/\Bt G C b ρ H N R fun e H=>match Ct c e H with
 | some true=>Bt G C h (T9 as (some e) ρ) H (fun ρ H=>N (T8 as ρ) H) R EF
 | _=>False):=rfl
theorem Vk{b c c'}:Ny G C (.tryR b c c') ρ H N R E=((G.exc c=true/\G.exc c'=true/\c = .badWeb/\c' = .badText)/\Bt G C b ρ H N R fun e H=>match Ct c e H with
 | some true=>∀a,H a=none->E (.ref a) (upd H a (.exc c'))
 | _=>False):=rfl
theorem Vl{b c as h c' h'}:Ny G C (.try2 b c as h c' h') ρ H N R E=(G.exc c=true/\G.exc c'=true/\Bt G C b ρ H N R fun e H=>match Ct c e H with
 | some true=>Bt G C h (T9 as (some e) ρ) H (fun ρ H=>N (T8 as ρ) H) R EF
 | some false=>(match Ct c' e H with
   | some true=>Bt G C h' ρ H N R EF
   | _=>False)
 | none=>False):=rfl
theorem Vm{e}:Ay G C (.isVE e) ρ H Q E=Ay G C e ρ H (fun v H=>match Ct .webError v H with|some true=>Q (.bool true) H|_=>False) E:=rfl
theorem Kn{c e}:Ay G C (.isown c e) ρ H Q E=(G.exc c=true/\Ay G C e ρ H (fun v H=>match Ct c v H with|some r=>Q (.bool r) H|none=>False) E):=rfl
end
end Mine.Internal
namespace Mine.Internal
section
variable {a b c d e f g i j k l m n:Nat} {x y z u v w r s t:Int}
end
end Mine.Internal
namespace Mine.Internal
section
open PySem PySem.W PyProof.Rows
variable {a b c d e f g i j k l m n:Nat} {x y z u v w r s t:Int}
end
end Mine.Internal
namespace Mine.Internal
open PySem
variable {G:Ap} {n:Nat} {H:AH} {Q:Ad} {E:EP} {C:CS} {ρ:Ao} {N:Ao->AH->Prop} {R:Ad}
end Mine.Internal
namespace Mine.Internal
open PySem
noncomputable def Ko:Fn:=⟨3,3,[.setattr (.var 0) .many (.var 1),.setattr (.var 0) .rows (.var 2)]⟩
noncomputable def Iz:Fn:=⟨2,2,[.ite (.not (.chain (.cint 0) .LtE (.var 1) .Lt (.attr (.var 0) .many))) [.raise .noPoint] []]⟩
noncomputable def Cy:Fn:=⟨2,2,[.expr (.meth "Web.need" (.var 0) [(.var 1)]),.ret (.bi .list [(.sub (.attr (.var 0) .rows) (.var 1))])]⟩
noncomputable def I0:Fn:=⟨3,3,[.expr (.meth "Web.need" (.var 0) [(.var 1)]),.expr (.meth "Web.need" (.var 0) [(.var 2)]),.ret (.cmp .In (.var 2) (.sub (.attr (.var 0) .rows) (.var 1)))]⟩
noncomputable def Ie:List S:=[.ite (.cmp .Lt (.var 2) (.var 3)) [.expr (.lm .append (.var 1) [(.tuple [(.var 2),(.var 3)])])] []]
noncomputable def Ig:List S:=[.for (.one 3) (.val (.sub (.attr (.var 0) .rows) (.var 2))) Ie]
noncomputable def Ms:Fn:=⟨4,1,[.assign 1 (.list []),.for (.one 2) (.range [(.attr (.var 0) .many)]) Ig,.ret (.var 1)]⟩
noncomputable def G1:List S:=[.ite (.or (.not (.chain (.cint 0) .LtE (.var 2) .Lt (.var 0))) (.or (.not (.chain (.cint 0) .LtE (.var 3) .Lt (.var 0))) (.cmp .Eq (.var 2) (.var 3)))) [.raise .badWeb] []]
noncomputable def L0:X:=(.dict [] [])
noncomputable def L1:List S:=[.setitem (.sub (.var 4) (.var 2)) (.var 3) (.cbool true),.setitem (.sub (.var 4) (.var 3)) (.var 2) (.cbool true)]
noncomputable def L2:X:=(.bi .sorted [(.var 0)])
noncomputable def Kp:Fn:=⟨5,2,[.ite (.not (.chain (.cint 0) .LtE (.var 0) .LtE (.glob "MOST"))) [.raise .badWeb] [],.for (.two 2 3) (.val (.var 1)) G1,.assign 4 (.comp 1 (.range [(.var 0)]) L0),.for (.two 2 3) (.val (.var 1)) L1,.ret (.mk .web [(.var 0),(.comp 1 (.val (.var 4)) L2)])]⟩
noncomputable def Bu:Fn:=⟨2,2,[.ite (.cmp .Lt (.var 1) (.bi .len [(.var 0)])) [.ret (.sub (.var 0) (.var 1))] [],.ret (.cint 0)]⟩
noncomputable def D9:Fn:=⟨1,1,[.ret (.and (.bi (.isinst .int) [(.var 0)]) (.not (.bi (.isinst .bool) [(.var 0)])))]⟩
noncomputable def Fq:List S:=[.ite (.or (.not (.call "_law_whole" [(.sub (.var 0) (.var 2))])) (.cmp .NotEq (.sub (.var 0) (.var 2)) (.sub (.var 1) (.var 2)))) [.ret (.cbool false)] []]
noncomputable def Fg:Fn:=⟨3,2,[.ite (.or (.not (.bi (.isinst .list) [(.var 0)])) (.cmp .NotEq (.bi .len [(.var 0)]) (.bi .len [(.var 1)]))) [.ret (.cbool false)] [],.for (.one 2) (.range [(.bi .len [(.var 1)])]) Fq,.ret (.cbool true)]⟩
noncomputable def G2:List S:=[.ite (.or (.not (.bi (.isinst .tuple) [(.sub (.var 0) (.var 2))])) (.cmp .NotEq (.bi .len [(.sub (.var 0) (.var 2))]) (.cint 2))) [.ret (.cbool false)] [],.ite (.or (.not (.call "_law_whole" [(.sub (.sub (.var 0) (.var 2)) (.cint 0))])) (.or (.not (.call "_law_whole" [(.sub (.sub (.var 0) (.var 2)) (.cint 1))])) (.cmp .NotEq (.sub (.var 0) (.var 2)) (.sub (.var 1) (.var 2))))) [.ret (.cbool false)] []]
noncomputable def G3:Fn:=⟨3,2,[.ite (.or (.not (.bi (.isinst .list) [(.var 0)])) (.cmp .NotEq (.bi .len [(.var 0)]) (.bi .len [(.var 1)]))) [.ret (.cbool false)] [],.for (.one 2) (.range [(.bi .len [(.var 1)])]) G2,.ret (.cbool true)]⟩
noncomputable def Ea:Fn:=⟨2,2,[.ret (.bin .Mod (.bin .Mult (.bin .Add (.var 0) (.bin .Mult (.cint 101) (.var 1))) (.cint 48271)) (.cint 1000003))]⟩
noncomputable def Ft:List S:=[.ite (.and (.cmp .Gt (.bin .Mod (.var 8) (.cint 3)) (.cint 0)) (.or (.cmp .GtE (.var 7) (.var 2)) (.cmp .Lt (.bi .len [(.var 6)]) (.cint 2)))) [.expr (.lm .append (.var 6) [(.var 9)])] [],.assign 8 (.bin .FloorDiv (.var 8) (.cint 3))]
noncomputable def Fu:List S:=[.assign 5 (.call "_law_mixed" [(.call "_law_cell_at" [(.var 0),(.bin .Add (.cint 3) (.var 4))]),(.var 4)]),.assign 6 (.list []),.ite (.chain (.cint 0) .Lt (.var 4) .Lt (.var 2)) [.assign 6 (.list [(.bin .Sub (.var 4) (.cint 1))]),.ite (.cmp .Eq (.var 4) (.bin .Sub (.var 2) (.cint 1))) [.assign 6 (.list [(.cint 0),(.bin .Sub (.var 4) (.cint 1))])] []] [.ite (.and (.cmp .Gt (.var 4) (.cint 0)) (.cmp .NotEq (.bin .Mod (.var 5) (.cint 9)) (.cint 8))) [.assign 7 (.bin .Mod (.bin .FloorDiv (.var 5) (.cint 9)) (.var 4)),.assign 6 (.list [(.var 7)]),.assign 8 (.bin .FloorDiv (.bin .FloorDiv (.var 5) (.cint 9)) (.var 4)),.for (.one 9) (.val (.sub (.var 3) (.var 7))) Ft] []],.expr (.lm .append (.var 3) [(.var 6)])]
noncomputable def Fh:Fn:=⟨10,3,[.assign 3 (.list []),.for (.one 4) (.range [(.var 1)]) Fu,.ret (.var 3)]⟩
noncomputable def E4:X:=(.call "_law_mixed" [(.call "_law_cell_at" [(.var 1),(.bin .Add (.cint 3) (.bin .Mod (.bin .Add (.bin .Mult (.cint 7) (.var 6)) (.bin .Mult (.cint 13) (.var 0))) (.cint 60)))]),(.bin .Add (.bin .Mult (.cint 60) (.var 6)) (.var 0))])
noncomputable def E5:X:=(.cmp .Lt (.bin .Mod (.sub (.var 7) (.var 0)) (.var 4)) (.var 3))
noncomputable def Da:List S:=[.assign 6 (.comp 1 (.range [(.var 5)]) E4),.expr (.lm .append (.var 4) [(.compIf 1 (.range [(.var 5)]) E5 (.var 0))])]
noncomputable def Eu:Fn:=⟨7,2,[.assign 2 (.bin .Add (.cint 1) (.bin .Mod (.bin .FloorDiv (.call "_law_cell_at" [(.var 0),(.cint 2)]) (.cint 8)) (.cint 4))),.assign 3 (.cint 5),.ite (.cmp .Gt (.var 1) (.cint 20)) [.assign 3 (.cint 40)] [],.assign 4 (.list []),.for (.one 5) (.range [(.var 1)]) Da,.ret (.var 4)]⟩
noncomputable def Ec:X:=(.bi .listRange [(.bi .max [(.cint 0),(.bin .Sub (.var 0) (.var 3))]),(.var 0)])
noncomputable def F7:Fn:=⟨3,2,[.assign 2 (.bin .Mod (.var 1) (.cint 20)),.ite (.cmp .Gt (.var 0) (.cint 20)) [.assign 2 (.bin .Mod (.var 1) (.cint 6))] [],.ret (.comp 1 (.range [(.var 0)]) Ec)]⟩
noncomputable def Gp:X:=(.bi .listRange [(.bi .max [(.cint 0),(.bin .Sub (.var 0) (.cint 1))]),(.var 0)])
noncomputable def Gq:List S:=[.ite (.cmp .Eq (.bin .Mod (.var 4) (.var 3)) (.bin .Sub (.var 2) (.cint 1))) [.setitem (.var 5) (.var 4) (.list [(.bin .Sub (.bin .Add (.var 4) (.cint 1)) (.var 2)),(.bin .Sub (.var 4) (.cint 1))])] []]
noncomputable def F8:Fn:=⟨6,2,[.assign 2 (.bin .Add (.cint 4) (.bin .Mod (.var 1) (.cint 5))),.assign 3 (.bin .Add (.var 2) (.bin .Mod (.bin .FloorDiv (.var 1) (.cint 5)) (.cint 4))),.assign 5 (.comp 1 (.range [(.var 0)]) Gp),.for (.one 4) (.range [(.var 0)]) Gq,.ret (.var 5)]⟩
noncomputable def Ce:X:=(.bi .listRange [(.bi .min [(.var 0),(.var 3)])])
noncomputable def F9:Fn:=⟨3,2,[.assign 2 (.sub (.list [(.cint 1),(.cint 2),(.cint 3),(.bin .Mod (.bin .FloorDiv (.var 1) (.cint 4)) (.cint 30))]) (.bin .Mod (.var 1) (.cint 4))),.ite (.cmp .Gt (.var 0) (.cint 30)) [.assign 2 (.bin .Mod (.var 2) (.cint 8))] [],.ret (.comp 1 (.range [(.var 0)]) Ce)]⟩
noncomputable def Mt:Fn:=⟨4,2,[.assign 2 (.bin .Mod (.call "_law_cell_at" [(.var 0),(.cint 2)]) (.cint 8)),.assign 3 (.bin .FloorDiv (.call "_law_cell_at" [(.var 0),(.cint 2)]) (.cint 8)),.ite (.and (.cmp .Eq (.var 2) (.cint 1)) (.cmp .Gt (.var 1) (.cint 3))) [.ret (.call "_law_earlier" [(.var 0),(.var 1),(.bin .Add (.cint 4) (.bin .Mod (.var 3) (.bin .Sub (.var 1) (.cint 3))))])] [],.ite (.and (.chain (.cint 1) .Lt (.var 2) .Lt (.cint 5)) (.cmp .Lt (.var 1) (.cint 41))) [.ret (.call "_law_any_rows" [(.var 0),(.var 1)])] [],.ite (.cmp .Eq (.var 2) (.cint 5)) [.ret (.call "_law_banded" [(.var 1),(.var 3)])] [],.ite (.cmp .Eq (.var 2) (.cint 6)) [.ret (.call "_law_ringed" [(.var 1),(.var 3)])] [],.ite (.cmp .Eq (.var 2) (.cint 7)) [.ret (.call "_law_hubbed" [(.var 1),(.var 3)])] [],.ret (.call "_law_earlier" [(.var 0),(.var 1),(.cint 0)])]⟩
noncomputable def I1:Fn:=⟨4,3,[.assign 3 (.call "_law_cell_at" [(.var 0),(.cint 1)]),.ite (.cmp .Eq (.bin .Mod (.var 3) (.cint 2)) (.cint 1)) [.ret (.bin .Mod (.bin .Sub (.bin .FloorDiv (.var 3) (.cint 2)) (.var 2)) (.var 1))] [],.ret (.bin .Mod (.bin .Add (.bin .FloorDiv (.var 3) (.cint 2)) (.var 2)) (.var 1))]⟩
noncomputable def Ih:List S:=[.assign 6 (.tuple [(.call "_law_name" [(.var 0),(.var 1),(.var 4)]),(.call "_law_name" [(.var 0),(.var 1),(.var 5)])]),.ite (.cmp .Eq (.bin .Mod (.bin .Add (.var 4) (.var 5)) (.cint 2)) (.cint 1)) [.assign 6 (.tuple [(.sub (.var 6) (.cint 1)),(.sub (.var 6) (.cint 0))])] [],.expr (.lm .append (.var 3) [(.var 6)])]
noncomputable def Ii:List S:=[.for (.one 5) (.val (.sub (.var 2) (.var 4))) Ih]
noncomputable def Ij:X:=(.tuple [(.sub (.var 0) (.cint 1)),(.sub (.var 0) (.cint 0))])
noncomputable def Mu:Fn:=⟨7,3,[.assign 3 (.list []),.for (.one 4) (.range [(.var 1)]) Ii,.ret (.bin .Add (.bin .Add (.bin .Add (.var 3) (.comp 1 (.val (.slice (.var 3) .omit (.cint 3) .omit)) Ij)) (.slice (.var 3) (.cint 1) (.cint 4) .omit)) (.bin .Mult (.slice (.var 3) .omit (.cint 1) .omit) (.cint 2)))]⟩
noncomputable def Ik:List S:=[.ite (.cmp .NotIn (.var 4) (.sub (.var 2) (.var 3))) [.expr (.lm .append (.sub (.var 2) (.var 3)) [(.var 4)]),.expr (.lm .append (.sub (.var 2) (.var 4)) [(.var 3)])] []]
noncomputable def Il:X:=(.bi .sorted [(.var 0)])
noncomputable def Mv:Fn:=⟨5,2,[.assign 2 (.comp 1 (.range [(.var 0)]) (.list [])),.for (.two 3 4) (.val (.var 1)) Ik,.ret (.comp 1 (.val (.var 2)) Il)]⟩
noncomputable def Mw:List S:=[.expr (.lm .append (.var 1) [(.bin .Add (.bin .Add (.bi .str [(.var 2)]) (.cstr "-")) (.bi .str [(.var 3)]))])]
noncomputable def O8:Fn:=⟨4,1,[.assign 1 (.list [(.bin .Add (.bi .str [(.attr (.var 0) .many)]) (.cstr ":"))]),.for (.two 2 3) (.val (.meth "Web.ties" (.var 0) [])) Mw,.ret (.lm .join (.cstr " ") [(.var 1)])]⟩
noncomputable def G4:List S:=[.ite (.cmp .NotIn (.var 1) (.glob "FIGURES")) [.raise .badText] []]
noncomputable def E6:Fn:=⟨2,1,[.ite (.or (.cmp .Eq (.var 0) (.cstr "")) (.cmp .Gt (.bi .len [(.var 0)]) (.cint 2))) [.raise .badText] [],.for (.one 1) (.val (.var 0)) G4,.ret (.bi .int [(.var 0)])]⟩
noncomputable def Mx:Fn:=⟨2,1,[.assign 1 (.lm .split (.var 0) [(.cstr "-")]),.ite (.cmp .NotEq (.bi .len [(.var 1)]) (.cint 2)) [.raise .badText] [],.ret (.tuple [(.call "number_of" [(.sub (.var 1) (.cint 0))]),(.call "number_of" [(.sub (.var 1) (.cint 1))])])]⟩
noncomputable def Oc:X:=(.call "tie_of" [(.var 0)])
noncomputable def Vn:Fn:=⟨5,1,[.assign 1 (.lm .split (.var 0) [(.cstr " ")]),.ite (.cmp .NotEq (.slice (.sub (.var 1) (.cint 0)) (.neg (.cint 1)) .omit .omit) (.cstr ":")) [.raise .badText] [],.assign 2 (.call "number_of" [(.slice (.sub (.var 1) (.cint 0)) .omit (.neg (.cint 1)) .omit)]),.assign 3 (.comp 1 (.val (.slice (.var 1) (.cint 1) .omit .omit)) Oc),.tryR [.assign 4 (.call "web_of" [(.var 2),(.var 3)])] .badWeb .badText,.ite (.cmp .NotEq (.call "shown" [(.var 4)]) (.var 0)) [.raise .badText] [],.ret (.var 4)]⟩
noncomputable def Fi:Fn:=⟨2,1,[.assign 1 (.call "_law_cell_at" [(.var 0),(.cint 0)]),.ite (.cmp .Eq (.bin .Mod (.bin .FloorDiv (.var 1) (.cint 9)) (.cint 16)) (.cint 3)) [.ret (.bin .Mod (.bin .FloorDiv (.var 1) (.cint 144)) (.cint 61))] [],.ite (.cmp .Eq (.bin .Mod (.bin .FloorDiv (.var 1) (.cint 9)) (.cint 8)) (.cint 5)) [.ret (.bin .Add (.cint 9) (.bin .Mod (.bin .FloorDiv (.var 1) (.cint 72)) (.cint 12)))] [],.ret (.bin .Mod (.var 1) (.cint 9))]⟩
noncomputable def G5:X:=(.cmp .Gt (.var 0) (.var 4))
noncomputable def G6:X:=(.bin .Add (.bin .Add (.bi .str [(.var 4)]) (.cstr "-")) (.bi .str [(.var 0)]))
noncomputable def G7:List S:=[.assign 2 (.bin .Add (.var 2) (.compIf 1 (.val (.sub (.var 1) (.var 3))) G5 G6))]
noncomputable def G8:Fn:=⟨4,2,[.assign 2 (.list [(.bin .Add (.bi .str [(.var 0)]) (.cstr ":"))]),.for (.one 3) (.range [(.var 0)]) G7,.ret (.lm .join (.cstr " ") [(.var 2)])]⟩
noncomputable def Gr:List S:=[.ite (.cmp .NotIn (.var 1) (.cstr "0123456789")) [.ret (.cint 99)] []]
noncomputable def Ga:Fn:=⟨2,1,[.ite (.or (.cmp .Eq (.var 0) (.cstr "")) (.cmp .Gt (.bi .len [(.var 0)]) (.cint 2))) [.ret (.cint 99)] [],.for (.one 1) (.val (.var 0)) Gr,.ret (.bi .int [(.var 0)])]⟩
noncomputable def Im:List S:=[.assign 5 (.lm .split (.var 4) [(.cstr "-")]),.ite (.cmp .NotEq (.bi .len [(.var 5)]) (.cint 2)) [.ret .cnone] [],.assign 6 (.call "_law_number" [(.sub (.var 5) (.cint 0))]),.assign 7 (.call "_law_number" [(.sub (.var 5) (.cint 1))]),.ite (.or (.cmp .GtE (.var 6) (.var 2)) (.or (.cmp .GtE (.var 7) (.var 2)) (.cmp .Eq (.var 6) (.var 7)))) [.ret .cnone] [],.expr (.lm .append (.var 3) [(.tuple [(.var 6),(.var 7)])])]
noncomputable def My:Fn:=⟨9,1,[.assign 1 (.lm .split (.var 0) [(.cstr " ")]),.ite (.or (.cmp .NotEq (.slice (.sub (.var 1) (.cint 0)) (.neg (.cint 1)) .omit .omit) (.cstr ":")) (.cmp .Gt (.call "_law_number" [(.slice (.sub (.var 1) (.cint 0)) .omit (.neg (.cint 1)) .omit)]) (.cint 60))) [.ret .cnone] [],.assign 2 (.call "_law_number" [(.slice (.sub (.var 1) (.cint 0)) .omit (.neg (.cint 1)) .omit)]),.assign 3 (.list []),.for (.one 4) (.val (.slice (.var 1) (.cint 1) .omit .omit)) Im,.assign 8 (.call "_law_near" [(.var 2),(.var 3)]),.ite (.cmp .NotEq (.call "_law_shown" [(.var 2),(.var 8)]) (.var 0)) [.ret .cnone] [],.ret (.tuple [(.var 2),(.var 8)])]⟩
noncomputable def Ev:Fn:=⟨2,1,[.assign 1 (.list [(.cstr ""),(.cstr ":"),(.cstr "0"),(.cstr "0: "),(.cstr " 0:"),(.cstr "00:"),(.cstr "61:"),(.cstr "2:0-1"),(.cstr "2: 1-0"),(.cstr "2: 0-1 0-1"),(.cstr "3: 0-2 0-1")]),.assign 1 (.bin .Add (.var 1) (.list [(.cstr "2: 0-0"),(.cstr "2: 0-2"),(.cstr "1: 0-1"),(.cstr "02: 0-1"),(.cstr "2:  0-1"),(.cstr "2: 0--1"),(.cstr "2: 00-1"),(.cstr "60:")])),.assign 1 (.bin .Add (.var 1) (.list [(.cstr "5: 0-1 0-4"),(.cstr "3: 0-1 1-2 "),(.cstr "-1:")])),.ret (.sub (.var 1) (.bin .Mod (.var 0) (.cint 22)))]⟩
noncomputable def Io:Fn:=⟨8,3,[.ite (.cmp .Eq (.var 2) (.cint 2)) [.assign 3 (.bin .Mod (.var 1) (.bin .Add (.bi .len [(.var 0)]) (.cint 1))),.ret (.bin .Add (.bin .Add (.slice (.var 0) .omit (.var 3) .omit) (.sub (.cstr "0123456789-: a\n\t+_;") (.bin .Mod (.bin .FloorDiv (.var 1) (.cint 997)) (.cint 19)))) (.slice (.var 0) (.var 3) .omit .omit))] [],.ite (.cmp .Eq (.var 2) (.cint 3)) [.assign 3 (.bin .Mod (.var 1) (.bi .len [(.var 0)])),.ret (.bin .Add (.slice (.var 0) .omit (.var 3) .omit) (.slice (.var 0) (.bin .Add (.var 3) (.cint 1)) .omit .omit))] [],.ite (.cmp .Eq (.var 2) (.cint 4)) [.assign 4 (.lm .split (.var 0) [(.cstr " ")]),.assign 5 (.bin .Mod (.var 1) (.bi .len [(.var 4)])),.assign 6 (.bin .Mod (.bin .FloorDiv (.var 1) (.cint 97)) (.bi .len [(.var 4)])),.assign 7 (.sub (.var 4) (.var 5)),.setitem (.var 4) (.var 5) (.sub (.var 4) (.var 6)),.setitem (.var 4) (.var 6) (.var 7),.ret (.lm .join (.cstr " ") [(.var 4)])] [],.ite (.cmp .Eq (.var 2) (.cint 5)) [.ret (.call "_law_odd_text" [(.var 1)])] [],.ret (.var 0)]⟩
noncomputable def Fv:Fn:=⟨2,1,[.try1 [.expr (.call "read" [(.var 0)])] .badText (some 1) [.ite (.or (.isown .badWeb (.var 1)) (.isown .noPoint (.var 1))) [.ret (.cbool false)] [],.ret (.and (.not (.isown .badOrder (.var 1))) (.not (.isown .hasGap (.var 1))))],.ret (.cbool false)]⟩
noncomputable def Fw:Fn:=⟨2,1,[.try2 [.expr (.call "read" [(.var 0)])] .webError (some 1) [.ret (.isVE (.var 1))] .badText [.ret (.cbool false)],.ret (.cbool false)]⟩
noncomputable def E7:Fn:=⟨3,3,[.try1 [.ite (.cmp .Eq (.var 2) (.cint 0)) [.expr (.meth "Web.beside" (.var 0) [(.var 1)])] [.expr (.meth "Web.tied" (.var 0) [(.cint 0),(.var 1)])]] .noPoint none [.ret (.cbool true)],.ret (.cbool false)]⟩
noncomputable def G9:X:=(.meth "Web.beside" (.var 9) [(.var 0)])
noncomputable def Ha:List S:=[.ite (.or (.cmp .NotEq (.meth "Web.tied" (.var 8) [(.var 9),(.var 11)]) (.cmp .In (.var 11) (.sub (.sub (.var 7) (.cint 1)) (.var 9)))) (.cmp .NotEq (.meth "Web.tied" (.var 8) [(.var 11),(.var 9)]) (.cmp .In (.var 11) (.sub (.sub (.var 7) (.cint 1)) (.var 9))))) [.ret (.cbool false)] []]
noncomputable def Hb:List S:=[.ite (.not (.call "_law_numbers" [(.sub (.var 10) (.var 9)),(.sub (.sub (.var 7) (.cint 1)) (.var 9))])) [.ret (.cbool false)] [],.for (.one 11) (.val (.tuple [(.cint 0),(.bin .Mod (.var 5) (.sub (.var 7) (.cint 0))),(.bin .Sub (.sub (.var 7) (.cint 0)) (.cint 1))])) Ha]
noncomputable def Hc:X:=(.cmp .Gt (.var 0) (.var 10))
noncomputable def Hd:X:=(.tuple [(.var 10),(.var 0)])
noncomputable def He:List S:=[.assign 12 (.bin .Add (.var 12) (.compIf 1 (.val (.sub (.sub (.var 7) (.cint 1)) (.var 9))) Hc Hd))]
noncomputable def Qb:Fn:=⟨13,1,[.assign 1 (.call "_law_many" [(.var 0)]),.assign 2 (.call "_law_ties" [(.var 0),(.var 1),(.call "_law_rows" [(.var 0),(.var 1)])]),.assign 3 (.call "_law_near" [(.var 1),(.var 2)]),.assign 4 (.call "shown" [(.call "web_of" [(.var 1),(.bi .list [(.var 2)])])]),.ite (.or (.not (.bi (.isinst .str) [(.var 4)])) (.cmp .NotEq (.var 4) (.call "_law_shown" [(.var 1),(.var 3)]))) [.ret (.cbool false)] [],.assign 5 (.call "_law_mixed" [(.call "_law_cell_at" [(.var 0),(.cint 1)]),(.cint 5)]),.assign 6 (.call "_law_text_by" [(.var 4),(.var 5),(.bin .Mod (.call "_law_mixed" [(.call "_law_cell_at" [(.var 0),(.cint 0)]),(.cint 6)]) (.cint 8))]),.assign 7 (.call "_law_read" [(.var 6)]),.ite (.cmp .Is (.var 7) .cnone) [.ret (.and (.call "_law_refused" [(.var 6)]) (.call "_law_by_base" [(.var 6)]))] [],.assign 8 (.call "read" [(.var 6)]),.ite (.or (.not (.call "_law_whole" [(.attr (.var 8) .many)])) (.cmp .NotEq (.attr (.var 8) .many) (.sub (.var 7) (.cint 0)))) [.ret (.cbool false)] [],.assign 10 (.comp 1 (.range [(.sub (.var 7) (.cint 0))]) G9),.for (.one 9) (.range [(.sub (.var 7) (.cint 0))]) Hb,.assign 12 (.list []),.for (.one 9) (.range [(.sub (.var 7) (.cint 0))]) He,.ite (.or (.not (.call "_law_no_point" [(.var 8),(.sub (.var 7) (.cint 0)),(.cint 0)])) (.not (.call "_law_no_point" [(.var 8),(.sub (.var 7) (.cint 0)),(.cint 1)]))) [.ret (.cbool false)] [],.ret (.and (.call "_law_pairs" [(.meth "Web.ties" (.var 8) []),(.var 12)]) (.cmp .Eq (.call "shown" [(.var 8)]) (.var 6)))]⟩
end Mine.Internal
namespace Mine.Internal
open PySem
set_option genCtorIdx false in
structure Cx where
 names:List Str
 sc:Scope
 hnd:Bool
 cmp:Bool
noncomputable def Abp:Option NameKind->Bool
 | some .local=>true
 | some .cell=>true
 | some .free=>true
 | _=>false
noncomputable def Cx.slot(c:Cx)(x:Str):Option Nat:=if Abp (c.sc.names.lookup x)then c.names.idxOf? x else none
noncomputable def S9:Option NameKind->Bool
 | some .local=>true
 | some .cell=>true
 | _=>false
noncomputable def Cx.own(c:Cx)(x:Str):Option Nat:=if S9 (c.sc.names.lookup x)then c.names.idxOf? x else none
noncomputable def Cx.global(c:Cx)(x:Str):Bool:=c.sc.names.lookup x==some .globalImplicit
theorem nn{α:Type}{P:Prop}{x:α}(h:(none:Option α)=some x):P:=by cases h
inductive B1{α β:Type}(o:Option α)(k:α->β)(y:β):Prop
 | mk (a:α) (h:o=some a) (e:k a=y)
inductive B2{α α' β:Type}(o:Option α)(o':Option α')(k:α->α'->β)(y:β):Prop
 | mk (a:α) (h:o=some a) (a':α') (h':o'=some a') (e:k a a'=y)
inductive B3{α α' γ β:Type}(o:Option α)(o':Option α')(p:Option γ)(k:α->α'->γ->β)(y:β):Prop
 | mk (a:α) (h:o=some a) (a':α') (h':o'=some a') (d:γ) (h3:p=some d) (e:k a a' d=y)
inductive B4{α α' γ δ β:Type}(o:Option α)(o':Option α')(p:Option γ)(p':Option δ)(k:α->α'->γ->δ->β)(y:β):Prop
 | mk (a:α) (h:o=some a) (a':α') (h':o'=some a') (d:γ) (h3:p=some d) (d':δ) (h4:p'=some d') (e:k a a' d d'=y)
theorem b1{α β:Type}{o:Option α}{k:α->β}{y:β}(h:(o >>= fun a=>pure (k a))=some y):B1 o k y:=by
 cases o with
 | none=>cases h
 | some a=>exact⟨a,rfl,Option.some.inj h⟩
theorem b2{α α' β:Type}{o:Option α}{o':Option α'}{k:α->α'->β}{y:β}(h:(o >>= fun a=>o' >>= fun b=>pure (k a b))=some y):B2 o o' k y:=by
 cases o with
 | none=>cases h
 | some a=>obtain⟨b,hb,e⟩:=b1 (show (o' >>= fun b=>pure (k a b))=some y from h);exact⟨a,rfl,b,hb,e⟩
theorem b3{α α' γ β:Type}{o:Option α}{o':Option α'}{p:Option γ}{k:α->α'->γ->β}{y:β}(h:(o >>= fun a=>o' >>= fun b=>p >>= fun d=>pure (k a b d))=some y):B3 o o' p k y:=by
 cases o with
 | none=>cases h
 | some a=>obtain⟨b,hb,d,hd,e⟩:=b2 (show (o' >>= fun b=>p >>= fun d=>pure (k a b d))=some y from h);exact⟨a,rfl,b,hb,d,hd,e⟩
theorem b4{α α' γ δ β:Type}{o:Option α}{o':Option α'}{p:Option γ}{p':Option δ}{k:α->α'->γ->δ->β}{y:β}(h:(o >>= fun a=>o' >>= fun b=>p >>= fun d=>p' >>= fun d'=>pure (k a b d d'))=some y):B4 o o' p p' k y:=by
 cases o with
 | none=>cases h
 | some a=>obtain⟨b,hb,d,hd,d',hd',e⟩:=b3 (show (o' >>= fun b=>p >>= fun d=>p' >>= fun d'=>pure (k a b d d'))=some y from h);exact⟨a,rfl,b,hb,d,hd,d',hd',e⟩
noncomputable def Z2{α:Type}:List (Str×α)->Str->Option α
 | [],_=>none
 | p::r,x=>if x==p.1 then some p.2 else Z2 r x
theorem E8{α:Type}{x:Str}{a:α}{t:List (Str×α)}(h:Z2 t x=some a):(x,a)∈t:=by
 induction t with
 | nil=>cases h
 | cons p r ih=>
   replace h:(if (x==p.1)=true then some p.2 else Z2 r x)=some a:=h
   by_cases q:(x==p.1)=true
   ·rw[if_pos q]at h
    cases h
    rw[beq_iff_eq.mp q]
    exact .head _
   ·rw[if_neg q]at h
    exact .tail _ (ih h)
noncomputable def Ta:List (Str×Ty):=[("int",.int),("bool",.bool),("list",.list),("tuple",.tuple),("str",.str)]
noncomputable def Vo(x:Str):Option Ty:=Z2 Ta x
noncomputable def Ll:List (Str×Cp):=[("WebError",.webError),("BadWeb",.badWeb),("NoPoint",.noPoint),("BadText",.badText),("BadOrder",.badOrder),("HasGap",.hasGap)]
noncomputable def Gs(x:Str):Option Cp:=Z2 Ll x
noncomputable def L3(x:Str):Option C6:=
 if x==("many" :Str)then some .many else if x==("rows" :Str)then some .rows else none
noncomputable def Tb:List (Str×LM):=[("append",.append),("clear",.clear),("count",.count),("extend",.extend),("index",.index),("remove",.remove),("reverse",.reverse),("setdefault",.setdefault),("split",.split),("join",.join)]
noncomputable def X2(x:Str):Option LM:=Z2 Tb x
noncomputable def Mj(x:Str):Option Str:=
 if x==("need" :Str)then some "Web.need" else if x==("beside" :Str)then some "Web.beside" else if x==("tied" :Str)then some "Web.tied" else if x==("ties" :Str)then some "Web.ties" else none
noncomputable def Vp:List (Str×(Nat×BI)):=[("len",(1,.len)),("list",(1,.list)),("sorted",(1,.sorted)),("max",(2,.max)),("min",(2,.min)),("min",(1,.minL)),("all",(1,.all)),("any",(1,.any)),("str",(1,.str)),("int",(1,.int))]
noncomputable def X3:List (Str×(Nat×BI))->Str->Nat->Option BI
 | [],_,_=>none
 | p::r,x,n=>if x==p.1&&n==p.2.1 then some p.2.2 else X3 r x n
theorem Qc{x:Str}{n:Nat}{b:BI}{t:List (Str×(Nat×BI))}(h:X3 t x n=some b):(x,(n,b))∈t:=by
 induction t with
 | nil=>cases h
 | cons p r ih=>
   replace h:(if (x==p.1&&n==p.2.1)=true then some p.2.2 else X3 r x n)=some b:=h
   by_cases q:(x==p.1&&n==p.2.1)=true
   ·rw[if_pos q]at h
    cases h
    have z:=Bool.and_eq_true_iff.mp q
    rw[beq_iff_eq.mp z.1,beq_iff_eq.mp z.2]
    exact .head _
   ·rw[if_neg q]at h
    exact .tail _ (ih h)
noncomputable def X4(x:Str)(n:Nat):Option BI:=X3 Vp x n
noncomputable def Ef(f:Str):Option (Cp×Str):=
 if f==("Web.__init__" :Str)then some (.web,"__init__")else if f==("Verdict.__init__" :Str)then some (.verdict,"__init__")else if f==("Web.need" :Str)then some (.web,"need")
 else if f==("Web.beside" :Str)then some (.web,"beside")else if f==("Web.tied" :Str)then some (.web,"tied")else if f==("Web.ties" :Str)then some (.web,"ties")else none
noncomputable def Z3:List Str:=["isinstance","range","enumerate","reversed","set","len","list","sorted","max","min","all","any","str","int","super","type"]
noncomputable def X5(x:Str):Bool:=x==("MOST" :Str)||x==("FIGURES" :Str)
noncomputable def Rw(names:List Str)(out sc:Scope)(ts:List Str):Bool:=
 (match ts with | [x,y]=>x != y|_=>true)&&sc.kind == .function&&sc.names.all (fun p=>p.2 != .local||ts.contains p.1 || !names.contains p.1)&&sc.names.all (fun p=>p.2 != .cell&&(p.2 != .local||sc.names.lookup p.1==some .local)&&(p.2 != .free||(out.names.lookup p.1==some .cell&&sc.names.lookup p.1==some .free)))
   && ts.all fun t=>sc.names.lookup t==some .local
noncomputable def Ew:Expr->Option Str
 | .Name x _=>some x
 | _=>none
noncomputable def Zo:List Expr->Option (List Str)
 | [a,b]=>(match Ew a with
   | some x=>(match Ew b with
     | some y=>some [x,y]
     | none=>none)
   | none=>none)
 | _=>none
set_option backward.match.sparseCases false in
noncomputable def Co:Expr->Option (List Str)
 | .Name x _=>some [x]
 | .Tuple es _ _=>Zo es
 | _=>none
theorem Hf{e:Expr}{x:Str}(h:Ew e=some x):∃p,e = .Name x p:=by
 refine Aa fun nY=>?_
 cases e<;>try exact @nn _ _ _ h
 case Name y p=>(refine nY ?_;clear nY;cases h;exact⟨p,rfl⟩)
theorem Vq{es:List Expr}{ts:List Str}(h:Zo es=some ts):∃x p y q,es = [.Name x p,.Name y q]/\ts = [x,y]:=by
 rcases es with _ | ⟨a,_ | ⟨b,_ | ⟨d,es⟩⟩⟩<;>try exact @nn _ _ _ h
 replace h:(match Ew a with|some x=>(match Ew b with|some y=>some [x,y]|none=>none)|none=>none)=some ts:=h
 cases ha:Ew a with
 | none=>rw[ha]at h;cases h
 | some x=>
   cases hb:Ew b with
   | none=>rw[ha,hb]at h;cases h
   | some y=>
     rw[ha,hb]at h
     cases h
     obtain⟨p,rfl⟩:=Hf ha
     obtain⟨q,rfl⟩:=Hf hb
     exact⟨x,p,y,q,rfl,rfl⟩
theorem Hg{e:Expr}{ts:List Str}(h:Co e=some ts):(∃x p,e = .Name x p/\ts = [x])\/(∃x p y q k r,e = .Tuple [.Name x p,.Name y q] k r/\ts = [x,y]):=by
 refine Aa fun no=>?_
 cases e<;>try exact @nn _ _ _ h
 case Name x p=>exact no (.inl ⟨x,p,rfl,(Option.some.inj h).symm⟩)
 case Tuple es k r=>
  obtain⟨x,p,y,q,rfl,e⟩:=Vq h
  exact no (.inr ⟨x,p,y,q,k,r,rfl,e⟩)
set_option backward.match.sparseCases false in
noncomputable def Rx:Expr->Option (Expr×List Expr×Bool)
 | .Call g as kw _=>some (g,as,kw.isEmpty)
 | _=>none
theorem Ua{e g:Expr}{as:List Expr}(h:Rx e=some (g,as,true)):∃p,e = .Call g as [] p:=by
 cases e<;>try exact @nn _ _ _ h
 case Call g' as' kw p=>
  have h':=Option.some.inj h
  cases kw with
  | nil=>cases h';exact⟨p,rfl⟩
  | cons a b=>cases h'
noncomputable def Db(e:Expr):Option (Str×List Expr):=match Rx e with
 | some (g,as,true)=>(match Ew g with
   | some x=>some (x,as)
   | none=>none)
 | _=>none
theorem Hh{e:Expr}{x:Str}{as:List Expr}(h:Db e=some (x,as)):∃p p',e = .Call (.Name x p) as [] p':=by
 unfold Db at h
 cases q:Rx e with
 | none=>rw[q]at h;cases h
 | some r=>
   refine Aa fun nY=>?_
   obtain⟨g,as',k⟩:=r
   rw[q]at h
   cases k with
   | false=>cases h
   | true=>
     obtain⟨p',rfl⟩:=Ua q
     cases q':Ew g with
     | none=>simp only[q']at h;cases h
     | some y=>
       simp only[q']at h
       cases h
       obtain⟨p,rfl⟩:=Hf q'
       refine nY ?_;clear nY
       exact⟨p,p',rfl⟩
noncomputable def Fx(f:Expr->Option X):List Expr->Option (List X)
 | []=>some []
 | e::r=>do return (<-f e)::(<-Fx f r)
noncomputable def Ry(f:Expr->Option X):Option Expr->Option X
 | none=>some .omit
 | some e=>f e
noncomputable def Mz(f:Expr->Option X)(op:BoolOp):List Expr->Option X
 | []=>none
 | e::r=>(match r with
   | []=>f e
   | _=>(match op with
     | .And=>do return .and (<-f e) (<-Mz f op r)
     | .Or=>do return .or (<-f e) (<-Mz f op r)))
set_option backward.match.sparseCases false in
noncomputable def Kq:Expr->Bool
 | .Tuple .. =>true
 | _=>false
noncomputable def Vr(f:Expr->Option X)(c:Cx)(two:Bool)(e:Expr):Option X:=
 match Db e with
 | some (x,args)=>
   if c.global x&&x==("range" :Str)then(if args.length==1||args.length==2 then do return .range (<-Fx f args)else none)
   else do return .val (<-f e)
 | none=>do return .val (<-f e)
noncomputable def Od(c:Cx)(nm:Str)(args:List Expr):Option (List Expr):=match args with
 | [e]=>(match Db e with
   | some (s,as)=>if c.global s&&s==nm then some as else none
   | none=>none)
 | _=>none
theorem O9{c:Cx}{nm:Str}{args as:List Expr}(h:Od c nm args=some as):∃sp sp',args = [.Call (.Name nm sp) as [] sp']/\c.global nm=true:=by
 refine Aa fun nY=>?_
 rcases args with _ | ⟨e,_ | ⟨e',r⟩⟩<;>try exact @nn _ _ _ h
 replace h:(match Db e with|some (s,as)=>if c.global s&&s==nm then some as else none|none=>none)=some as:=h
 refine nY ?_;clear nY
 cases q:Db e with
 | none=>rw[q]at h;cases h
 | some r=>
   refine Aa fun nY=>?_
   obtain⟨s,bs⟩:=r
   rw[q]at h
   replace h:(if (c.global s&&s==nm)=true then some bs else none)=some as:=h
   by_cases z:(c.global s&&s==nm)=true
   ·rw[if_pos z]at h
    cases h
    have z:c.global s=true/\s=nm:=by simpa using z
    obtain⟨sp,sp',rfl⟩:=Hh q
    refine nY ?_;clear nY
    rw[<-z.2]
    exact⟨sp,sp',rfl,z.1⟩
   ·rw[if_neg z]at h;cases h
noncomputable def Abq:List (Str×Str):=[("_law_others","!_law_others")]
noncomputable def hOf(x:Str):Option Str:=Z2 Abq x
noncomputable def Kr(f:Str):Bool:=f==("!_law_others" :Str)
noncomputable def Hi(f:Str):Str:=if f==("!_law_others" :Str)then "_law_others" else f
theorem Oe{x:Str}(h:Kr x=false):Hi x=x:=by
 unfold Hi
 unfold Kr at h
 rw[h];rfl
theorem Z4{x y:Str}(h:hOf x=some y):Kr y=true/\Hi y=x/\Ef y=none/\(x==("__debug__" :Str))=false:=
 (by decide:∀p∈Abq,Kr p.2=true/\Hi p.2=p.1/\Ef p.2=none/\(p.1==("__debug__" :Str))=false) (x,y) (E8 h)
noncomputable def Tc:List Expr->Option (Expr×Str)
 | [e,t]=>(match Ew t with
   | some x=>some (e,x)
   | none=>none)
 | _=>none
theorem Rz{args:List Expr}{e:Expr}{x:Str}(h:Tc args=some (e,x)):∃p,args = [e,.Name x p]:=by
 rcases args with _ | ⟨a,_ | ⟨b,_ | ⟨d,es⟩⟩⟩<;>try exact @nn _ _ _ h
 replace h:(match Ew b with|some x=>some (a,x)|none=>none)=some (e,x):=h
 cases q:Ew b with
 | none=>rw[q]at h;cases h
 | some y=>
   rw[q]at h
   cases h
   obtain⟨p,rfl⟩:=Hf q
   exact⟨p,rfl⟩
noncomputable def Td(f:Expr->Option X)(c:Cx)(x:Str)(args:List Expr):Option X:=
 if x==("isinstance" :Str)then(match Tc args with
  | some (e,t)=>if c.global t then(match Vo t with
    | some ty=>do return .bi (.isinst ty) [<-f e]
    | none=>if t==("ValueError" :Str)then do return .isVE (<-f e)else do return .isown (<-Gs t) (<-f e))else none
  | none=>none)
 else if c.hnd then(match hOf x with
  | some y=>do return .call y (<-Fx f args)
  | none=>none)
 else match X4 x args.length with
  | some b=>(match b with
    | .list=>(match Od c "range" args with
      | some as=>if as.length==1||as.length==2 then do return .bi .listRange (<-Fx f as)else none
      | none=>do return .bi b (<-Fx f args))
    | _=>do return .bi b (<-Fx f args))
  | none=>if Z3.contains x||(Ef x).isSome||x==("__debug__" :Str)||Kr x then none else if x==("Web" :Str)then do return .mk .web (<-Fx f args)else if x==("Verdict" :Str)then do return .mk .verdict (<-Fx f args)
    else do return .call x (<-Fx f args)
noncomputable def Hj:Expr->Bool
 | .Call (.Name _ _) [] [] _=>false
 | _=>true
noncomputable def Fj(r:Cx->Expr->Option X)(c:Cx)(e:Expr):Option X:=
 match e with
 | .Constant k _ _=>(match k with
   | .none=>some .cnone | .bool b=>some (.cbool b) | .int i=>some (.cint i) | .str s=>some (.cstr s)|_=>none)
 | .Name x _=>if x==("__debug__" :Str)||x==("__classdict__" :Str)then none else(match c.slot x with
   | some i=>some (.var i)
   | none=>if c.global x then(if X5 x then some (.glob x)else none)else none)
 | .UnaryOp .Not e _=>do return .not (<-r c e)
 | .UnaryOp .USub e _=>do return .neg (<-r c e)
 | .BoolOp op es _=>Mz (r c) op es
 | .BinOp l op e _=>do return .bin op (<-r c l) (<-r c e)
 | .Compare l [o] [e] _=>do return .cmp o (<-r c l) (<-r c e)
 | .Compare l [o,o'] [m,e] _=>do return .chain (<-r c l) o (<-r c m) o' (<-r c e)
 | .Call (.Name x _) args [] _=>if c.global x then Td (r c) c x args else none
 | .Call (.Attribute o m ap) args [] p=>if ap.endLine==p.line&&decide (args.length<3)&&Hj o then(match Mj m with
   | some g=>do return .meth g (<-r c o) (<-Fx (r c) args)
   | none=>do return .lm (<-X2 m) (<-r c o) (<-Fx (r c) args))else none
 | .Attribute o a _=>if Hj o then do return .attr (<-r c o) (<-L3 a)else none
 | .Subscript o (.Slice l u st _) _=>do return .slice (<-r c o) (<-Ry (r c) l) (<-Ry (r c) u) (<-Ry (r c) st)
 | .Subscript o s _=>do return .sub (<-r c o) (<-r c s)
 | .List es _=>if es.length<100 then do return .list (<-Fx (r c) es)else none
 | .Tuple es _ _=>if es.length<100 then do return .tuple (<-Fx (r c) es)else none
 | .Dict [] [] _=>some (.dict [] [])
 | .ListComp elt [⟨t,it,ifs,a⟩] sc _=>(match Co t with
   | some ts=>if a==0&&Rw c.names c.sc sc ts && !c.cmp then(match ifs with
      | []=>do return .comp ts.length (<-Vr (r c) c (Kq t) it) (<-r ⟨ts++c.names,sc,false,true⟩ elt)
      | [cond]=>do return .compIf ts.length (<-Vr (r c) c (Kq t) it) (<-r ⟨ts++c.names,sc,false,true⟩ cond) (<-r ⟨ts++c.names,sc,false,true⟩ elt)
      | _=>none)
     else none
   | none=>none)
 | _=>none
set_option backward.match.sparseCases false in
noncomputable def Qd:Expr->Bool
 | .Constant .. =>true
 | .Name .. =>true
 | .UnaryOp .. =>true
 | .BoolOp .. =>true
 | .Compare .. =>true
 | .Call (.Name _ _) _ _ _=>true
 | _=>false
noncomputable def Rn:Nat->Cx->Expr->Option X
 | 0=>fun _ _=>none
 | n+1=>fun c e=>if c.hnd && !Qd e then none else Fj (Rn n) c e
noncomputable def Ks(f:Stmt->Option S):List Stmt->Option (List S)
 | []=>some []
 | e::r=>do return (<-f e)::(<-Ks f r)
noncomputable def Abr(c:Cx):List Str->Option P8
 | []=>none
 | x::r=>(match r with
   | []=>(c.own x).map .one
   | y::r'=>(match r' with
     | []=>do return .two (<-c.own x) (<-c.own y)
     | _::_=>none))
noncomputable def Vs(c:Cx)(e:Expr):Option P8:=match Co e with
 | some ts=>Abr c ts
 | none=>none
theorem X6{c:Cx}{e:Expr}{t:P8}(h:Vs c e=some t):(∃x p,e = .Name x p/\B1 (c.own x) P8.one t)\/(∃x p y q k r,e = .Tuple [.Name x p,.Name y q] k r/\B2 (c.own x) (c.own y) P8.two t):=by
 replace h:(match Co e with|some ts=>Abr c ts|none=>none)=some t:=h
 cases q:Co e with
 | none=>rw[q]at h;cases h
 | some ts=>
   refine Aa fun nY=>?_
   rcases Hg q with⟨x,p,rfl,rfl⟩ | ⟨x,p,y,p',k,r,rfl,rfl⟩
   ·refine nY ?_;clear nY
    refine .inl ⟨x,p,rfl,?_⟩
    refine Aa fun nY=>?_
    obtain⟨i,hi,e⟩:=Option.map_eq_some_iff.mp (show (c.own x).map P8.one=some t from h)
    refine nY ?_;clear nY
    exact⟨i,hi,e⟩
   ·refine nY ?_;clear nY
    exact .inr ⟨x,p,y,p',k,r,rfl,b2 (show ((c.own x) >>= fun i=>(c.own y) >>= fun j=>pure (P8.two i j))=some t from h)⟩
noncomputable def Of:S->Bool
 | .expr _=>true
 | .assign _ _=>true
 | .ite _ [a] [b]=>Of a&&Of b
 | _=>false
noncomputable def Hk:List S->Bool
 | [a]=>Of a
 | _=>false
noncomputable def asO(c:Cx):Option Str->Option (Option Nat)
 | none=>some none
 | some x=>if c.sc.names.lookup x==some .local then(c.own x).map some else none
set_option backward.match.sparseCases false in
noncomputable def Kt:Expr->Bool
 | .ListComp .. =>false
 | .SetComp .. =>false
 | .DictComp .. =>false
 | _=>true
noncomputable def Qe(n:Nat)(c:Cx)(t e:Expr):Option S:=
 match t with
 | .Name x _=>do return .assign (<-c.own x) (<-Rn n c e)
 | .Attribute o a _=>do return .setattr (<-Rn n c o) (<-L3 a) (<-Rn n c e)
 | .Subscript o i _=>(match i with
   | .Slice .. =>none
   | i=>do return .setitem (<-Rn n c o) (<-Rn n c i) (<-Rn n c e))
 | _=>none
set_option backward.match.sparseCases false in
noncomputable def Vt:Expr->Bool
 | .Constant (.str _) _ _=>true
 | _=>false
theorem X7{e:Expr}(h:Vt e=true):∃s k p,e = .Constant (.str s) k p:=by
 refine Aa fun nY=>?_
 cases e<;>try exact absurd h Bool.false_ne_true
 case Constant k a b=>
  cases k<;>try exact absurd h Bool.false_ne_true
  refine nY ?_;clear nY
  exact⟨_,_,_,rfl⟩
noncomputable def Fy(c:Cx)(e:Option Expr):Option Cp:=
 match e with
 | some e=>(match Db e with
   | some (x,args)=>(match args with
     | [a]=>if Vt a&&c.global x then Gs x else none
     | _=>none)
   | none=>none)
 | none=>none
noncomputable def Zp:Option Expr->Option Str
 | some e=>Ew e
 | none=>none
noncomputable def Gb(c:Cx)(h:ExceptHandler):Option (Cp×Option Nat):=match h with
 | .ExceptHandler t as b _=>(match Zp t with
   | some x=>if c.global x && !b.isEmpty then do return (<-Gs x,<-asO c as)else none
   | none=>none)
noncomputable def D5:ExceptHandler->List Stmt
 | .ExceptHandler _ _ b _=>b
noncomputable def H0(c:Cx)(h:ExceptHandler):Option Cp:=match Gb c h with
 | some (k,none)=>some k
 | _=>none
noncomputable def mk1(b:List S)(k:Cp×Option Nat)(h:List S):S:= .try1 b k.1 k.2 h
noncomputable def Vu(c:Cx):Stmt->Option Cp
 | .Raise e z _=>(match z with
   | none=>Fy c e
   | some _=>none)
 | _=>none
noncomputable def R0(c:Cx)(b:List Stmt):Option Cp:=match b with
 | [s]=>Vu c s
 | _=>none
noncomputable def mk2(b:List S)(k:Cp×Option Nat)(h:List S)(k':Cp)(h':List S):S:= .try2 b k.1 k.2 h k' h'
set_option backward.match.sparseCases false in
noncomputable def D6(n:Nat)(r:Cx->Stmt->Option S)(c:Cx)(s:Stmt):Option S:=
 match s with
 | .Assign ts e _=>(match ts with
   | [t]=>Qe n c t e
   | _=>none)
 | .Expr e _=>if Kt e then do return .expr (<-Rn n c e)else none
 | .If t a b _=>do return .ite (<-Rn n c t) (<-Ks (r c) a) (<-Ks (r c) b)
 | .For t it body els _=>(match els with
   | []=>do return .for (<-Vs c t) (<-Vr (Rn n c) c (Kq t) it) (<-Ks (r c) body)
   | _=>none)
 | .Return e _=>(match e with
   | some e=>do return .ret (<-Rn n c e)
   | none=>none)
 | .Pass _=>some .pass
 | .Raise e z _=>(match z with
   | none=>do return .raise (<-Fy c e)
   | some _=>none)
 | .Try body hs els fin _=>(match els,fin with
   | [],[]=>(match Ks (r c) body with
     | some b=>if Hk b then(match hs with
       | [h]=>(match R0 c (D5 h)with
         | some k'=>do return S.tryR b (<-H0 c h) k'
         | none=>do return mk1 b (<-Gb c h) (<-Ks (r {c with hnd:=true}) (D5 h)))
       | [h,h']=>do return mk2 b (<-Gb c h) (<-Ks (r {c with hnd:=true}) (D5 h)) (<-H0 c h') (<-Ks (r {c with hnd:=true}) (D5 h'))
       | h::_::_::_=>do return mk1 b (<-Gb c h) (<-Ks (r {c with hnd:=true}) (D5 h))
       | []=>none)else none
     | none=>none)
   | _,_=>none)
 | _=>none
set_option backward.match.sparseCases false in
noncomputable def Te:Stmt->Bool
 | .Return .. =>true
 | .If .. =>true
 | _=>false
noncomputable def erS:Nat->Cx->Stmt->Option S
 | 0=>fun _ _=>none
 | n+1=>fun c s=>if (c.hnd && !Te s)||c.cmp then none else D6 (n+1) (erS n) c s
noncomputable def Bp(params:Arguments)(sc:Scope):List Str:=
 params.args.map (·.arg)++(sc.names.filter fun p=>(p.2 == .local||p.2 == .cell) && !(params.args.any fun a=>a.arg==p.1)).map (·.1)
noncomputable def E9(p:Arguments):Bool:=p.posonlyargs.isEmpty&&p.vararg.isNone&&p.kwonlyargs.isEmpty&&p.kw_defaults.isEmpty&&p.kwarg.isNone&&p.defaults.isEmpty
noncomputable def X8(h:Bool)(params:Arguments)(body:List Stmt)(sc:Scope):Option Fn:=
 if E9 params&&sc.kind == .function && !sc.isGenerator && !sc.isCoroutine then do
  let ns:=Bp params sc
  return ⟨ns.length,params.args.length,<-Ks (erS 40 ⟨ns,sc,h,false⟩) body⟩
 else none
end Mine.Internal
namespace Mine.Internal
open PySem
/-! texts of the model,as lists of signs -/
noncomputable abbrev Bi(l:List Nat):Str:=⟨l.toArray⟩
theorem Zq(x:Str):Bi x.cps.toList=x:=by cases x;rfl
theorem Og{c:Nat}{r:List Nat}:∀ {t:List Nat},c∉t->Af c (t++c::r)=t::Af c r
 | [],_=>if_pos rfl
 | d::t,h=>by
   have h1:d≠c:=fun q=>h (by rw[q];exact .head _)
   show (if d=c then []::Af c (t++c::r)else Kh d (Af c (t++c::r)))=_
   rw[if_neg h1,Og fun q=>h (.tail _ q)]
   rfl
theorem L4{c:Nat}:∀ {t:List Nat},c∉t->Af c t = [t]
 | [],_=>rfl
 | d::t,h=>by
   have h1:d≠c:=fun q=>h (by rw[q];exact .head _)
   show (if d=c then []::Af c t else Kh d (Af c t))=_
   rw[if_neg h1,L4 fun q=>h (.tail _ q)]
   rfl
theorem M0{c:Nat}:∀ {ts:List (List Nat)},ts≠[]->(∀t∈ts,c∉t)->Af c (B7 [c] ts)=ts
 | [],h,_=>absurd rfl h
 | [t],_,h=>L4 (h t (.head _))
 | t::u::r,_,h=>by
   show Af c (t ++ [c]++B7 [c] (u::r))=_
   rw[List.append_assoc,List.singleton_append,Og (h t (.head _)),M0 (ts:=u::r) nofun fun x hx=>h x (.tail _ hx)]
theorem Pa{x:Str}:∀ {ts:List Str},(Str.join x ts).cps.toList=B7 x.cps.toList (ts.map (·.cps.toList))
 | []=>rfl
 | [t]=>rfl
 | t::u::r=>by
   show (t++x++Str.join x (u::r)).cps.toList=t.cps.toList++x.cps.toList++B7 x.cps.toList ((u::r).map (·.cps.toList))
   rw[<-Pa (ts:=u::r)]
   simp[Str.cps_append]
theorem Vv(x:List Nat)(c:Nat):(Txt.split (Bi x) (Bi [c])).map (·.cps.toList)=Af c x:=by
 have h1:B7 [c] ((Txt.split (Bi x) (Bi [c])).map (·.cps.toList))=x:=by
  have:=Pa (x:=Bi [c]) (ts:=Txt.split (Bi x) (Bi [c]))
  rw[StrLaws.join_split]at this
  exact this.symm
 have h2:∀t∈(Txt.split (Bi x) (Bi [c])).map (·.cps.toList),c∉t:=fun t ht=>by
  obtain⟨p,hp,rfl⟩:=List.mem_map.mp ht
  exact StrLaws.split_free (Bi x) c p hp
 have h3:(Txt.split (Bi x) (Bi [c])).map (·.cps.toList)≠[]:=fun q=>by
  have h4:=List.map_eq_nil_iff.mp q
  unfold Txt.split at h4
  split at h4
  ·cases h4
  ·split at h4
   ·cases h4
   ·rw[StrLaws.partsBetween_eq]at h4
    obtain⟨p,r,e⟩:=StrLaws.partsFrom_ne (Bi x) (Bi [c]).length 0 (Builtin.Str.occurrences (Bi x) (Bi [c]) 0 (Bi x).length ((Bi x).length+1))
    rw[e]at h4;cases h4
 conv=>rhs;rw[<-h1]
 exact(M0 h3 h2).symm
theorem M1{c:Nat}:∀ {x:List Nat},(Af c x).length<=x.length+1
 | []=>Nat.le_refl _
 | d::r=>by
   have h:=M1 (c:=c) (x:=r)
   show (if d=c then []::Af c r else Kh d (Af c r)).length<=_
   split
   ·simp only[List.length_cons];omega
   ·generalize Af c r=l at h
    cases l with
    | nil=>show 1<=_;simp
    | cons u v=>show v.length+1<=_;simp only[List.length_cons]at h ⊢;omega
theorem X9{x:List Nat}{ts:List (List Nat)}:Txt.join (Bi x) (ts.map Bi)=Bi (B7 x ts):=by
 show Builtin.Str.glued (Bi x) (ts.map Bi)=_
 rw[StrLaws.glued_eq_join,<-Zq (Str.join (Bi x) (ts.map Bi)),Pa,List.map_map]
 have e:((fun s:Str=>s.cps.toList)∘Bi)=id:=rfl
 rw[e,List.map_id]
theorem Oh{x:List Nat}:∀ {ts:List (List Nat)},(ts.map List.length).sum+ts.length*x.length<=(B7 x ts).length+x.length
 | []=>by simp
 | [t]=>by show t.length+0+1*x.length<=t.length+x.length;omega
 | t::u::r=>by
   have:=Oh (x:=x) (ts:=u::r)
   show t.length+((u::r).map List.length).sum+((u::r).length+1)*x.length<=(t++x++B7 x (u::r)).length+x.length
   rw[Nat.succ_mul,List.length_append,List.length_append]
   omega
theorem Yb{x:List Nat}{ts:List (List Nat)}(hx:x.length<=1000)(h:(B7 x ts).length<=B6):JoinOk (Bi x) (ts.map Bi)=true:=by
 unfold JoinOk
 rw[StrLaws.joinTotal]
 have e:((ts.map Bi).map (·.length)).sum=(ts.map List.length).sum:=by rw[List.map_map];rfl
 rw[e,List.length_map]
 have:=Oh (x:=x) (ts:=ts)
 have hb:B6=1048576:=rfl
 have hs:sizeLine=16777216:=rfl
 have hl:(Bi x).length=x.length:=rfl
 rw[hl]
 simp only[Builtin.Str.tooLong,Bool.not_eq_true',decide_eq_false_iff_not]
 omega
theorem H6(x:List Nat){a b:Nat}{l u:Option Int}(hb:b<=x.length)(h:Builtin.Str.strSliceIndices l u 1 x.length=sliceRange a b 1):Txt.slice (Bi x) l u=Bi ((x.take b).drop a):=by
 have e:(Builtin.Str.strSliceIndices l u 1 (Bi x).length)=(List.range (b-a)).map (a + ·):=by
  show Builtin.Str.strSliceIndices l u 1 x.length=_
  rw[h,sliceRange_one]
 unfold Txt.slice
 rw[e]
 split
 ·rename_i z
  have z:b-a=x.length:=by simpa[Str.length]using z
  have h1:a=0\/x = []:=by
   cases x with
   | nil=>exact .inr rfl
   | cons d r=>simp at z hb;exact .inl (by omega)
  rcases h1 with rfl|rfl
  ·rw[List.drop_zero,List.take_of_length_le (by omega)]
  ·simp
 ·rw[pick_run]
  simp only[List.drop_take]
theorem Vw(x:List Nat)(l u:Option Int):Txt.slice (Bi x) l u=Bi (cut x l u):=by
 have cl:∀k:Int,(max 0 (min (if k<0 then k+(x.length:Int)else k) x.length))=((Cs k x.length:Nat):Int)/\Cs k x.length<=x.length:=by
  intro k
  delta Cs
  split<;>constructor<;>omega
 have cp:∀(v:Option Int) (d:Int),(match v with|none=>d|some i=>if (1:Int)>0 then max 0 (min (if i<0 then i+(x.length:Int)else i) (x.length:Int))else max (-1) (min (if i<0 then i+(x.length:Int)else i) ((x.length:Int)-1)))=(match v with|none=>d|some i=>((Cs i x.length:Nat):Int)):=fun v d=>by
  cases v with
  | none=>rfl
  | some i=>exact(if_pos (by decide)).trans (cl i).1
 cases l with
 | none=>cases u with
   | none=>exact H6 x (a:=0) (Nat.le_refl _) rfl
   | some k=>exact H6 x (a:=0) (b:=Cs k x.length) (cl k).2 (congrArg (sliceRange 0 · 1) (cp (some k) 0))
 | some j=>cases u with
   | none=>exact H6 x (a:=Cs j x.length) (Nat.le_refl _) (congrArg (sliceRange · (x.length:Int) 1) (cp (some j) 0))
   | some k=>exact H6 x (a:=Cs j x.length) (b:=Cs k x.length) (cl k).2 (congr (congrArg (fun a b=>sliceRange a b 1) (cp (some j) 0)) (cp (some k) 0))
theorem Z5{i:Int}(h0:0<=i)(h1:i<100):Str.ofString (toString i)=Bi (Gy i.toNat):=by
 have:∀n:Fin 100,Str.ofString (toString ((n:Nat):Int))=Bi (Gy n):=by decide +kernel
 have h:=this ⟨i.toNat,by omega⟩
 rwa[show (((⟨i.toNat,by omega⟩:Fin 100):Nat):Int)=i by simp;omega]at h
theorem Z6{x:List Nat}{i:Nat}(h:Bg x=some i):intText? (Bi x)=some (i:Int):=by
 have h1:∀a:Fin 10,intText? (Bi [48+(a:Nat)])=some ((a:Nat):Int):=by decide +kernel
 have h2:∀a b:Fin 10,intText? (Bi [48+(a:Nat),48+(b:Nat)])=some (((a:Nat)*10+(b:Nat):Nat):Int):=by decide +kernel
 have dg:∀c:Nat,Lj c=true->48<=c/\c<=57:=fun c h=>by unfold Lj at h;simpa using h
 rcases x with _ | ⟨a,_ | ⟨b,_ | ⟨d,r⟩⟩⟩
 ·cases h
 ·replace h:(if Lj a=true then some (a-48)else none)=some i:=h
  split at h
  ·rename_i z
   have z:=dg a z
   cases h
   have:=h1 ⟨a-48,by omega⟩
   rwa[show 48+(a-48)=a by omega]at this
  ·cases h
 ·replace h:(if (Lj a&&Lj b)=true then some ((a-48)*10+(b-48))else none)=some i:=h
  split at h
  ·rename_i z
   have z:=Bool.and_eq_true_iff.mp z
   have z1:=dg a z.1
   have z2:=dg b z.2
   cases h
   have:=h2 ⟨a-48,by omega⟩ ⟨b-48,by omega⟩
   rwa[show 48+(a-48)=a by omega,show 48+(b-48)=b by omega]at this
  ·cases h
 ·cases h
end Mine.Internal
namespace Mine.Internal
open PySem PySem.W PyProof.Rows
set_option genCtorIdx false in
structure Wd where
 prog:Program
 w:World
 K:Frag
 cl:Cp->Addr
 b₀:Heap
 os:OsState
 sa:Addr
 sn:List Int
 hsc:(Li fun items=>Go (b₀.IsList sa items.toArray) (PyProof.Rows.IntsAre items sn) (items.length<=B6))
variable {W:Wd}
noncomputable abbrev Wd.M(W:Wd):Model:=model W.prog W.w
inductive VR(W:Wd):V->Value->Prop
 | none:VR W .none .none
 | bool (b):VR W (.bool b) (.bool b)
 | int (i t):VR W (.int i) (.int i t)
 | str (s t):VR W (.str s) (.str (Bi s) t)
 | ref (a):VR W (.ref a) (.ref a)
 | fn {f a}:Ef f=none->nsIn W.K mainGlobals (Hi f)=some (some (.ref a))->VR W (.fn f) (.ref a)
 | script:VR W (.script W.sn) (.ref W.sa)
theorem R7(x:Str)(t:Tok):VR W (.str x.cps.toList) (.str x t):=(congrArg (fun y=>VR W (.str x.cps.toList) (.str y t)) (Zq x)).mp (VR.str _ _)
inductive Dc(W:Wd):List V->List Value->Prop
 | nil:Dc W [] []
 | cons {v c vs cs}:VR W v c->Dc W vs cs->Dc W (v::vs) (c::cs)
theorem Dc.length:∀ {vs cs},Dc W vs cs->vs.length=cs.length
 | _,_,.nil=>rfl
 | _,_,.cons _ t=>by simp[t.length]
theorem Dc.append:∀ {vs cs vs' cs'},Dc W vs cs->Dc W vs' cs'->Dc W (vs++vs') (cs++cs')
 | _,_,_,_,.nil,h=>h
 | _,_,_,_,.cons h t,h'=> .cons h (t.append h')
theorem Dc.get:∀ {vs cs} (i:Nat) {v},Dc W vs cs->vs[i]? = some v->∃c,cs[i]? = some c/\VR W v c
 | _,_,0,_,.cons h _,e=>by simp at e;subst e;exact⟨_,rfl,h⟩
 | _,_,i+1,_,.cons _ t,e=>by simp at e;simpa using t.get i e
theorem Dc.get':∀ {vs cs} (i:Nat) {c},Dc W vs cs->cs[i]? = some c->∃v,vs[i]? = some v/\VR W v c
 | _,_,0,_,.cons h _,e=>by simp at e;subst e;exact⟨_,rfl,h⟩
 | _,_,i+1,_,.cons _ t,e=>by simp at e;simpa using t.get' i e
theorem Dc.set:∀ {vs cs} (i:Nat) {v c},Dc W vs cs->VR W v c->Dc W (vs.set i v) (cs.set i c)
 | _,_,_,_,_,.nil,_=> .nil
 | _,_,0,_,_,.cons _ t,h=> .cons h t
 | _,_,i+1,_,_,.cons h' t,h=> .cons h' (t.set i h)
theorem Dc.take:∀ {vs cs} (n:Nat),Dc W vs cs->Dc W (vs.take n) (cs.take n)
 | _,_,0,_=>by simpa using Dc.nil
 | _,_,_+1,.nil=> .nil
 | _,_,n+1,.cons h t=> .cons h (t.take n)
theorem Dc.drop:∀ {vs cs} (n:Nat),Dc W vs cs->Dc W (vs.drop n) (cs.drop n)
 | _,_,0,h=>h
 | _,_,_+1,.nil=> .nil
 | _,_,n+1,.cons _ t=>t.drop n
theorem Dc.reverse:∀ {vs cs},Dc W vs cs->Dc W vs.reverse cs.reverse
 | _,_,.nil=> .nil
 | _,_,.cons h t=>by simp only[List.reverse_cons];exact t.reverse.append (.cons h .nil)
theorem Dc.replicate{vs cs}(h:Dc W vs cs):∀n,Dc W (List.replicate n vs).flatten (List.replicate n cs).flatten
 | 0=> .nil
 | n+1=>by simp only[List.replicate_succ,List.flatten_cons];exact h.append (h.replicate n)
noncomputable def Ax:C6->Str
 | .many=> "many" | .rows=> "rows"
inductive Ub(W:Wd):List (C6×V)->List DictEntry->Prop
 | nil:Ub W [] []
 | cons {a v fs e es}:e.key.isStr (Ax a)=true->(∃t,e.key = .str (Ax a) t)->VR W v e.val->Ub W fs es->Ub W ((a,v)::fs) (e::es)
inductive Ro(W:Wd):List (Int×V)->List (Int×Value)->Prop
 | nil:Ro W [] []
 | cons {k v c es kvs}:VR W v c->Ro W es kvs->Ro W ((k,v)::es) ((k,c)::kvs)
noncomputable def VE:List Value:=[.type "ValueError",.type "Exception",.type "BaseException",.type "object"]
noncomputable def Ku:Cp->Str
 | .webError=> "WebError" | .badWeb=> "BadWeb" | .noPoint=> "NoPoint" | .badText=> "BadText" | .badOrder=> "BadOrder" | .hasGap=> "HasGap" | _=> ""
theorem Kv{x:Str}{c:Cp}(h:Gs x=some c):x=Ku c:=(by decide:∀p∈Ll,p.1=Ku p.2) (x,c) (E8 h)
noncomputable def M2(K:Frag)(C:Addr):List Value:=match K.lookup C with
 | some ⟨_,_,.cls cd,_⟩=>cd.mro
 | _=>[]
noncomputable def I2:List Str:=["__getattribute__","__getattr__","__class__"]
noncomputable def Kw(K:Frag):List Value->Bool
 | []=>false
 | v::r=>(v::r)==VE||(match v with
   | .ref A=>(match K.lookup A with
     | some ⟨_,_,.cls cd,_⟩=>nsOkIn K cd.ns&&I2.all (fun n=>nsIn K cd.ns n==some none)&&Kw K r
     | _=>false)
   | _=>false)
structure Kx(W:Wd)(c:Cp):Prop where
 name:nsIn W.K mainGlobals (Ku c)=some (some (.ref (W.cl c)))
 own:excIn W.K (W.cl c) VE "ValueError.__new__" = true
 quiet:Kw W.K (M2 W.K (W.cl c))=true
inductive OR(W:Wd):O->Obj->Prop
 | list {xs items n}:Dc W xs items->xs.length<=B6->OR W (.list xs) {cls:= .type "list",data:= .seq items.toArray n}
 | tuple {xs items n}:Dc W xs items->xs.length<=B6->OR W (.tuple xs) {cls:= .type "tuple",data:= .seq items.toArray n}
 | dict {es kvs ob}:Ro W es kvs->es.length<=B6->ob.IsDictOf (intKind W.prog W.w) kvs->OR W (.dict es) ob
 | inst {c d}:(c = .web\/c = .verdict)->OR W (.inst c d) (instObj (W.cl c) d)
 | ns {fs es n}:Ub W fs es->fs.length<=10->OR W (.ns fs) (dictOf es n)
 | exc {c ob vs}:Kx W c->ob.cls = .ref (W.cl c)->ob.data = .fields vs->(c = .badText\/vs[2]? = some .none)->OR W (.exc c) ob
set_option genCtorIdx false in
structure HB where
 h:Heap
 fs:List Addr
noncomputable def HB.get? (x:HB)(a:Addr):Option Obj:=x.h.get? a
noncomputable def R8(W:Wd)(fs:List Addr)(b:Addr)(o o':Obj):Prop:=o'=o\/((b∈fs/\W.b₀.get? b=none)/\∃sl,o' = {o with slots:=sl})
theorem R8.refl{fs:List Addr}{b:Addr}{o:Obj}:R8 W fs b o o:= .inl rfl
theorem R8.trans{fs:List Addr}{b:Addr}{o o' o'':Obj}(h:R8 W fs b o o')(h':R8 W fs b o' o''):R8 W fs b o o'':=by
 rcases h with rfl | ⟨d,sl,rfl⟩
 ·exact h'
 ·rcases h' with rfl | ⟨_,sl',rfl⟩
  ·exact .inr ⟨d,sl,rfl⟩
  ·exact .inr ⟨d,sl',rfl⟩
noncomputable def Fz(W:Wd)(h:HB)(h':Heap):Prop:=∀b o,h.get? b=some o->∃o',h'.get? b=some o'/\R8 W h.fs b o o'
theorem Fz.of{h:HB}{h':Heap}(k:∀b o,h.get? b=some o->h'.get? b=some o):Fz W h h':=fun b o e=>⟨o,k b o e,.refl⟩
theorem Fz.more{h:HB}{h' h'':Heap}(k:Fz W h h')(k':∀b o,h'.get? b=some o->h''.get? b=some o):Fz W h h'':=fun b o e=>
 let ⟨o',e1,s1⟩:=k b o e;⟨o',k' b o' e1,s1⟩
theorem Fz.trans{h h₁:HB}{h'':Heap}(k:Fz W h h₁.h)(hf:∀b o,h.get? b=some o->b∈h₁.fs->b∈h.fs)(k':Fz W h₁ h''):Fz W h h'':=fun b o e=>
 let ⟨_,e1,s1⟩:=k b o e;let ⟨_,e2,s2⟩:=k' b _ e1;⟨_,e2,s1.trans (s2.imp id fun⟨⟨m,n⟩,z⟩=>⟨⟨hf b o e m,n⟩,z⟩)⟩
theorem Fz.exact{h:HB}{h':Heap}(k:Fz W h h'){b:Addr}{o:Obj}(e:h.get? b=some o)(hx:b∉h.fs\/W.b₀.get? b≠none):h'.get? b=some o:=by
 refine Aa fun nY=>?_
 obtain⟨o',e1,s | ⟨⟨d,n⟩,_⟩⟩:=k b o e
 ·refine nY ?_;clear nY
  rw[e1,s]
 ·rcases hx with hx|hx
  ·exact absurd d hx
  ·exact absurd n hx
theorem Fz.ns{h:HB}{h':Heap}(k:Fz W h h'){a:Addr}{m:Str->Option Value}(x:h.h.Ns a m):h'.Ns a m:=by
 refine Aa fun nY=>?_
 obtain⟨o,es,ep,ho,hd,r⟩:=x
 obtain⟨o',e1,s⟩:=k a o ho
 refine nY ?_;clear nY
 refine⟨o',es,ep,e1,?_,r⟩
 rcases s with rfl | ⟨_,_,rfl⟩<;>exact hd
theorem Fz.none{h:HB}{h':Heap}(k:Fz W h h'){b:Addr}(e:h'.get? b=none):h.get? b=none:=by
 cases q:h.get? b with
 | none=>rfl
 | some o=>obtain⟨_,e1,_⟩:=k b o q;rw[e]at e1;cases e1
structure Ak(W:Wd)(h₀:HB)(env:Env)(names:List Str)(H:AH)(ρ:Ao)(s:Shared):Prop where
 ns:∃m,s.heap.Ns env.locals m/\∀x i v,names.idxOf? x=some i->env.kindOf x=some .local->ρ[i]? = some (some v)->∃c,m x=some c/\VR W v c
 cell:∀x a,env.cells.lookup x=some a->∃w,s.heap.IsCell a w/\∀i v,names.idxOf? x=some i->(env.kindOf x=some .cell\/env.kindOf x=some .free)->ρ[i]? = some (some v)->∃c,w=some c/\VR W v c
 keep:Fz W h₀ s.heap
 objs:∀a o,H a=some o->∃ob,s.heap.get? a=some ob/\OR W o ob
 sep:∀a o,H a=some o->h₀.get? a=none/\a≠env.locals/\∀x,env.cells.lookup x≠some a
 gens:s.gens = #[]
 os:s.os=W.os
 above:W.b₀.objs.size<=env.locals
 low:∀a es,H a=some (.dict es)->W.b₀.objs.size<=a
structure Ac(W:Wd)(env:Env)(c:Cx)(h₀:HB):Prop where
 kind:env.scope.kind = .function
 globals:env.globals=mainGlobals
 builtins:env.builtins=builtinsNs
 kinds:∀x k,c.sc.names.lookup x=some k->k≠ .free->env.kindOf x=some k
 frees:∀x,c.sc.names.lookup x=some .free->env.kindOf x=some .cell\/env.kindOf x=some .free
 cells:∀x,env.kindOf x=some .cell\/env.kindOf x=some .free->∃a,env.cells.lookup x=some a
 apart:∀x a,env.cells.lookup x=some a->a≠env.locals
 inj:∀x y a,env.cells.lookup x=some a->env.cells.lookup y=some a->x=y
 base:∀b o,W.b₀.get? b=some o->h₀.get? b=some o
 new:h₀.get? env.locals=none
 fsok:∀L∈h₀.fs,h₀.get? L≠none
 fsd:∀L∈h₀.fs,W.b₀.get? L=none/\∀o,h₀.get? L=some o->∀vs,o.data≠ .fields vs
 newc:∀p∈env.cells,h₀.get? p.2=none
 look:∀p∈env.cells,env.cells.lookup p.1=some p.2
 lo:sysModules<W.b₀.objs.size
section
variable {h₀:HB} {env:Env} {names:List Str} {H:AH} {ρ:Ao} {s:Shared}
theorem Ak.toks(R:Ak W h₀ env names H ρ s)(t:Nat):Ak W h₀ env names H ρ {s with toks:=t}:=⟨R.ns,R.cell,R.keep,R.objs,R.sep,R.gens,R.os,R.above,R.low⟩
theorem Ak.move(R:Ak W h₀ env names H ρ s){h':Heap}(t:Nat)(k:∀b o,s.heap.get? b=some o->h'.get? b=some o):Ak W h₀ env names H ρ {s with heap:=h',toks:=t} where
 ns:=let ⟨m,a,b⟩:=R.ns;⟨m,a.keeps k,b⟩
 cell:=fun x a e=>let ⟨w,⟨o,ho,hd⟩,r⟩:=R.cell x a e;⟨w,⟨o,k _ _ ho,hd⟩,r⟩
 keep:=R.keep.more k
 objs:=fun a o e=>let ⟨ob,h1,h2⟩:=R.objs a o e;⟨ob,k _ _ h1,h2⟩
 sep:=R.sep
 gens:=R.gens
 os:=R.os
 above:=R.above
 low:=R.low
theorem Pb{h h₀:Heap}(k:∀b o,h₀.get? b=some o->h.get? b=some o):h₀.get? h.objs.size=none:=by
 cases q:h₀.get? h.objs.size with
 | none=>rfl
 | some o=>exact absurd (Heap.lt_size (k _ _ q)) (Nat.lt_irrefl _)
theorem Ak.fresh(R:Ak W h₀ env names H ρ s):H s.heap.objs.size=none:=by
 cases q:H s.heap.objs.size with
 | none=>rfl
 | some o=>obtain⟨ob,h1,_⟩:=R.objs _ _ q;exact absurd (Heap.lt_size h1) (Nat.lt_irrefl _)
theorem Qf{a:Addr}{h:Heap}(ha:h.objs.size<=a):h.get? a=none:=by
 cases q:h.get? a with
 | none=>rfl
 | some o=>exact absurd (Heap.lt_size q) (Nat.not_lt.mpr ha)
theorem Ak.up(R:Ak W h₀ env names H ρ s):W.b₀.objs.size<=s.heap.objs.size:=by
 obtain⟨m,h,_⟩:=R.ns;exact Nat.le_trans R.above (Nat.le_of_lt h.lt)
theorem Ak.put(R:Ak W h₀ env names H ρ s){h':Heap}{a:Addr}{o:O}{ob:Obj}(t:Nat)(k:∀b o,s.heap.get? b=some o->h'.get? b=some o)
 (ho:h'.get? a=some ob) (r:OR W o ob) (hn:s.heap.get? a=none) (hb:∀es,o = .dict es->W.b₀.objs.size<=a):Ak W h₀ env names (upd H a o) ρ {s with heap:=h',toks:=t} where
 ns:=let ⟨m,x,b⟩:=R.ns;⟨m,x.keeps k,b⟩
 cell:=fun x a e=>let ⟨w,⟨o,ho,hd⟩,r⟩:=R.cell x a e;⟨w,⟨o,k _ _ ho,hd⟩,r⟩
 keep:=R.keep.more k
 objs:=fun b o' e=>by
  unfold upd at e
  split at e
  ·rename_i q;subst q;cases e;exact⟨ob,ho,r⟩
  ·obtain⟨ob',h1,h2⟩:=R.objs b o' e;exact⟨ob',k _ _ h1,h2⟩
 sep:=fun b o' e=>by
  unfold upd at e
  split at e
  ·rename_i q;subst q
   refine⟨?_,?_,?_⟩
   ·exact R.keep.none hn
   ·rintro rfl;obtain⟨m,⟨o,_,_,h,_⟩,_⟩:=R.ns;rw[h]at hn;cases hn
   ·intro x q;obtain⟨w,⟨o,h,_⟩,_⟩:=R.cell x b q;rw[h]at hn;cases hn
  ·exact R.sep b o' e
 gens:=R.gens
 os:=R.os
 above:=R.above
 low:=fun b o' e=>by
  unfold upd at e
  split at e
  ·rename_i q;subst q;exact hb _ (Option.some.inj e)
  ·exact R.low b o' e
theorem B0(h:Heap):h.get? h.objs.size=none:=by
 cases q:h.get? h.objs.size with
 | none=>rfl
 | some o=>exact absurd (Heap.lt_size q) (Nat.lt_irrefl _)
theorem Ak.change(R:Ak W h₀ env names H ρ s){h':Heap}{a:Addr}{o o':O}{ob:Obj}(t:Nat)(he:H a=some o')(k:Heap.SameBut a s.heap h')
 (ho:h'.get? a=some ob) (r:OR W o ob) (hl:∀es,o = .dict es->∃es',o' = .dict es'):Ak W h₀ env names (upd H a o) ρ {s with heap:=h',toks:=t}:=by
 refine Aa fun nY=>?_
 obtain⟨s1,s2,s3⟩:=R.sep a o' he
 refine nY ?_;clear nY
 refine⟨?_,?_,?_,?_,?_,R.gens,R.os,R.above,?_⟩
 ·obtain⟨m,x,b⟩:=R.ns;exact⟨m,x.sameBut k (Ne.symm s2),b⟩
 ·intro x c e
  refine Aa fun nY=>?_
  obtain⟨w,⟨oc,hc,hd⟩,r⟩:=R.cell x c e
  refine nY ?_;clear nY
  exact⟨w,⟨oc,(k.2 c (fun q=>s3 x (q▸e))).trans hc,hd⟩,r⟩
 ·intro b x e
  refine Aa fun nY=>?_
  obtain⟨x',e1,z⟩:=R.keep b x e
  refine nY ?_;clear nY
  exact⟨x',(k.2 b (fun q=>by rw[q,s1]at e;cases e)).trans e1,z⟩
 ·intro b x e
  unfold upd at e
  refine Aa fun nY=>?_
  split at e
  ·refine nY ?_;clear nY
   rename_i q;subst q;cases e;exact⟨ob,ho,r⟩
  ·refine nY ?_;clear nY
   rename_i q;obtain⟨ob',h1,h2⟩:=R.objs b x e;exact⟨ob',(k.2 b q).trans h1,h2⟩
 ·intro b x e
  unfold upd at e
  refine Aa fun nY=>?_
  split at e
  ·refine nY ?_;clear nY
   rename_i q;subst q;exact⟨s1,s2,s3⟩
  ·refine nY ?_;clear nY
   exact R.sep b x e
 ·intro b x e
  unfold upd at e
  refine Aa fun nY=>?_
  split at e
  ·refine nY ?_;clear nY
   rename_i q;subst q;obtain⟨es',rfl⟩:=hl _ (Option.some.inj e);exact R.low b _ he
  ·refine nY ?_;clear nY
   exact R.low b x e
theorem Ak.keepB{c:Cx}(R:Ak W h₀ env names H ρ s)(Y:Ac W env c h₀):∀b o,W.b₀.get? b=some o->s.heap.get? b=some o:=fun b o e=>
 R.keep.exact (Y.base b o e) (.inr (by rw[e];nofun))
theorem Ak.fsd{c:Cx}(R:Ak W h₀ env names H ρ s)(Y:Ac W env c h₀){L:Addr}(m:L∈h₀.fs):∃o,s.heap.get? L=some o/\∀vs,o.data≠ .fields vs:=by
 cases q:h₀.get? L with
 | none=>exact absurd q (Y.fsok L m)
 | some o=>
   obtain⟨o',e1,z⟩:=R.keep L o q
   refine⟨o',e1,?_⟩
   rcases z with z | ⟨_,sl,z⟩<;>rw[z]<;>exact(Y.fsd L m).2 o q
theorem Ak.script{c:Cx}(Y:Ac W env c h₀)(R:Ak W h₀ env names H ρ s):(Li fun items=>Go (s.heap.IsList W.sa items.toArray) (IntsAre items W.sn) (items.length<=B6)):=by
 refine Aa fun nY=>?_
 obtain⟨items,⟨o,h1,h2⟩,h3,h4⟩:=W.hsc
 refine nY ?_;clear nY
 exact⟨items,⟨o,R.keepB Y _ _ h1,h2⟩,h3,h4⟩
end
end Mine.Internal
namespace Mine.Internal
open PySem PySem.W PyProof.Rows
variable {W:Wd} {A:Around} {h₀:HB} {env:Env} {c:Cx} {names:List Str} {H:AH} {ρ:Ao} {s:Shared} {E:Value->Shared->Prop} {n:Nat} {Er:EP}
noncomputable def A7(W:Wd)(h₀:HB)(env:Env)(names:List Str)(ρ:Ao)(Q:Ad)(v:Value)(s':Shared):Prop:=(Gx fun a H'=>Go (VR W a v) (Ak W h₀ env names H' ρ s') (Q a H'))
noncomputable def Stk(A:Around)(fs:List Addr):Prop:=∃l,A.frames=some l/\∀x∈l,x.scope.kind≠ .module/\∃L,x.frame=some L/\L∈fs
theorem Stk.more{A:Around}{fs fs':List Addr}(x:Stk A fs)(h:∀L∈fs,L∈fs'):Stk A fs':=let ⟨l,e,z⟩:=x;⟨l,e,fun y m=>let ⟨k,L,f,g⟩:=z y m;⟨k,L,f,h L g⟩⟩
structure Ky(A:Around)(c:Cx)(h₀:HB)(env:Env)(n:Nat):Prop where
 handled:c.hnd=false->A.handled=none
 room:A.depth+4*n+4<recursionLimit
 units:A.units+30*n+60<cLine
 stk:Stk A (env.locals::h₀.fs)
 top:c.cmp=false->∃outer,A.frames=some (env::outer)/\env.frame=some env.locals
noncomputable def Eb(h₀:HB)(env:Env)(H:AH)(hs:List Addr):Prop:=∀b∈hs,H b=none/\h₀.get? b=none/\b≠env.locals/\∀p∈env.cells,p.2≠b
noncomputable def Trc(h:Heap)(e:Addr)(hid:Addr->Prop)(fl:Option Value):Prop:=(Rm fun oe vs a0=>Rq (h.get? e=some oe) (oe.data = .fields vs) (vs[0]? = some a0) ((match fl with
 | none=>vs[1]? = some .none
 | some x=>(Rm fun T oT ts=>Z0 (vs[1]? = some (.ref T)) (T≠e) (h.get? T=some oT) (oT.data = .fields ts) (ts[3]? = some x) (hid T)))))
noncomputable def Pc(W:Wd)(h₀:HB)(env:Env)(names:List Str)(ρ:Ao)(E:EP)(fl:Option Value)(v:Value)(s':Shared):Prop:=
 (Rm fun e H' cc=>Xx (v = .ref e) (Ak W h₀ env names H' ρ s') (H' e=some (.exc cc)) (Trc s'.heap e (fun T=>Eb h₀ env H' [T]) fl) (E (.ref e) H'))
noncomputable def EM(W:Wd)(h₀:HB)(env:Env)(names:List Str)(ρ:Ao)(E:EP)(v:Value)(s':Shared):Prop:=
 ∃fl:Option Value,Pc W h₀ env names ρ E fl v s'
theorem EM.ef{P:Prop}{v:Value}{s:Shared}(x:EM W h₀ env names ρ EF v s):P:=by
 obtain⟨_,_,_,_,_,_,_,_,q⟩:=x
 exact False.elim q
noncomputable def Gc(b₀:Heap)(L:Addr)(h:Heap):List (Addr×Obj):=(List.range h.objs.size).filterMap fun a=>if a=L\/(b₀.get? a).isSome=true then none else(h.get? a).map fun o=>(a,o)
/-! what an operation wants,told apart once -/
theorem Eh{P:Nat->Prop}{g:V->Value->Prop}{v:V}{u:Value}(h:VR W v u)(q:Bl v P)(k:∀a,P a->g (.ref a) (.ref a)):g v u:=by
 induction h with
 | ref a=>exact k a q
 | _=>exact False.elim q
theorem Au{P:Int->Prop}{g:V->Value->Prop}{v:V}{u:Value}(h:VR W v u)(q:A0 v P)(k:∀i t,P i->g (.int i) (.int i t)):g v u:=by
 induction h with
 | int i t=>exact k i t q
 | _=>exact False.elim q
theorem H7{P:List Nat->Prop}{g:V->Value->Prop}{v:V}{u:Value}(h:VR W v u)(q:Oa v P)(k:∀l t,P l->g (.str l) (.str (Bi l) t)):g v u:=by
 induction h with
 | str l t=>exact k l t q
 | _=>exact False.elim q
theorem R9{P:Nat->Prop}{g:List Nat->Prop}{s:List Nat}(q:Z1 s P)(k:∀c,P c->g [c]):g s:=by
 rcases s with _ | ⟨c,_ | ⟨d,r⟩⟩
 ·exact False.elim q
 ·exact k c q
 ·exact False.elim q
theorem Vx{P:Int->Prop}{g:Prop}{v:V}(q:A0 v P)(k:∀i,P i->g):g:=by
 cases v<;>first|exact k _ q|exact False.elim q
theorem L5{P:V->Prop}{g:List V->List Value->Prop}{vs:List V}{us:List Value}(h:Dc W vs us)(q:Rr vs P)(k:∀v u,VR W v u->P v->g [v] [u]):g vs us:=by
 cases h with
 | nil=>exact False.elim q
 | cons h t=>cases t with
   | nil=>exact k _ _ h q
   | cons=>exact False.elim q
theorem Zr{P:V->V->Prop}{g:List V->List Value->Prop}{vs:List V}{us:List Value}(h:Dc W vs us)(q:X0 vs P)(k:∀v w u x,VR W v u->VR W w x->P v w->g [v,w] [u,x]):g vs us:=by
 cases h with
 | nil=>exact False.elim q
 | cons h t=>cases t with
   | nil=>exact False.elim q
   | cons h' t=>cases t with
     | nil=>exact k _ _ _ _ h h' q
     | cons=>exact False.elim q
theorem M3{o:Option O}{P:List V->Prop}{g:Prop}(q:Ob o P)(k:∀xs,o=some (.list xs)->P xs->g):g:=by
 cases o with
 | none=>exact False.elim q
 | some x=>cases x<;>first|exact k _ rfl q|exact False.elim q
theorem Qg{o:Option O}{P:Cp->Nat->Prop}{g:Prop}(q:Mq o P)(k:∀c d,o=some (.inst c d)->P c d->g):g:=by
 cases o with
 | none=>exact False.elim q
 | some x=>cases x<;>first|exact k _ _ rfl q|exact False.elim q
theorem Yc{o:Option O}{P:Nat->Prop}{g:Prop}(q:S6 o P)(k:∀d,o=some (.inst .web d)->P d->g):g:=by
 cases o with
 | none=>exact False.elim q
 | some x=>cases x with
   | inst c d=>cases c<;>first|exact k _ rfl q|exact False.elim q
   | _=>exact False.elim q
theorem Sa{o:Option O}{P:List (C6×V)->Prop}{g:Prop}(q:P9 o P)(k:∀fs,o=some (.ns fs)->P fs->g):g:=by
 cases o with
 | none=>exact False.elim q
 | some x=>cases x<;>first|exact k _ rfl q|exact False.elim q
theorem B5{α:Type}{o:Option α}{P:α->Prop}{g:Prop}(q:Ff o P)(k:∀x,o=some x->P x->g):g:=by
 cases o with
 | none=>exact False.elim q
 | some x=>exact k x rfl q
theorem Gd{b₀:Heap}{L:Addr}{h:Heap}{a:Addr}{o:Obj}:(a,o)∈Gc b₀ L h↔a≠L/\b₀.get? a=none/\h.get? a=some o:=by
 unfold Gc
 rw[List.mem_filterMap]
 constructor
 ·rintro hP1
  refine Aa fun nY=>?_
  obtain⟨b,hb,e⟩:=hP1
  split at e
  ·cases e
  ·rename_i q
   obtain⟨o',h1,h2⟩:=Option.map_eq_some_iff.mp e
   cases h2
   simp only[not_or,Bool.not_eq_true,Option.isSome_eq_false_iff,Option.isNone_iff_eq_none]at q
   refine nY ?_;clear nY
   exact⟨q.1,q.2,h1⟩
 ·rintro hP2
  refine Aa fun nY=>?_
  obtain⟨h1,h2,h3⟩:=hP2
  refine nY ?_;clear nY
  refine⟨a,List.mem_range.mpr (Heap.lt_size h3),?_⟩
  rw[if_neg (by simp[h1,h2]),h3];rfl
theorem Ak.kitF(R:Ak W h₀ env names H ρ s)(Y:Ac W env c h₀):∃m,Fr W.b₀ env.locals s.heap m:=
 let ⟨m,hm,_⟩:=R.ns;⟨m,hm,R.keepB Y,R.above⟩
theorem Vy:News W.b₀ env.locals s.heap (Gc W.b₀ env.locals s.heap):=fun p hp=>by
 obtain⟨a,o⟩:=p
 obtain⟨h1,h2,h3⟩:=Gd.mp hp
 exact⟨h3,h1,h2⟩
theorem Tf(R:Ak W h₀ env names H ρ s)(Y:Ac W env c h₀){m:Str->Option Value}{h':Heap}{news':List (Addr×Obj)}(F':Fr W.b₀ env.locals h' m)(N':News W.b₀ env.locals h' news')
 (sub:∀p∈Gc W.b₀ env.locals s.heap,p∈news'):∀b o,b≠env.locals->s.heap.get? b=some o->h'.get? b=some o:=fun b o hb e=>by
 cases q:W.b₀.get? b with
 | some o'=>have e1:=R.keepB Y b o' q;rw[e]at e1;cases e1;exact F'.keep b _ q
 | none=>exact(N' (b,o) (sub _ (Gd.mpr ⟨hb,q,e⟩))).1
theorem Ak.moveL(R:Ak W h₀ env names H ρ s)(Y:Ac W env c h₀){h':Heap}(t:Nat){m:Str->Option Value}(hm:s.heap.Ns env.locals m)(hm':h'.Ns env.locals m)
 (k:∀b o,b≠env.locals->s.heap.get? b=some o->h'.get? b=some o):Ak W h₀ env names H ρ {s with heap:=h',toks:=t} where
 ns:=by
  refine Aa fun nY=>?_
  obtain⟨m₁,h1,h2⟩:=R.ns
  refine nY ?_;clear nY
  refine⟨m,hm',fun x i v e1 e2 e3=>?_⟩
  refine Aa fun nY=>?_
  obtain⟨c,h3,h4⟩:=h2 x i v e1 e2 e3
  refine nY ?_;clear nY
  refine⟨c,?_,h4⟩
  refine Aa fun nY=>?_
  obtain⟨o,es,ep,a1,a2,a3,a4⟩:=h1
  obtain⟨o',es',ep',b1,b2,b3,b4⟩:=hm
  rw[a1]at b1;cases b1
  rw[a2]at b2;cases b2
  refine nY ?_;clear nY
  rw[<-b4,a4];exact h3
 cell:=fun x a e=>let ⟨w,⟨o,ho,hd⟩,r⟩:=R.cell x a e;⟨w,⟨o,k _ _ (Y.apart x a e) ho,hd⟩,r⟩
 keep:=fun b o e=>let ⟨o',e1,z⟩:=R.keep b o e;⟨o',k _ _ (fun q=>by rw[q,Y.new]at e;cases e) e1,z⟩
 objs:=fun a o e=>let ⟨ob,h1,h2⟩:=R.objs a o e;⟨ob,k _ _ (R.sep a o e).2.1 h1,h2⟩
 sep:=R.sep
 gens:=R.gens
 os:=R.os
 above:=R.above
 low:=R.low
theorem Ak.add(R:Ak W h₀ env names H ρ s){a:Addr}{o:O}{ob:Obj}(ho:s.heap.get? a=some ob)(r:OR W o ob)(hn:H a=none)(hh:h₀.get? a=none)(hl:a≠env.locals)(hc:∀x,env.cells.lookup x≠some a)(hb:W.b₀.objs.size<=a) :
 Ak W h₀ env names (upd H a o) ρ s where
 ns:=R.ns
 cell:=R.cell
 keep:=R.keep
 objs:=fun b o' e=>by
  unfold upd at e
  split at e
  ·rename_i q;subst q;cases e;exact⟨ob,ho,r⟩
  ·exact R.objs b o' e
 sep:=fun b o' e=>by
  unfold upd at e
  split at e
  ·rename_i q;subst q;exact⟨hh,hl,hc⟩
  ·exact R.sep b o' e
 gens:=R.gens
 os:=R.os
 above:=R.above
 low:=fun b o' e=>by
  unfold upd at e
  split at e
  ·rename_i q;subst q;exact hb
  ·exact R.low b o' e
theorem Ak.new_sep(R:Ak W h₀ env names H ρ s){a:Addr}(hn:s.heap.get? a=none)(hb:W.b₀.objs.size<=a):H a=none/\h₀.get? a=none/\a≠env.locals/\(∀x,env.cells.lookup x≠some a)/\W.b₀.objs.size<=a:=by
 refine⟨?_,?_,?_,?_,hb⟩
 ·cases q:H a with
  | none=>rfl
  | some o=>obtain⟨ob,h1,_⟩:=R.objs _ _ q;rw[hn]at h1;cases h1
 ·exact R.keep.none hn
 ·rintro rfl;obtain⟨m,⟨o,_,_,h,_⟩,_⟩:=R.ns;rw[h]at hn;cases hn
 ·intro x q;obtain⟨w,⟨o,h,_⟩,_⟩:=R.cell x a q;rw[h]at hn;cases hn
theorem Pd(R:Ak W h₀ env names H ρ s)(Y:Ac W env c h₀){m:Str->Option Value}{h':Heap}{a:Addr}{ob:Obj}{o:O}{t:Nat}(F:Fr W.b₀ env.locals s.heap m)(F':Fr W.b₀ env.locals h' m)
 (N':News W.b₀ env.locals h' ((a,ob)::Gc W.b₀ env.locals s.heap)) (hn:s.heap.objs.size<=a) (r:OR W o ob):H a=none/\Ak W h₀ env names (upd H a o) ρ {s with heap:=h',toks:=t}:=by
 refine Aa fun nY=>?_
 obtain⟨q1,q2,q3,q4,q5⟩:=R.new_sep (Qf hn) (Nat.le_trans R.up hn)
 have R':=R.moveL Y t F.ns F'.ns (Tf R Y F' N' fun p hp=> .tail _ hp)
 refine nY ?_;clear nY
 exact⟨q1,R'.add (N' (a,ob) (.head _)).1 r q1 q2 q3 q4 q5⟩
theorem Qh(R:Ak W h₀ env names H ρ s)(Y:Ac W env c h₀){m:Str->Option Value}{h':Heap}{t:Nat}(F:Fr W.b₀ env.locals s.heap m)(F':Fr W.b₀ env.locals h' m)
 (N':News W.b₀ env.locals h' (Gc W.b₀ env.locals s.heap)):Ak W h₀ env names H ρ {s with heap:=h',toks:=t}:=R.moveL Y t F.ns F'.ns (Tf R Y F' N' fun _ hp=>hp)
theorem Cw:B6<=sizeLine:=by decide
theorem Ge{xs:List V}{items:List Value}(h:Dc W xs items)(hz:xs.length<=B6){n:Nat}:OR W (.list xs) {cls:= .type "list",data:= .seq items.toArray n}:= .list h hz
theorem Ak.push(R:Ak W h₀ env names H ρ s){o:O}{ob:Obj}(r:OR W o ob)(hf:ob.isFreed=false)(t:Nat):Ak W h₀ env names (upd H s.heap.objs.size o) ρ {s with heap:=s.heap.push ob,toks:=t}:=
 R.put t (fun _ _ e=>Heap.get?_push_of_some _ e) (Heap.get?_push_size _ hf) r (B0 _) fun _ _=>R.up
theorem Ak.pushHid(R:Ak W h₀ env names H ρ s)(ob:Obj)(t:Nat):Ak W h₀ env names H ρ {s with heap:=s.heap.push ob,toks:=t}:=R.move t fun _ _ e=>Heap.get?_push_of_some _ e
theorem Ak.isList(R:Ak W h₀ env names H ρ s){a:Addr}{xs:List V}(e:H a=some (.list xs)):(Li fun items=>Go (s.heap.IsList a items.toArray) (Dc W xs items) (xs.length<=B6)):=by
 refine Aa fun nY=>?_
 obtain⟨ob,h1,h2⟩:=R.objs a _ e
 cases h2 with
 | list r z=>(refine nY ?_;clear nY;exact⟨_,⟨_,h1,rfl,_,rfl⟩,r,z⟩)
theorem Ak.isTup(R:Ak W h₀ env names H ρ s){a:Addr}{xs:List V}(e:H a=some (.tuple xs)):(Li fun items=>Go (IsTup s.heap a items.toArray) (Dc W xs items) (xs.length<=B6)):=by
 refine Aa fun nY=>?_
 obtain⟨ob,h1,h2⟩:=R.objs a _ e
 cases h2 with
 | tuple r z=>(refine nY ?_;clear nY;exact⟨_,⟨_,h1,rfl,_,rfl⟩,r,z⟩)
theorem Ak.lst(R:Ak W h₀ env names H ρ s){a:Addr}{xs:List V}(e:H a=some (.list xs)):(Gx fun items n=>Go (s.heap.get? a=some {cls:= .type "list",data:= .seq items.toArray n}) (Dc W xs items) (xs.length<=B6)):=by
 refine Aa fun nY=>?_
 obtain⟨ob,h1,h2⟩:=R.objs a _ e
 cases h2 with
 | list r z=>(refine nY ?_;clear nY;exact⟨_,_,h1,r,z⟩)
theorem Ak.changeL(R:Ak W h₀ env names H ρ s){a:Addr}{xs xs':List V}{items:List Value}{n:Nat}(e:H a=some (.list xs))(ho:s.heap.get? a=some {cls:= .type "list",data:= .seq items.toArray n})
 (f:Array Value->Array Value) {items':List Value} (hf:f items.toArray=items'.toArray) (r:Dc W xs' items') (z:xs'.length<=B6) (t:Nat) :
 Ak W h₀ env names (upd H a (.list xs')) ρ {s with heap:=s.heap.update a (Obj.mapSeq f),toks:=t}:=by
 refine R.change t e (Heap.SameBut.update ..) (Heap.get?_update_self _ ho rfl) ?_ (fun _ q=>by cases q)
 simp only[Obj.mapSeq,hf]
 exact .list r z
theorem Ak.isDict(R:Ak W h₀ env names H ρ s){a:Addr}{es:List (Int×V)}(e:H a=some (.dict es)):(Li fun kvs=>Go (s.heap.DictOf (intKind W.prog W.w) a kvs) (Ro W es kvs) (es.length<=B6)):=by
 refine Aa fun nY=>?_
 obtain⟨ob,h1,h2⟩:=R.objs a _ e
 cases h2 with
 | dict r z d=>(refine nY ?_;clear nY;obtain⟨es,ep,h3⟩:=d;exact⟨_,⟨ob,es,ep,h1,h3⟩,r,z⟩)
theorem Vz{xs:List V}{items:List Value}{ns:List Int}(h:Dc W xs items)(e:ints? xs=some ns):IntsAre items ns:=by
 induction h generalizing ns with
 | nil=>cases e;exact .nil
 | cons h _ ih=>
   induction h with
   | int i u=>
     obtain⟨l,h1,h2⟩:=Option.map_eq_some_iff.mp (show (ints? _).map (i :: ·)=some ns from e)
     subst h2
     exact .cons i u (ih h1)
   | _=>cases e
theorem Hl{items:List Value}{ns:List Int}(h:IntsAre items ns):Dc W (ns.map V.int) items:=by
 induction h with
 | nil=>exact .nil
 | cons i u _ ih=>exact .cons (.int i u) ih
theorem ints?_length{xs:List V}{ns:List Int}(e:ints? xs=some ns):ns.length=xs.length:=by
 induction xs generalizing ns with
 | nil=>cases e;rfl
 | cons v r ih=>
   cases v<;>first|(cases e;done)|skip
   obtain⟨l,h1,h2⟩:=Option.map_eq_some_iff.mp (show (ints? r).map _=some ns from e)
   subst h2
   exact congrArg Nat.succ (ih h1)
theorem V0{xs:List V}{items:List Value}{ts:List (List Nat)}(h:Dc W xs items)(e:strs? xs=some ts):∃l:List (Str×Tok),items=strValues l/\l.map (·.1)=ts.map Bi:=by
 induction h generalizing ts with
 | nil=>cases e;exact⟨[],rfl,rfl⟩
 | cons h _ ih=>
   induction h with
   | str x u=>
     obtain⟨l,h1,h2⟩:=Option.map_eq_some_iff.mp (show (strs? _).map (x :: ·)=some ts from e)
     subst h2
     obtain⟨l',e1,e2⟩:=ih h1
     exact⟨(Bi x,u)::l',by rw[e1];rfl,by rw[List.map_cons,e2];rfl⟩
   | _=>cases e
theorem Qi:∀ {l:List (Str×Tok)},Dc W ((l.map (·.1.cps.toList)).map V.str) (strValues l)
 | []=> .nil
 | p::r=> .cons (R7 p.1 p.2) Qi
theorem El(x:Int):∀l:List Int,(Mc x l).Perm (x::l)
 | []=> .refl _
 | y::r=>by
   unfold Mc
   split
   ·exact .refl _
   ·exact((El x r).cons y).trans (.swap x y r)
theorem Ca:∀l:List Int,(Cn l).Perm l
 | []=> .refl _
 | x::r=>(El x (Cn r)).trans ((Ca r).cons x)
theorem Fa(x:Int):∀ {l:List Int},l.Pairwise (· <= ·)->(Mc x l).Pairwise (· <= ·)
 | [],_=>by simp[Mc]
 | y::r,h=>by
   unfold Mc
   obtain⟨h1,h2⟩:=List.pairwise_cons.mp h
   split
   ·rename_i q
    refine List.pairwise_cons.mpr ⟨fun z hz=>?_,h⟩
    rcases List.mem_cons.mp hz with rfl|hz
    ·exact q
    ·exact Int.le_trans q (h1 z hz)
   ·rename_i q
    refine List.pairwise_cons.mpr ⟨fun z hz=>?_,Fa x h2⟩
    rcases List.mem_cons.mp ((El x r).mem_iff.mp hz)with rfl|hz
    ·(first|lia|omega)
    ·exact h1 z hz
theorem Dd:∀l:List Int,(Cn l).Pairwise (· <= ·)
 | []=>by simp[Cn]
 | x::r=>Fa x (Dd r)
theorem Ip{a b:List Int}(p:a.Perm b)(ha:a.Pairwise (· <= ·))(hb:b.Pairwise (· <= ·)):a=b:=
 p.eq_of_pairwise (fun _ _ _ _ h1 h2=>Int.le_antisymm h1 h2) ha hb
end Mine.Internal
namespace Mine.Internal
open PySem PySem.W PyProof.Rows
variable {W:Wd} {A:Around} {h₀:HB} {env:Env} {c:Cx} {names:List Str} {H:AH} {ρ:Ao} {s:Shared} {E:Value->Shared->Prop} {n:Nat} {Q:Ad} {Er:EP}
theorem A7.mk{a:V}{v:Value}(h:VR W a v)(R:Ak W h₀ env names H ρ s)(q:Q a H):A7 W h₀ env names ρ Q v s:=⟨a,H,h,R,q⟩
theorem Sb{x y:Int}(h:y.natAbs<=10 ^ 30):Builtin.divisionGoesByPylong x y=false:=by
 refine PyProof.noPylong_of_log2 (Nat.lt_of_le_of_lt (m:=100) ?_ (by decide))
 by_cases h0:y.natAbs=0
 ·rw[h0];decide
 ·exact Nat.le_of_lt ((Nat.log2_lt h0).mpr (Nat.lt_of_le_of_lt h (by decide)))
theorem V1{k:Int}(h:k.natAbs<2 ^ 64):Builtin.Int.intBits k<=64:=intBits_le_64 (by omega) (by omega)
theorem Qj{α:Type}(n:Nat)(xs:List α):(List.replicate n xs).flatten.length=n*xs.length:=by simp
theorem Yd{l:Addr}{items:List Value}{k:Int}{u:Tok}{Q:Value->Shared->Prop}(h1:s.heap.IsList l items.toArray)(k0:0<=k)(k1:k<=1000)(k2:items.length*k.toNat<=B6)
 (h:Q (.ref s.heap.objs.size) {s with heap:=s.heap.push {cls:= .type "list",data:= .seq (List.replicate k.toNat items).flatten.toArray}}) :
 wpAny W.M A (binaryOp .Mult (.ref l) (.int k u)) Q E s:=by
 refine Aa fun nY=>?_
 obtain⟨⟨cls,d,data,sl⟩,ho,hcl,kk,hd⟩:=id h1
 simp only at hcl hd
 subst hcl hd
 have hz:items.length*k.toNat<=1048576:=k2
 refine nY ?_;clear nY
 have hz':items.toArray.size*k.toNat<=1048576:=by rw[List.size_toArray];exact k2
 refine wpAny_binaryOp_repeat_ref (T:= "list") (U:= "int") (by decide) ⟨_,ho,rfl⟩ (fun s'=>typeIs_int s' k u) noFill_list_mul F.fills_int_mul F.slot_int_rmul repeat_list F.slot_int_index.lookup
  (call_meets F.slot_int_rmul (typeIs_int s k u) F.entry_int_rmul (F.args_int_rmul_2 _ _) (lm_int_rmul_list_any k u l items.toArray kk d sl)
    ⟨ho,rfl,⟨_,ho,rfl⟩,call_meets F.slot_list_mul ⟨_,ho,rfl⟩ F.entry_list_mul (F.args_list_mul_2 _ _)
     (lm_list_mul_any l items.toArray kk d sl k u (by simp[Builtin.List.listFitsIndex];(first|lia|omega)) (by(first|lia|omega)) (by simp[Builtin.List.listTooLong,sizeLine];(first|lia|omega)))
     ⟨ho,?_⟩⟩)
 rw[listMul_foldl_if]
 exact h
theorem Qk(Y:Ac W env c h₀)(R:Ak W h₀ env names H ρ s){op:Operator}{a b:V}{u v:Value}(ha:VR W a u)(hb:VR W b v)(q:Fp op a b H Q) :
 wpAny W.M A (binaryOp op u v) (A7 W h₀ env names ρ Q) E s:=by
 refine Aa fun nY=>?_
 obtain⟨m,F⟩:=R.kitF Y
 have N:News W.b₀ env.locals s.heap _:=Vy
 cases op<;>try exact q.elim
 case Add=>
  replace q:S7 a b H Q:=q
  refine nY ?_;clear nY
  induction ha with
  | int i t=>apply Au hb q;intro j t' q;exact add_int (A7.mk (.int _ _) (R.toks _) q)
  | ref a=>
    apply Eh hb q;intro b q;refine M3 q fun xs e1 q=>?_;refine M3 q fun ys e2 q=>?_
    refine Aa fun nY=>?_
    obtain⟨l1,h1,r1,z1⟩:=R.isList e1
    obtain⟨l2,h2,r2,z2⟩:=R.isList e2
    refine nY ?_;clear nY
    have hz:l1.toArray.size+l2.toArray.size<=sizeLine:=by simp[<-r1.length,<-r2.length];exact Nat.le_trans q.1 Cw
    refine add_arrays (hsz:=hz) F N h1 h2 fun h' F' N'=>?_
    obtain⟨e,R'⟩:=Pd (t:=s.toks) R Y F F' N' (Nat.le_refl _) (Ge (r1.append r2) (by simpa using q.1))
    exact A7.mk (.ref _) R' (q.2 _ e)
  | str x t=>
    apply H7 hb q;intro y t' q
    refine PyProof.Rows.add_str (fun t2 tk=>?_) (Nat.le_trans q.1 Cw)
    have e:Bi x++Bi y=Bi (x++y):=Str.ext' (by rw[Str.cps_append];simp)
    rw[e]
    exact A7.mk (.str _ _) (R.toks _) q.2
  | _=>exact False.elim q
 case Sub=>
  replace q:Vb a b H Q:=q
  refine nY ?_;clear nY
  apply Au ha q;intro i t q;apply Au hb q;intro j t' q
  exact sub_int (A7.mk (.int _ _) (R.toks _) q)
 case Mult=>
  replace q:S8 a b H Q:=q
  refine nY ?_;clear nY
  apply Au hb q;intro k t q
  induction ha with
  | int i t=>exact mul_int (A7.mk (.int _ _) (R.toks _) q.2) (q.1.elim (fun h=>IntMulOk.of_left (V1 h)) fun h=>IntMulOk.of_right (V1 h))
  | ref a=>
    refine M3 q fun xs e1 q=>?_
    refine Aa fun nY=>?_
    obtain⟨l1,h1,r1,z1⟩:=R.isList e1
    obtain⟨⟨k0,k1,k2⟩,q⟩:=q
    refine nY ?_;clear nY
    refine Yd h1 k0 k1 (by rw[<-r1.length];exact k2) ?_
    have R':=R.push (Ge (r1.replicate _) (by rw[Qj,Nat.mul_comm];exact k2) (n:=0)) rfl s.toks
    exact A7.mk (.ref _) R' (q _ R.fresh)
  | _=>exact False.elim q
 case FloorDiv=>
  replace q:Vc a b H Q:=q
  refine nY ?_;clear nY
  apply Au ha q;intro i t q;apply Au hb q;intro j t' q
  exact floordiv_int q.1.1 (A7.mk (.int _ _) (R.toks _) q.2) (.inl (Sb q.1.2))
 case Mod=>
  replace q:Vd a b H Q:=q
  refine nY ?_;clear nY
  apply Au ha q;intro i t q;apply Au hb q;intro j t' q
  exact mod_int' q.1.1 (A7.mk (.int _ _) (R.toks _) q.2)
open PySem.SeqAt in
theorem Lm{a b:V}{u v:Value}{r:Bool}(ha:VR W a u)(hb:VR W b v)(e:T7 a b=some r):EqAt A s u v r/\RcAt A s u v r/\RcNeAt A s u v (!r):=by
 refine Aa fun no=>?_
 induction ha<;>induction hb<;>first|exact @nn _ _ _ e|(obtain rfl:=Option.some.inj e;refine no ?_;clear no)
 ·exact⟨.same _,.none_none,.none_none⟩
 ·exact⟨.none_bool _,.none_bool _,.none_bool _⟩
 ·exact⟨.none_int _ _,.none_int _ _,.none_int _ _⟩
 ·exact⟨.bool_none _,.bool_none _,.bool_none _⟩
 ·exact⟨.bool_bool _ _,.bool_bool _ _,.bool_bool _ _⟩
 ·exact⟨.int_none _ _,.int_none _ _,.int_none _ _⟩
 ·rename_i i t j t'
  have:decide (i=j)=(i==j):=by rw[Bool.eq_iff_iff];simp
  rw[this];exact⟨.int_int _ _ _ _,.int_int _ _ _ _,.int_int _ _ _ _⟩
 ·rename_i x t y t'
  have:decide (x=y)=(Bi x==Bi y):=by rw[Bool.eq_iff_iff,decide_eq_true_eq,beq_iff_eq];exact⟨fun h=>h▸rfl,fun h=>congrArg (fun s:Str=>s.cps.toList) h⟩
  rw[this];exact⟨.str_str _ _ _ _,.str_str _ _ _ _,.str_str _ _ _ _⟩
theorem Ql{a:V}{r:Bool}(e:T7 a a=some r):r=true:=by
 cases a<;>first|exact @nn _ _ _ e|(obtain rfl:=Option.some.inj e)<;>first|rfl|exact decide_eq_true rfl|exact beq_self_eq_true _
theorem Oi{l:List (Option Bool)}{r:Bool}(h:Ic l=some r):∃e:Nat->Bool,(∀j x,l[j]? = some x->x=some (e j))/\(List.range l.length).all e=r:=by
 induction l generalizing r with
 | nil=>simp only[Ic,Option.some.injEq]at h;subst h;exact⟨fun _=>true,by simp,by simp⟩
 | cons x t ih=>
   refine Aa fun nY=>?_
   cases x with
   | none=>simp[Ic]at h
   | some b=>
     simp only[Ic,Option.map_eq_some_iff]at h
     obtain⟨r',h1,h2⟩:=h
     obtain⟨e,h3,h4⟩:=ih h1
     refine nY ?_;clear nY
     refine⟨fun j=>match j with|0=>b|j+1=>e j,fun j y hj=>?_,?_⟩
     ·refine Aa fun nY=>?_
      cases j with
      | zero=>(refine nY ?_;clear nY;simp at hj;exact hj.symm)
      | succ j=>(refine nY ?_;clear nY;simp at hj;exact h3 j y hj)
     ·rw[List.length_cons,List.range_succ_eq_map,List.all_cons,List.all_map]
      subst h2;subst h4;rfl
theorem Ln{f:V->V->Option Bool}(hf:∀a r,f a a=some r->r=true):∀ {xs:List V} {r:Bool},Ic (List.zipWith f xs xs)=some r->r=true
 | [],r,h=>by simp[Ic]at h;exact h
 | x::t,r,h=>by
   simp only[List.zipWith_cons_cons]at h
   cases q:f x x with
   | none=>rw[q]at h;simp[Ic]at h
   | some b=>
     rw[q]at h
     simp only[Ic,Option.map_eq_some_iff]at h
     obtain⟨r',h1,h2⟩:=h
     rw[hf x b q,Ln hf h1]at h2
     exact h2.symm
theorem Qn{P:Prop}(n:Nat)(a b:V)(k1:∀x y,a = .ref x->b = .ref y->P)(k2:∀x,a = .ref x->b = .none->P)(k3:∀x,a = .none->b = .ref x->P)(k4:Mi (n+1) H a b=T7 a b->P):P:=by
 cases a<;>first|exact k4 rfl|(cases b<;>first|exact k4 rfl|exact k1 _ _ rfl rfl|exact k2 _ rfl rfl|exact k3 _ rfl rfl)
theorem V2{P:Prop}{n:Nat}{x y:Addr}{r:Bool}(e:Mi (n+1) H (.ref x) (.ref y)=some r)
 (k1:∀xs ys,H x=some (.list xs)->H y=some (.list ys)->(if xs.length=ys.length then Ic (List.zipWith (Mi n H) xs ys)else some false)=some r->P)
 (k2:∀xs ys,H x=some (.tuple xs)->H y=some (.tuple ys)->(if xs.length=ys.length then Ic (List.zipWith (Mi n H) xs ys)else none)=some r->P):P:=by
 replace e:(match H x,H y with
  | some (.list xs),some (.list ys)=>if xs.length=ys.length then Ic (List.zipWith (Mi n H) xs ys)else some false
  | some (.tuple xs),some (.tuple ys)=>if xs.length=ys.length then Ic (List.zipWith (Mi n H) xs ys)else none
  | _,_=>none)=some r:=e
 generalize H x=ox at *
 generalize H y=oy at *
 cases ox with
 | none=>cases e
 | some o=>
   cases o<;>first|(cases e;done)|skip
   all_goals
    cases oy with
    | none=>cases e
    | some o'=>cases o'<;>first|(cases e;done)|exact k1 _ _ rfl rfl e|exact k2 _ _ rfl rfl e
theorem V3{P:Prop}{n:Nat}{x:Addr}{r:Bool}(e:Mi (n+1) H (.ref x) .none=some r\/Mi (n+1) H .none (.ref x)=some r)(k1:∀xs,r=false->H x=some (.list xs)->P)(k2:∀xs,r=false->H x=some (.tuple xs)->P):P:=by
 replace e:(match H x with|some (.list _)=>some false|some (.tuple _)=>some false|_=>none)=some r:=e.elim (fun e=>e) fun e=>e
 generalize H x=ox at *
 cases ox with
 | none=>cases e
 | some o=>cases o<;>first|(cases e;done)|(cases e;first|exact k1 _ rfl rfl|exact k2 _ rfl rfl)
theorem V4(n:Nat):∀ {a:V} {r:Bool},Mi n H a a=some r->r=true:=by
 induction n with
 | zero=>exact fun e=>Ql e
 | succ n ih=>
   intro a r e
   refine Qn (H:=H) n a a (fun x y q _=>?_) (fun x q q'=>?_) (fun x q q'=>?_) fun q=>?_
   ·subst q
    refine V2 e (fun xs ys h1 h2 e=>?_) fun xs ys h1 h2 e=>?_
    ·rw[h1]at h2;cases h2
     rw[if_pos rfl]at e;exact Ln (fun a r h=>ih h) e
    ·rw[h1]at h2;cases h2
     rw[if_pos rfl]at e;exact Ln (fun a r h=>ih h) e
   ·rw[q]at q';cases q'
   ·rw[q]at q';cases q'
   ·rw[q]at e;exact Ql e
open PySem.SeqAt in
theorem H8{n:Nat}{A:Around}{xs ys:List V}{l1 l2:List Value}{f:Nat->Bool}(ih:∀ {a b:V} {u v:Value} {r:Bool},VR W a u->VR W b v->Mi n H a b=some r->EqAt A s u v r)(r1:Dc W xs l1)(r2:Dc W ys l2)
 (f1:∀j x',(List.zipWith (Mi n H) xs ys)[j]? = some x'->x'=some (f j)) (j:Nat) (j1:j<l1.toArray.size) (j2:j<l2.toArray.size):EqAt A s l1.toArray[j] l2.toArray[j] (f j):=by
 refine Aa fun nY=>?_
 obtain⟨x',x1,x2⟩:=r1.get' j (c:=l1.toArray[j]) (by simp)
 obtain⟨y',y1,y2⟩:=r2.get' j (c:=l2.toArray[j]) (by simp)
 refine nY ?_;clear nY
 exact ih x2 y2 (f1 j (Mi n H x' y') (by rw[List.getElem?_zipWith,x1,y1]))
open PySem.SeqAt in
theorem Oj(R:Ak W h₀ env names H ρ s)(n:Nat):∀(A:Around) {a b:V} {u v:Value} {r:Bool},A.units+n<cLine->VR W a u->VR W b v->Mi n H a b=some r->
 EqAt A s u v r/\RcAt A s u v r/\RcNeAt A s u v (!r):=by
 induction n with
 | zero=>exact fun A a b u v r _ ha hb e=>Lm ha hb e
 | succ n ih=>
   intro A a b u v r hu ha hb e
   have hA:A.units<cLine:=by(first|lia|omega)
   have hA1:A.in1.units+n<cLine:=by show A.units+1+n<cLine;(first|lia|omega)
   have it:=fun {a b:V} {u v:Value} {r:Bool} (ha:VR W a u) (hb:VR W b v) (e:Mi n H a b=some r)=>(ih A.in1 hA1 ha hb e).1
   refine Qn (H:=H) n a b (fun x y p q=>?_) (fun x p q=>?_) (fun x p q=>?_) fun q=>?_
   ·refine Aa fun nY=>?_
    subst p q;cases ha;cases hb
    have fin:∀ {k:Bool},k=r->RcAt A s (.ref x) (.ref y) k->RcNeAt A s (.ref x) (.ref y) (!k)->EqAt A s (.ref x) (.ref y) r/\RcAt A s (.ref x) (.ref y) r/\RcNeAt A s (.ref x) (.ref y) (!r):=by
     rintro k rfl h1 h2
     refine⟨?_,h1,h2⟩
     refine Aa fun nY=>?_
     by_cases q:x=y
     ·refine nY ?_;clear nY
      subst q;rw[V4 _ e];exact .same _
     ·refine nY ?_;clear nY
      exact .of_refs q h1
    refine nY ?_;clear nY
    refine V2 e (fun xs ys e1 e2 e'=>?_) fun xs ys e1 e2 e'=>?_
    ·refine Aa fun nY=>?_
     obtain⟨l1,h1,r1,z1⟩:=R.isList e1
     obtain⟨l2,h2,r2,z2⟩:=R.isList e2
     by_cases hl:xs.length=ys.length
     ·rw[if_pos hl]at e'
      obtain⟨f,f1,f2⟩:=Oi e'
      have hsz:l1.toArray.size=l2.toArray.size:=by rw[List.size_toArray,List.size_toArray,<-r1.length,<-r2.length,hl]
      refine nY ?_;clear nY
      refine fin ?_ (RcAt.lists h1 h2 hsz hA (H8 it r1 r2 f1)) (RcNeAt.lists h1 h2 hsz hA (H8 it r1 r2 f1))
      rw[<-f2];congr 2;simp[<-r1.length,hl]
     ·rw[if_neg hl]at e'
      cases e'
      have hsz:(l1.toArray.size != l2.toArray.size)=true:=by simpa[<-r1.length,<-r2.length]using hl
      refine nY ?_;clear nY
      exact fin rfl (RcAt.lists_lengths h1 h2 hsz hA) (RcNeAt.lists_lengths h1 h2 hsz hA)
    ·refine Aa fun nY=>?_
     obtain⟨l1,h1,r1,z1⟩:=R.isTup e1
     obtain⟨l2,h2,r2,z2⟩:=R.isTup e2
     by_cases hl:xs.length=ys.length
     ·rw[if_pos hl]at e'
      obtain⟨f,f1,f2⟩:=Oi e'
      refine nY ?_;clear nY
      refine fin ?_ (RcAt.tuples h1 h2 hA (H8 it r1 r2 f1)) (RcNeAt.tuples h1 h2 hA (H8 it r1 r2 f1))
      rw[<-f2];simp[<-r1.length,<-r2.length,hl]
     ·rw[if_neg hl]at e';cases e'
   ·refine Aa fun nY=>?_
    subst p q;cases ha;cases hb
    refine nY ?_;clear nY
    refine V3 (.inl e) (fun xs q e1=>?_) fun xs q e1=>?_<;>subst q
    ·refine Aa fun nY=>?_
     obtain⟨l1,h1,r1,z1⟩:=R.isList e1
     refine nY ?_;clear nY
     exact⟨.list_none h1 hA,.list_none h1 hA,.list_none h1 hA⟩
    ·refine Aa fun nY=>?_
     obtain⟨l1,h1,r1,z1⟩:=R.isTup e1
     refine nY ?_;clear nY
     exact⟨.tuple_none h1 hA,.tuple_none h1 hA,.tuple_none h1 hA⟩
   ·refine Aa fun nY=>?_
    subst p q;cases ha;cases hb
    refine nY ?_;clear nY
    refine V3 (.inr e) (fun xs q e1=>?_) fun xs q e1=>?_<;>subst q
    ·refine Aa fun nY=>?_
     obtain⟨l1,h1,r1,z1⟩:=R.isList e1
     refine nY ?_;clear nY
     exact⟨.none_list h1 hA,.none_list h1 hA,.none_list h1 hA⟩
    ·refine Aa fun nY=>?_
     obtain⟨l1,h1,r1,z1⟩:=R.isTup e1
     refine nY ?_;clear nY
     exact⟨.none_tuple h1 hA,.none_tuple h1 hA,.none_tuple h1 hA⟩
   ·rw[q]at e;exact Lm ha hb e
theorem Uc{l:List (Option Bool)}{r:Bool}(h:Rs l=some r):(∀x∈l,∃b,x=some b)/\r=l.any (· == some true):=by
 induction l generalizing r with
 | nil=>simp only[Rs,Option.some.injEq]at h;subst h;simp
 | cons x t ih=>
   cases x with
   | none=>simp[Rs]at h
   | some b=>
     simp only[Rs,Option.map_eq_some_iff]at h
     obtain⟨r',h1,h2⟩:=h
     obtain⟨h3,h4⟩:=ih h1
     refine⟨fun x hx=>?_,?_⟩
     ·rcases List.mem_cons.mp hx with rfl|hx
      ·exact⟨b,rfl⟩
      ·exact h3 x hx
     ·subst h2;subst h4;cases b<;>simp
noncomputable def Qo(W:Wd)(v:V)(c:Value):Bool:=by classical exact if ∃x,VR W x c/\T7 x v=some true then true else false
theorem Z7{x y:V}{c:Value}(h1:VR W x c)(h2:VR W y c)(hx:T7 x v=some r)(hy:T7 y v=some r'):r=r':=by
 induction h1<;>first|exact @nn _ _ _ hx|(cases h2;exact Option.some.inj (hx.symm.trans hy))
theorem Tg{x v:V}{c:Value}{r:Bool}(h:VR W x c)(e:T7 x v=some r):Qo W v c=r:=by
 unfold Qo
 cases r with
 | true=>rw[if_pos ⟨x,h,e⟩]
 | false=>
   rw[if_neg]
   rintro⟨y,h1,h2⟩
   have:=Z7 h h1 e h2
   cases this
open PySem.SeqAt in
theorem Gf{v:V}{u:Value}{xs:List V}{items:List Value}{r:Bool}(hu:VR W v u)(hr:Dc W xs items)(e:Va v xs=some r) :
 (∀y,y∈items.toArray->EqAt A s y u (Qo W v y))/\items.toArray.any (Qo W v)=r:=by
 obtain⟨h1,h2⟩:=Uc e
 constructor
 ·intro y hy
  refine Aa fun nY=>?_
  obtain⟨j,hj⟩:=List.mem_iff_getElem?.mp (by simpa using hy)
  obtain⟨x,x1,x2⟩:=hr.get' j hj
  obtain⟨b,hb⟩:=h1 (T7 x v) (List.mem_map_of_mem (List.mem_iff_getElem?.mpr ⟨j,x1⟩))
  refine nY ?_;clear nY
  rw[Tg x2 hb]
  exact(Lm x2 hu hb).1
 ·rw[h2]
  clear h2 e
  induction hr with
  | nil=>simp
  | cons h t ih=>
    simp only[List.map_cons,List.mem_cons,forall_eq_or_imp]at h1
    refine Aa fun nY=>?_
    obtain⟨⟨b,hb⟩,h1⟩:=h1
    have:=ih h1
    refine nY ?_;clear nY
    simp only[List.any_toArray,List.map_cons,List.any_cons]at this ⊢
    rw[this,Tg h hb,hb]
    cases b<;>simp
theorem Ak.dget(hk:Ro W es kvs)(k:Int):(dget es k).isSome=(kvs.lookup k).isSome/\∀v,dget es k=some v->∃c,kvs.lookup k=some c/\VR W v c:=by
 induction hk with
 | nil=>simp[Mine.Internal.dget]
 | @cons k' v' c' es kvs h t ih=>
   unfold Mine.Internal.dget at ih ⊢
   simp only[List.lookup_cons]
   cases k==k' with
   | true=>simp;exact h
   | false=>simpa using ih
theorem Ak.noSys(R:Ak W h₀ env names H ρ s)(Y:Ac W env c h₀){a:Addr}{es:List (Int×V)}(e:H a=some (.dict es)):(a==sysModules)=false:=by
 have h1:=R.low a es e
 have h2:=Y.lo
 have h3:a≠sysModules:=Nat.ne_of_gt (Nat.lt_of_lt_of_le h2 h1)
 simpa using h3
theorem I3(kvs:List (Int×Value))(k:Int):valueAt kvs k=kvs.lookup k:=by
 unfold valueAt
 induction kvs with
 | nil=>rfl
 | cons p t ih=>
   obtain⟨a,b⟩:=p
   rw[List.find?_cons,List.lookup_cons]
   by_cases q:a=k
   ·subst q;simp
   ·have:(k==a)=false:=by simpa using fun h:k=a=>q h.symm
    simpa[q,this]using ih
open PySem.SeqAt in
open PySem.SeqAt in
theorem Ok{a b:V}{u v:Value}{r:Bool}(ha:VR W a u)(hb:VR W b v)(e:isB a b=some r) :
 (∀Q E,Q (.bool r) s->wpAny W.M A (compareOp .Is u v) Q E s)/\(∀Q E,Q (.bool (!r)) s->wpAny W.M A (compareOp .IsNot u v) Q E s):=by
 refine Aa fun no=>?_
 induction ha<;>induction hb<;>first|exact @nn _ _ _ e|(obtain rfl:=Option.some.inj e;refine no ?_;clear no)
 ·exact⟨fun _ _ q=>is_none_none q,fun _ _ q=>isnot_none_none q⟩
 ·exact⟨fun _ _ q=>is_none_ne nofun q,fun _ _ q=>isnot_none_ne nofun q⟩
 ·exact⟨fun _ _ q=>is_bool q,fun _ _ q=>isnot_bool q⟩
 ·exact⟨fun _ _ q=>is_none_ne nofun q,fun _ _ q=>isnot_none_ne nofun q⟩
 ·exact⟨fun _ _ q=>is_none_ne nofun q,fun _ _ q=>isnot_none_ne nofun q⟩
 ·exact⟨fun _ _ q=>is_none_ne nofun q,fun _ _ q=>isnot_none_ne nofun q⟩
open PySem.SeqAt in
theorem C3(ok:Ky A c h₀ env n)(Y:Ac W env c h₀)(R:Ak W h₀ env names H ρ s){op:CmpOp}{a b:V}{u v:Value}(ha:VR W a u)(hb:VR W b v)(q:Bz op a b H Q) :
 wpAny W.M A (compareOp op u v) (A7 W h₀ env names ρ Q) E s:=by
 have hu:=ok.units
 cases op
 case Eq=>
  refine B5 q fun r e q=>?_
  exact(Oj R E1 A (by unfold E1;(first|lia|omega)) ha hb e).2.1 _ _ _ _ (A7.mk (.bool _) R q)
 case NotEq=>
  refine B5 q fun r e q=>?_
  exact(Oj R E1 A (by unfold E1;(first|lia|omega)) ha hb e).2.2 _ _ _ _ (A7.mk (.bool _) R q)
 case Lt=>
  replace q:Abj a b H Q:=q
  apply Au ha q;intro i t q;apply Au hb q;intro j t' q
  exact lt_int (A7.mk (.bool _) R q)
 case LtE=>
  replace q:Abk a b H Q:=q
  apply Au ha q;intro i t q;apply Au hb q;intro j t' q
  exact le_int (A7.mk (.bool _) R q)
 case Gt=>
  replace q:Abl a b H Q:=q
  apply Au ha q;intro i t q;apply Au hb q;intro j t' q
  exact gt_int (A7.mk (.bool _) R q)
 case GtE=>
  replace q:Abm a b H Q:=q
  apply Au ha q;intro i t q;apply Au hb q;intro j t' q
  exact ge_int (A7.mk (.bool _) R q)
 case Is=>
  replace q:Abn a b H Q:=q
  refine B5 q fun r e q=>?_
  exact(Ok ha hb e).1 _ _ (A7.mk (.bool _) R q)
 case IsNot=>
  replace q:Zg a b H Q:=q
  refine B5 q fun r e q=>?_
  exact(Ok ha hb e).2 _ _ (A7.mk (.bool _) R q)
 case In=>
  replace q:Qa a b H Q:=q
  induction hb with
  | str y t'=>
    apply H7 ha q;intro x t q;apply R9 q;intro k q
    refine P.in_str ?_
    rw[StrLaws.found_one]
    exact A7.mk (.bool _) R q
  | ref x=>
    dsimp only[Qa]at q
    refine Aa fun nY=>?_
    split at q
    ·rename_i xs e1
     refine nY ?_;clear nY
     refine B5 q fun r e q=>?_
     refine Aa fun nY=>?_
     obtain⟨l1,h1,r1,z1⟩:=R.isList e1
     obtain⟨m1,m2⟩:=Gf (A:=A.in1) (s:=s) ha r1 e
     refine nY ?_;clear nY
     exact in_listAt (Qo W a) h1 m1 (by rw[m2];exact A7.mk (.bool _) R q)
    ·rename_i xs e1
     refine nY ?_;clear nY
     refine B5 q fun r e q=>?_
     refine Aa fun nY=>?_
     obtain⟨l1,h1,r1,z1⟩:=R.isTup e1
     obtain⟨m1,m2⟩:=Gf (A:=A.in1) (s:=s) ha r1 e
     refine nY ?_;clear nY
     exact in_tupleAt (Qo W a) h1 m1 (by rw[m2];exact A7.mk (.bool _) R q)
    ·rename_i es e1
     refine nY ?_;clear nY
     apply Au ha q
     intro k t q
     refine Aa fun nY=>?_
     obtain⟨kvs,h1,r1,z1⟩:=R.isDict e1
     refine nY ?_;clear nY
     refine wpAny_in_of (intKind_is _ _ _ _) (R.noSys Y e1) h1.mapOf ?_
     rw[I3,<-(Ak.dget r1 _).1]
     exact A7.mk (.bool _) (R.toks _) q
    ·exact q.elim
  | _=>exact False.elim q
 case NotIn=>
  replace q:Qa a b H (fun v H=>match v with | .bool r=>Q (.bool (!r)) H|_=>False):=q
  induction hb with
  | str y t'=>
    apply H7 ha q;intro x t q;apply R9 q;intro k q
    refine P.notIn_str ?_
    rw[StrLaws.found_one]
    exact A7.mk (.bool _) R q
  | ref x=>
    dsimp only[Qa]at q
    refine Aa fun nY=>?_
    split at q
    ·rename_i xs e1
     refine nY ?_;clear nY
     refine B5 q fun r e q=>?_
     refine Aa fun nY=>?_
     obtain⟨l1,h1,r1,z1⟩:=R.isList e1
     obtain⟨m1,m2⟩:=Gf (A:=A.in1) (s:=s) ha r1 e
     refine nY ?_;clear nY
     exact notIn_listAt (Qo W a) h1 m1 (by rw[m2];exact A7.mk (.bool _) R q)
    ·rename_i xs e1
     refine nY ?_;clear nY
     refine B5 q fun r e q=>?_
     refine Aa fun nY=>?_
     obtain⟨l1,h1,r1,z1⟩:=R.isTup e1
     obtain⟨m1,m2⟩:=Gf (A:=A.in1) (s:=s) ha r1 e
     refine nY ?_;clear nY
     exact notIn_tupleAt (Qo W a) h1 m1 (by rw[m2];exact A7.mk (.bool _) R q)
    ·rename_i es e1
     refine nY ?_;clear nY
     apply Au ha q
     intro k t q
     refine Aa fun nY=>?_
     obtain⟨kvs,h1,r1,z1⟩:=R.isDict e1
     refine nY ?_;clear nY
     refine wpAny_notIn_of (intKind_is _ _ _ _) (R.noSys Y e1) h1.mapOf ?_
     rw[I3,<-(Ak.dget r1 _).1]
     exact A7.mk (.bool _) (R.toks _) q
    ·exact q.elim
  | _=>exact False.elim q
end Mine.Internal
namespace Mine.Internal
open PySem PySem.W PyProof.Rows
variable {W:Wd} {A:Around} {h₀:HB} {env:Env} {c:Cx} {names:List Str} {H:AH} {ρ:Ao} {s:Shared} {E:Value->Shared->Prop} {n:Nat} {Q:Ad} {Er:EP}
theorem Hm{k:Int}{n j:Nat}(h:Ci k n=some j):seqIndex? k n=some j/\j<n:=by
 delta Ci at h
 refine Aa fun nY=>?_
 split at h
 ·rename_i h0
  split at h
  ·refine nY ?_;clear nY
   rename_i h1;cases h;exact⟨seqIndex_of h0 h1,by(first|lia|omega)⟩
  ·cases h
 ·rename_i h0
  split at h
  ·refine nY ?_;clear nY
   rename_i h1;cases h;exact⟨seqIndex_neg (by(first|lia|omega)) (by(first|lia|omega)),by(first|lia|omega)⟩
  ·cases h
theorem Lo{k:Int}{n j:Nat}(h:Ci k n=some j): -(n:Int)<=k/\k<n:=by
 delta Ci at h
 refine Aa fun nY=>?_
 split at h
 ·rename_i h0
  split at h
  ·refine nY ?_;clear nY
   rename_i h1;exact⟨by omega,h1⟩
  ·cases h
 ·rename_i h0
  split at h
  ·refine nY ?_;clear nY
   rename_i h1;exact⟨by omega,by omega⟩
  ·cases h
theorem Ol:(B6:Int)<2 ^ 63:=by decide
theorem Qp{a:Addr}{l1:List Value}{k:Int}{t:Nat}{n j:Nat}{cv:Value}{Qm:Value->Shared->Prop}(h1:s.heap.IsList a l1.toArray)(hn:n=l1.length)(z:n<=B6)(e:Ci k n=some j)(x:l1[j]? = some cv)(q:Qm cv s) :
 wpAny W.M A (getItem (.ref a) (.int k t)) Qm E s:=by
 have b63:=Ol
 refine Aa fun nY=>?_
 subst hn
 delta Ci at e
 split at e
 ·rename_i h0
  split at e
  ·rename_i h2;cases e
   refine nY ?_;clear nY
   exact wpAny_getItem_list h1 h0 (by omega) (by simpa using x) q
  ·cases e
 ·rename_i h0
  split at e
  ·rename_i h2;cases e
   refine nY ?_;clear nY
   exact wpAny_getItem_list_neg h1 (by omega) (by rw[List.size_toArray];omega) (by omega) (by simpa using x) q
  ·cases e
theorem Qq(Y:Ac W env c h₀)(R:Ak W h₀ env names H ρ s){a b:V}{u v:Value}(ha:VR W a u)(hb:VR W b v)(q:Cj a b H Q) :
 wpAny W.M A (getItem u v) (A7 W h₀ env names ρ Q) E s:=by
 apply Au hb q
 intro k t q
 induction ha with
 | ref a=>
   dsimp only at q
   refine Aa fun nY=>?_
   split at q
   ·rename_i xs e1
    obtain⟨l1,h1,r1,z1⟩:=R.isList e1
    refine nY ?_;clear nY
    refine B5 q fun j e2 q=>?_
    refine B5 q fun v' e3 q=>?_
    refine Aa fun nY=>?_
    obtain⟨cv,x1,x2⟩:=r1.get j e3
    refine nY ?_;clear nY
    exact Qp h1 r1.length z1 e2 x1 (A7.mk x2 R q)
   ·rename_i xs e1
    obtain⟨l1,h1,r1,z1⟩:=R.isTup e1
    refine nY ?_;clear nY
    refine B5 q fun j e2 q=>?_
    refine B5 q fun v' e3 q=>?_
    refine Aa fun nY=>?_
    obtain⟨cv,x1,x2⟩:=r1.get j e3
    have b63:=Ol
    obtain⟨i1,i2⟩:=Hm e2
    refine nY ?_;clear nY
    refine getItem_tuple h1 ?_ ?_ (by simpa[<-r1.length]using i1) (by simpa using x1) (A7.mk x2 R q)
    ·have:=Lo e2;(first|lia|omega)
    ·have:=Lo e2;(first|lia|omega)
   ·rename_i es e1
    obtain⟨kvs,h1,r1,z1⟩:=R.isDict e1
    refine nY ?_;clear nY
    refine B5 q fun v' e2 q=>?_
    refine Aa fun nY=>?_
    obtain⟨cv,x1,x2⟩:=(Ak.dget r1 _).2 _ e2
    refine nY ?_;clear nY
    exact wpAny_getItem_of (intKind_is _ _ _ _) h1.mapOf (by rw[I3];exact x1) (A7.mk x2 (R.toks _) q)
   ·exact q.elim
 | script=>
   refine Aa fun nY=>?_
   obtain⟨l1,h1,r1,z1⟩:=R.script Y
   have r2:Dc W (W.sn.map V.int) l1:=Hl r1
   refine nY ?_;clear nY
   have hl:W.sn.length=l1.length:=by have:=r2.length;simpa using this
   dsimp only at q
   refine B5 q fun j e2 q=>?_
   refine B5 q fun v' e3 q=>?_
   refine Aa fun nY=>?_
   obtain⟨cv,x1,x2⟩:=r2.get j (by rw[List.getElem?_map,e3];rfl)
   refine nY ?_;clear nY
   exact Qp h1 hl (by rw[hl];exact z1) e2 x1 (A7.mk x2 R q)
 | str x t'=>
   dsimp only at q
   obtain⟨hz,q⟩:=q
   refine B5 q fun j e2 q=>?_
   refine B5 q fun ch e3 q=>?_
   have b63:=Ol
   obtain⟨i1,i2⟩:=Hm e2
   have i3:=Lo e2
   refine P.getItem_str (c:=ch) (by simp only[Bool.or_eq_false_iff,decide_eq_false_iff_not];(first|lia|omega)) ?_ (A7.mk (.str [ch] _) (R.toks _) q)
   show (seqIndex? k x.length).bind _=_
   rw[i1]
   show (x.toArray)[j]? = _
   rw[List.getElem?_toArray];exact e3
 | _=>exact False.elim q
theorem Ud(items:List Value)(lo hi:Option Int):(slicePick items.toArray lo hi none).toList =
 ((items.take (match hi with|some k=>Cs k items.length|none=>items.length)).drop (match lo with|some k=>Cs k items.length|none=>0)):=by
 have key:∀(a b:Nat),a<=items.length->b<=items.length->sliceBounds lo hi none items.length=((a:Int),(b:Int),1)->(slicePick items.toArray lo hi none).toList=(items.take b).drop a:=by
  intro a b ha hb e
  unfold slicePick
  rw[List.size_toArray,e]
  simp only
  rw[sliceRange_one,pick_run]
  simp only[List.drop_take]
 have cl:∀k:Int,(max 0 (min (if k<0 then k+(items.length:Int)else k) items.length))=((Cs k items.length:Nat):Int)/\Cs k items.length<=items.length:=by
  intro k
  delta Cs
  split<;>constructor<;>(first|lia|omega)
 cases lo with
 | none=>cases hi with
   | none=>exact key 0 items.length (by(first|lia|omega)) (by(first|lia|omega)) rfl
   | some u=>exact key 0 (Cs u items.length) (by(first|lia|omega)) (cl u).2 (by unfold sliceBounds;simp only[Option.getD_none];simp[(cl u).1])
 | some l=>cases hi with
   | none=>exact key (Cs l items.length) items.length (cl l).2 (by(first|lia|omega)) (by unfold sliceBounds;simp only[Option.getD_none];simp[(cl l).1])
   | some u=>exact key (Cs l items.length) (Cs u items.length) (cl l).2 (cl u).2 (by unfold sliceBounds;simp only[Option.getD_none];simp[(cl l).1,(cl u).1])
theorem Gg{v:V}{u:Value}{k:Option Int}(h:VR W v u)(e:bound? v=some k):IsPart u k:=by
 induction h<;>first|(cases e;first|exact .none|exact .int _ _)|(cases e;done)
theorem Ye{α:Type}(xs:List α)(l u:Option Int):(cut xs l u).length<=xs.length:=by
 delta cut
 simp only[List.length_drop,List.length_take]
 omega
theorem Sc(Y:Ac W env c h₀)(R:Ak W h₀ env names H ρ s){l u st:V}{vl vu vs:Value}{sl a':Addr}{xs:List V}{l1:List Value}{l' u':Option Int}(hl:VR W l vl)(hu:VR W u vu)(hs:VR W st vs)(hsl:s.heap.IsSliceOf sl vl vu vs)(e1:bound? l=some l')(e2:bound? u=some u')(e3:H a'=some (.list xs))(h1:s.heap.IsList a' l1.toArray)(r1:Dc W xs l1)(z1:xs.length<=B6)
 (qq:Vf xs l' u' st H Q):wpAny W.M A (getItem (.ref a') (.ref sl)) (A7 W h₀ env names ρ Q) E s:=by
 induction hs with
 | none=>
   refine wpAny_getItem_list_slice h1 hsl (Gg hl e1) (Gg hu e2) .none (by simp) ?_ (by simp[<-r1.length];exact Nat.le_trans z1 Cw)
   have e:slicePick l1.toArray l' u' none=(slicePick l1.toArray l' u' none).toList.toArray:=by simp
   rw[e,Ud]
   have R':=R.push (o:= .list (cut xs l' u')) (Ge (n:=0) (by
    delta cut
    rw[r1.length]
    exact(r1.take _).drop _) (Nat.le_trans (Ye _ _ _) z1)) rfl s.toks
   exact A7.mk (.ref _) R' (qq _ R.fresh)
 | _=>exact False.elim qq
theorem Nz(Y:Ac W env c h₀)(R:Ak W h₀ env names H ρ s){a l u st:V}{va vl vu vs:Value}{sl:Addr}(ha:VR W a va)(hl:VR W l vl)(hu:VR W u vu)(hs:VR W st vs)(hsl:s.heap.IsSliceOf sl vl vu vs)(q:F6 a l u st H Q) :
 wpAny W.M A (getItem va (.ref sl)) (A7 W h₀ env names ρ Q) E s:=by
 have hL:∀a':Addr,O5 a' l u st H Q->wpAny W.M A (getItem (.ref a') (.ref sl)) (A7 W h₀ env names ρ Q) E s:=fun a' q=>by
  refine B5 q fun l' e1 q=>?_
  refine B5 q fun u' e2 q=>?_
  refine M3 q fun xs e3 qq=>?_
  clear q
  obtain⟨l1,h1,r1,z1⟩:=R.isList e3
  exact Sc Y R hl hu hs hsl e1 e2 e3 h1 r1 z1 qq
 induction ha with
 | ref a'=>exact hL a' q
 | str x t'=>
   replace q:Ve x l u st H Q:=q
   refine B5 q fun l' e1 q=>?_
   refine B5 q fun u' e2 q=>?_
   obtain⟨⟨hst,hz⟩,q3⟩:=q
   subst hst
   cases hs
   have p1:=Gg hl e1
   have p2:=Gg hu e2
   have fin:(if ((1:Int)==1&&(Builtin.Str.strSliceIndices l' u' 1 (Bi x).length).length==(Bi x).length)=true then PySem.Made.val (.str (Bi x) t')else PySem.Made.str ⟨((Builtin.Str.strSliceIndices l' u' 1 (Bi x).length).filterMap ((Bi x).cps[·]?)).toArray⟩).post (A7 W h₀ env names ρ Q) s:=
    post_val_or_str ⟨Nat.le_trans (Txt.slice_le (Bi x) l' u') (Nat.le_trans hz Cw),fun t2 k=>(by
     show A7 W h₀ env names ρ Q (.str (Txt.slice (Bi x) l' u') t2) {s with toks:=k}
     rw[Vw]
     exact A7.mk (.str _ _) (R.toks _) q3)⟩
   cases p1<;>cases p2
   ·exact wpAny_getItem_str_slice (l:=none) (u:=none) (st:=none) hsl rfl fin
   ·exact wpAny_getItem_str_slice (l:=none) (u:=some (_,_)) (st:=none) hsl rfl fin
   ·exact wpAny_getItem_str_slice (l:=some (_,_)) (u:=none) (st:=none) hsl rfl fin
   ·exact wpAny_getItem_str_slice (l:=some (_,_)) (u:=some (_,_)) (st:=none) hsl rfl fin
 | _=>exact False.elim q
theorem Ro.put{es:List (Int×V)}{kvs:List (Int×Value)}(h:Ro W es kvs){k:Int}{v:V}{u:Value}(hv:VR W v u)(hn:(kvs.map (·.1)).Nodup):Ro W (Fo es k v) (stored kvs k u):=by
 have none_eq:∀l:List (Int×Value),l.any (fun kv=>kv.1=k)=false->l.map (fun kv=>if kv.1=k then(kv.1,u)else kv)=l:=by
  intro l hl
  induction l with
  | nil=>rfl
  | cons p t ih=>
    simp only[List.any_cons,Bool.or_eq_false_iff,decide_eq_false_iff_not]at hl
    simp only[List.map_cons,if_neg hl.1,ih hl.2]
 induction h with
 | nil=>exact .cons hv .nil
 | @cons k' v' c' es kvs h t ih=>
   simp only[List.map_cons,List.nodup_cons]at hn
   unfold Fo
   by_cases q:k=k'
   ·subst q
    rw[if_pos rfl]
    unfold stored
    rw[if_pos (by simp)]
    simp only[List.map_cons,if_true]
    rw[none_eq kvs (by
     rw[List.any_eq_false]
     intro p hp he
     exact hn.1 (List.mem_map.mpr ⟨p,hp,by simpa using he⟩))]
    exact .cons hv t
   ·rw[if_neg q]
    have:=ih hn.2
    unfold stored at this ⊢
    have q':¬k'=k:=fun e=>q e.symm
    simp only[List.any_cons,q',decide_false,Bool.false_or,List.map_cons,if_false]
    split
    ·rename_i hh;rw[if_pos hh]at this;exact .cons h this
    ·rename_i hh;rw[if_neg hh]at this;exact .cons h this
theorem Ro.length{es:List (Int×V)}{kvs:List (Int×Value)}(h:Ro W es kvs):es.length=kvs.length:=by
 induction h with
 | nil=>rfl
 | cons _ _ ih=>simp[ih]
theorem Qr(es:List (Int×V))(k:Int)(v:V):(Fo es k v).length<=es.length+1:=by
 induction es with
 | nil=>simp[Fo]
 | cons p t ih=>
   obtain⟨a,b⟩:=p
   unfold Fo
   split
   ·simp
   ·simp only[List.length_cons];(first|lia|omega)
theorem Qs{h:Heap}{a:Addr}{kvs:List (Int×Value)}(x:h.DictOf (intKind W.prog W.w) a kvs):∃ob,h.get? a=some ob/\ob.IsDictOf (intKind W.prog W.w) kvs:=
 let ⟨o,es,ep,h1,h2⟩:=x;⟨o,h1,es,ep,h2⟩
theorem Pe{h:Heap}{a:Addr}{kvs:List (Int×Value)}(x:h.DictOf (intKind W.prog W.w) a kvs):(kvs.map (·.1)).Nodup:=by
 obtain⟨_,_,_,_,_,_,_,_,h⟩:=x
 exact h
noncomputable def Abt(W:Wd)(h₀:HB)(env:Env)(names:List Str)(ρ:Ao)(N:AH->Prop)(s':Shared):Prop:=∃H',Ak W h₀ env names H' ρ s'/\N H'
theorem N0(Y:Ac W env c h₀)(R:Ak W h₀ env names H ρ s){o i v:V}{uo ui uv:Value}(ho:VR W o uo)(hi:VR W i ui)(hv:VR W v uv){N:AH->Prop}(q:setItem o i v H N) :
 wpAny W.M A (PySem.setItem uo ui uv) (fun _ s'=>Abt W h₀ env names ρ N s') E s:=by
 delta Mine.Internal.setItem at q
 apply Eh ho q
 intro a q
 apply Au hi q
 intro k t q
 split at q
 ·rename_i xs e1
  obtain⟨l1,nn,h1,r1,z1⟩:=R.lst e1
  refine B5 q fun j e2 q=>?_
  have b63:=Ol
  replace e2:Ci k xs.length=some j:=e2
  delta Ci at e2
  split at e2
  ·rename_i h0
   split at e2
   ·rename_i h2;cases e2
    refine ki_setAt (n:=nn) h1 h0 (by(first|lia|omega)) (by simp[<-r1.length];exact h2) ?_
    exact⟨_,R.changeL e1 h1 (·.setIfInBounds _ uv) (by simp) (r1.set _ hv) (by simpa using z1) s.toks,q⟩
   ·cases e2
  ·rename_i h0
   split at e2
   ·rename_i h2;cases e2
    have hs:l1.toArray.size=xs.length:=by simp[r1.length]
    refine ki_setBack (n:=nn) h1 (by(first|lia|omega)) (by rw[hs];(first|lia|omega)) (by(first|lia|omega)) ?_
    exact⟨_,R.changeL e1 h1 (·.setIfInBounds _ uv) (by simp[r1.length]) (r1.set _ hv) (by simpa using z1) s.toks,q⟩
   ·cases e2
 ·rename_i es e1
  obtain⟨kvs,h1,r1,z1⟩:=R.isDict e1
  refine wpAny_setItem_pairs (intKind_is _ _ _ _) h1 (fun h' h2 h3=>?_) (by rw[<-r1.length];exact Nat.le_trans z1 Cw)
  obtain⟨ob,h4,h5⟩:=Qs h2
  exact⟨_,R.change _ e1 h3 h4 (.dict (r1.put hv (Pe h1)) (Nat.le_trans (Qr _ _ _) q.1) h5) fun _ _=>⟨_,rfl⟩,q.2⟩
 ·exact q.elim
end Mine.Internal
namespace Mine.Internal
open PySem PySem.W PyProof.Rows
variable {W:Wd} {A:Around} {h₀:HB} {env:Env} {c:Cx} {names:List Str} {H:AH} {ρ:Ao} {s:Shared} {E:Value->Shared->Prop} {n:Nat} {Q:Ad} {Er:EP}
noncomputable def V5(_:Wd):Ty->Value
 | .int=> .type "int" | .bool=> .type "bool" | .list=> .type "list" | .tuple=> .type "tuple" | .str=> .type "str"
theorem Pf(R:Ak W h₀ env names H ρ s){t:Ty}{v:V}{u:Value}(hp:E2 t=true)(hv:VR W v u){r:Bool}(e:Iw t v H=some r)(q:Q (.bool r) H) :
 wpAny W.M A (call (.builtin "isinstance") [u,V5 W t]) (A7 W h₀ env names ρ Q) E s:=by
 induction hv with
 | none=>cases t<;>first|(cases hp;done)|(obtain rfl:=Option.some.inj e)
         ·exact IsiPair.NoneType_int (A7.mk (.bool _) (R.toks _) q)
         ·exact IsiPair.NoneType_bool (A7.mk (.bool _) (R.toks _) q)
         ·exact IsiPair.NoneType_list (A7.mk (.bool _) (R.toks _) q)
         ·exact IsiPair.NoneType_tuple (A7.mk (.bool _) (R.toks _) q)
         ·exact IsiPair.NoneType_str (A7.mk (.bool _) (R.toks _) q)
 | bool b=>cases t<;>first|(cases hp;done)|(obtain rfl:=Option.some.inj e)
           ·exact IsiPair.bool_int (A7.mk (.bool _) R q)
           ·exact IsiPair.bool_bool (A7.mk (.bool _) R q)
           ·exact IsiPair.bool_list (A7.mk (.bool _) (R.toks _) q)
           ·exact IsiPair.bool_tuple (A7.mk (.bool _) (R.toks _) q)
           ·exact IsiPair.bool_str (A7.mk (.bool _) (R.toks _) q)
 | int i t'=>cases t<;>first|(cases hp;done)|(obtain rfl:=Option.some.inj e)
             ·exact IsiPair.int_int (A7.mk (.bool _) R q)
             ·exact IsiPair.int_bool (A7.mk (.bool _) (R.toks _) q)
             ·exact IsiPair.int_list (A7.mk (.bool _) (R.toks _) q)
             ·exact IsiPair.int_tuple (A7.mk (.bool _) (R.toks _) q)
             ·exact IsiPair.int_str (A7.mk (.bool _) (R.toks _) q)
 | str x t'=>cases t<;>first|(cases hp;done)|(obtain rfl:=Option.some.inj e)
             ·exact IsiPair.str_int (A7.mk (.bool _) (R.toks _) q)
             ·exact IsiPair.str_bool (A7.mk (.bool _) (R.toks _) q)
             ·exact IsiPair.str_list (A7.mk (.bool _) (R.toks _) q)
             ·exact IsiPair.str_tuple (A7.mk (.bool _) (R.toks _) q)
             ·exact IsiPair.str_str (A7.mk (.bool _) R q)
 | script=>exact @nn _ _ _ e
 | fn _=>exact @nn _ _ _ e
 | ref a=>
   cases ha:H a with
   | none=>rw[show Iw t (.ref a) H=none from(by show (match H a with|some o=>Hz o t|none=>none)=_;rw[ha])]at e;cases e
   | some o=>
     replace e:Hz o t=some r:=by rw[<-e];show _=(match H a with|some o=>Hz o t|none=>none);rw[ha]
     cases o with
     | list xs=>
       obtain⟨l1,h1,r1,z1⟩:=R.isList ha
       cases t<;>first|(cases hp;done)|(obtain rfl:=Option.some.inj e)
       ·exact IsiPair.isList_int h1 (fun _ _ e=>e) (A7.mk (.bool _) (R.toks _) q)
       ·exact IsiPair.isList_bool h1 (fun _ _ e=>e) (A7.mk (.bool _) (R.toks _) q)
       ·exact IsiPair.isList_list h1 (fun _ _ e=>e) (A7.mk (.bool _) R q)
       ·exact IsiPair.isList_tuple h1 (fun _ _ e=>e) (A7.mk (.bool _) (R.toks _) q)
       ·exact IsiPair.isList_str h1 (fun _ _ e=>e) (A7.mk (.bool _) (R.toks _) q)
     | tuple xs=>
       obtain⟨l1,h1,r1,z1⟩:=R.isTup ha
       cases t<;>first|(cases hp;done)|(obtain rfl:=Option.some.inj e)
       ·exact IsiPair.isTuple_int h1 (fun _ _ e=>e) (A7.mk (.bool _) (R.toks _) q)
       ·exact IsiPair.isTuple_bool h1 (fun _ _ e=>e) (A7.mk (.bool _) (R.toks _) q)
       ·exact IsiPair.isTuple_list h1 (fun _ _ e=>e) (A7.mk (.bool _) (R.toks _) q)
       ·exact IsiPair.isTuple_tuple h1 (fun _ _ e=>e) (A7.mk (.bool _) R q)
       ·exact IsiPair.isTuple_str h1 (fun _ _ e=>e) (A7.mk (.bool _) (R.toks _) q)
     | _=>cases t<;>first|(cases hp;done)|exact @nn _ _ _ e
noncomputable def Zs:BI->Value
 | .len=> .builtin "len" | .list=> .type "list" | .sorted=> .builtin "sorted" | .max=> .builtin "max" | .min=> .builtin "min" | .minL=> .builtin "min"
 | .all=> .builtin "all" | .any=> .builtin "any" | .str=> .type "str" | .int=> .type "int" | _=> .none
noncomputable def M4:BI->Bool
 | .len | .list | .sorted | .max | .min | .minL | .all | .any=>true
 | _=>false
theorem V6{es:List (Int×V)}{kvs:List (Int×Value)}{vs:List Value}(h:Ro W es kvs):vs.length=kvs.length->
 (∀(j:Nat) (v:Value),vs[j]? = some v->∃k x,kvs[j]? = some (k,x)/\(intKind W.prog W.w).is k v=true)->IntsAre vs (es.map (·.1)):=by
 induction h generalizing vs with
 | nil=>
   intro hl _
   refine Aa fun nY=>?_
   cases vs with
   | nil=>(refine nY ?_;clear nY;exact .nil)
   | cons v vs=>cases hl
 | @cons k _ _ _ _ h t ih=>
   intro hl hv
   refine Aa fun nY=>?_
   cases vs with
   | nil=>cases hl
   | cons v vs=>
     obtain⟨k',x,e1,e2⟩:=hv 0 v rfl
     cases e1
     obtain⟨t',rfl⟩:=Value.isInt_shape (show Value.isInt k v=true from e2)
     refine nY ?_;clear nY
     exact .cons k t' (ih (Nat.succ.inj hl) fun j v hj=>hv (j+1) v hj)
theorem Sd{T:String}{r d:Addr}{n:Nat}{P:Nat->Value->Prop}{OK:Heap->Prop}{ks:List Int}{Q:Value->Shared->Prop}(K:KdlSrc W.prog W.w T r d n P OK)(hh:A.handled=none)(hok:OK s.heap)(hn:n<=sizeLine)(h64:n<64)
 (hI:∀acc:Array Value,ItemsOf P acc n->∃ks',IntsAre acc.toList ks'/\ks'.Perm ks)
 (h:∀(D:Addr) (h':Heap) (tk ee:Nat) (vs:List Value),s.heap.get? D=none->(∀b,s.heap.get? b≠none->b<D)->(∀b o,s.heap.get? b=some o->h'.get? b=some o)->h'.get? D=some {cls:= .type "list",data:= .seq vs.toArray ee} ->
   IntsAre vs (Cn ks)->Q (.ref D) {s with heap:=h',toks:=tk}) :
 wpAny W.M A (call (.builtin "sorted") [.ref r]) Q E s:=by
 refine Calls.call_function_entry kind_sorted plain_sorted entry_sorted (args_sorted1 _) ?_
 unfold Builtin.«sorted»
 refine wpAny_bind (m:=checkCount "sorted" 1 1 _) (wpAny_pure ?_)
 refine wpAny_bind (kdu_collect (A:=A.in1) K hh hok hn fun h' tk acc hk hacc=>?_)
 have hl:acc.toList.length=n:=by rw[Array.length_toList];exact hacc.1
 refine wpAny_bind (wpAny_newList ?_ (by rw[hl];exact hn))
 refine Aa fun nY=>?_
 obtain⟨ks',hI,hpk⟩:=hI acc hacc
 have hD:s.heap.get? h'.objs.size=none:=Pb hk
 have hlt:∀b,s.heap.get? b≠none->b<h'.objs.size:=fun b hb=>by
  cases q:s.heap.get? b with
  | none=>exact absurd q hb
  | some o=>exact Heap.lt_size (hk b o q)
 have ho:(h'.push (seqObj "list" acc.toList.toArray 0)).get? h'.objs.size=some (seqObj "list" acc.toList.toArray 0):=Heap.get?_push_size _ rfl
 refine nY ?_;clear nY
 refine wpAny_bind (wpAny_holding (wpAny_call_entry slot_list_sort ⟨_,ho,rfl⟩ entry_list_sort (list_sort_tree (n:=0) ho hI (by rw[hl];exact h64) fun out ns' a1 a2 a3=>⟨_,rfl,?_⟩) (args_list_sort _)))
 have en:ns'=Cn ks:=Ip ((a2.trans hpk).trans (Ca _).symm) a3 (Dd _)
 subst en
 obtain⟨ee,he⟩:=sortedHeap_at (out:=out) ho
 refine wpAny_pure ⟨_,rfl,h h'.objs.size _ tk ee out.toList hD hlt (fun b o e=>?_) he a1⟩
 have hb:=Heap.lt_size (hk b o e)
 rw[sortedHeap_old (Nat.ne_of_lt hb) (by rw[Heap.size_push];exact Nat.lt_succ_of_lt hb)]
 exact Heap.get?_push_of_some _ (hk b o e)
theorem Qt{d:Addr}{es:List (Int×V)}{kvs:List (Int×Value)}{ep:Nat}{Q:Value->Shared->Prop}(lo:(d==sysModules)=false)(hh:A.handled=none)(hat:s.heap.DictAt (intKind W.prog W.w) d kvs ep)
 (hn:kvs.length<=sizeLine) (r1:Ro W es kvs) (h64:kvs.length<64)
 (h:∀(D:Addr) (h':Heap) (tk ee:Nat) (vs:List Value),s.heap.get? D=none->(∀b,s.heap.get? b≠none->b<D)->(∀b o,s.heap.get? b=some o->h'.get? b=some o)->h'.get? D=some {cls:= .type "list",data:= .seq vs.toArray ee} ->
   IntsAre vs (Cn (es.map (·.1)))->Q (.ref D) {s with heap:=h',toks:=tk}) :
 wpAny W.M A (call (.builtin "sorted") [.ref d]) Q E s:=
 Sd (kdl_dict (knd:=intKind W.prog W.w) (kvs:=kvs) (ep:=ep) lo) hh hat hn h64 (fun acc hacc=>⟨_,V6 r1 (by rw[Array.length_toList];exact hacc.1) fun j v hj=>hacc.2 j v (by rw[<-Array.getElem?_toList];exact hj),.rfl⟩) h
theorem Acl{v v':V}{us:List Value}(h:Dc W [v,v'] us):(Gx fun u u'=>Go (us = [u,u']) (VR W v u) (VR W v' u')):=by
 cases h with|cons h t=>cases t with|cons h' t=>cases t;exact⟨_,_,rfl,h,h'⟩
theorem Se(ok:Ky A c h₀ env n)(hf:c.hnd=false)(Y:Ac W env c h₀)(R:Ak W h₀ env names H ρ s){b:BI}{vs:List V}{us:List Value}(hd:M4 b=true)(hv:Dc W vs us)(q:D7 b vs H Q) :
 wpAny W.M A (call (Zs b) us) (A7 W h₀ env names ρ Q) E s:=by
 refine Aa fun nY=>?_
 obtain⟨m,F⟩:=R.kitF Y
 have N:News W.b₀ env.locals s.heap _:=Vy
 have hh:=ok.handled hf
 have b63:=Ol
 cases b<;>first|(cases hd;done)|exact False.elim q|skip
 case len=>
  replace q:Mr vs H Q:=q
  refine nY ?_;clear nY
  apply L5 hv q;intro v u h q
  induction h with
  | script=>
    refine Aa fun nY=>?_
    obtain⟨l1,h1,r1,z1⟩:=R.script Y
    have r2:Dc W (W.sn.map V.int) l1:=Hl r1
    refine nY ?_;clear nY
    have hl:W.sn.length=l1.length:=by have:=r2.length;simpa using this
    have hs:((l1.toArray.size:Nat):Int)=W.sn.length:=by simp[hl]
    exact len_list h1 (by rw[hs];(first|lia|omega)) (by rw[hs];exact A7.mk (.int _ _) (R.toks _) q)
  | str x t=>
    refine P.len_str ?_ (A7.mk (.int _ _) (R.toks _) q.2)
    have hz:=q.1
    show ¬((x.length:Nat):Int)≥2 ^ 63
    (first|lia|omega)
  | ref a=>
    dsimp only at q
    refine Aa fun nY=>?_
    split at q
    ·rename_i xs e
     obtain⟨l1,h1,r1,z1⟩:=R.isList e
     have hs:((l1.toArray.size:Nat):Int)=xs.length:=by simp[r1.length]
     refine nY ?_;clear nY
     exact len_list h1 (by rw[hs];(first|lia|omega)) (by rw[hs];exact A7.mk (.int _ _) (R.toks _) q)
    ·rename_i xs e
     obtain⟨l1,h1,r1,z1⟩:=R.isTup e
     have hs:((l1.toArray.size:Nat):Int)=xs.length:=by simp[r1.length]
     refine nY ?_;clear nY
     exact PyProof.Rows.len_tuple h1 (by rw[hs];(first|lia|omega)) (by rw[hs];exact A7.mk (.int _ _) (R.toks _) q)
    ·rename_i es e
     obtain⟨kvs,h1,r1,z1⟩:=R.isDict e
     have hs:(kvs.length:Int)=es.length:=by rw[r1.length]
     refine nY ?_;clear nY
     exact call_len_dict (R.noSys Y e) h1 (by rw[hs];(first|lia|omega)) (by rw[hs];exact A7.mk (.int _ _) (R.toks _) q)
    ·exact q.elim
  | _=>exact False.elim q
 case list=>
  replace q:Ix vs H Q:=q
  refine nY ?_;clear nY
  apply L5 hv q;intro v u h q;apply Eh h q;intro a q
  refine Aa fun nY=>?_
  split at q
  ·rename_i xs e
   obtain⟨l1,⟨o,ho,hc,nn,hdd⟩,r1,z1⟩:=R.isList e
   refine nY ?_;clear nY
   refine call_list_seq (hsz:=by simp[<-r1.length];exact Nat.le_trans z1 Cw) _ (.inl rfl) ho hc hdd fun h' c' hk hD=>?_
   exact A7.mk (.ref _) (R.put s.toks hk hD (Ge r1 z1) (B0 _) fun _ _=>R.up) (q _ R.fresh)
  ·rename_i xs e
   obtain⟨l1,⟨o,ho,hc,nn,hdd⟩,r1,z1⟩:=R.isTup e
   refine nY ?_;clear nY
   refine call_list_seq (hsz:=by simp[<-r1.length];exact Nat.le_trans z1 Cw) _ (.inr rfl) ho hc hdd fun h' c' hk hD=>?_
   exact A7.mk (.ref _) (R.put s.toks hk hD (Ge r1 z1) (B0 _) fun _ _=>R.up) (q _ R.fresh)
  ·exact q.elim
 case sorted=>
  replace q:Iy vs H Q:=q
  refine nY ?_;clear nY
  apply L5 hv q;intro v u h q;apply Eh h q;intro a q
  refine Aa fun nY=>?_
  split at q
  ·rename_i xs e
   obtain⟨l1,h1,r1,z1⟩:=R.isList e
   split at q
   ·rename_i ns e2
    have hI:=Vz r1 e2
    refine nY ?_;clear nY
    refine sorted_N F N h1 hI (by rw[<-r1.length,<-ints?_length e2];exact q.1) fun h' vs' ns' ee F' N' a1 a2 a3=>?_
    have en:ns'=Cn ns:=Ip (a2.trans (Ca ns).symm) a3 (Dd ns)
    subst en
    have hz:((Cn ns).map V.int).length<=B6:=by
     rw[List.length_map,(Ca ns).length_eq,ints?_length e2];exact z1
    obtain⟨e,R'⟩:=Pd (t:=s.toks) R Y F F' N' (Nat.le_succ _) (Ge (Hl a1) hz)
    exact A7.mk (.ref _) R' (q.2 _ e)
   ·exact q.elim
  ·rename_i es e
   obtain⟨kvs,h1,r1,z1⟩:=R.isDict e
   obtain⟨ep,hat⟩:=h1.dictAt
   refine nY ?_;clear nY
   refine Qt (R.noSys Y e) hh hat (by rw[<-r1.length];exact Nat.le_trans z1 Cw) r1 (by rw[<-r1.length];exact q.1) fun D h' tk ee vs hn hlt hk ho hI=>?_
   have hb:W.b₀.objs.size<=D:=by
    refine Aa fun nY=>?_
    obtain⟨m,⟨o,_,_,h,_⟩,_⟩:=R.ns
    refine nY ?_;clear nY
    exact Nat.le_trans R.above (Nat.le_of_lt (hlt _ (by rw[h];simp)))
   exact A7.mk (.ref _) (R.put tk hk ho (Ge (Hl hI) (by rw[List.length_map,(Ca _).length_eq,List.length_map];exact z1)) hn fun _ _=>hb) (q.2 _ (R.new_sep hn hb).1)
  ·exact q.elim
 case max=>
  replace q:Zh vs H Q:=q
  refine nY ?_;clear nY
  apply Zr hv q;intro v w u u' h h' q;apply Au h q;intro i t q;apply Au h' q;intro j t' q
  refine max_two_N hh F N fun h' tk F' N'=>?_
  have e:∀i j:Int,(if j>i then j else i)=max i j:=by intro i j;split<;>(first|lia|omega)
  rw[e]
  exact A7.mk (.int _ _) (Qh R Y F F' N') q
 case min=>
  replace q:Zi vs H Q:=q
  refine nY ?_;clear nY
  apply Zr hv q;intro v w u u' h h' q;apply Au h q;intro i t q;apply Au h' q;intro j t' q
  refine min_two_N hh F N fun h' tk F' N'=>?_
  have e:∀i j:Int,(if j<i then j else i)=min i j:=by intro i j;split<;>(first|lia|omega)
  rw[e]
  exact A7.mk (.int _ _) (Qh R Y F F' N') q
end Mine.Internal
namespace Mine.Internal
open PySem PySem.W PyProof.Rows
variable {W:Wd} {A:Around} {h₀:HB} {env:Env} {c:Cx} {names:List Str} {H:AH} {ρ:Ao} {s:Shared} {E:Value->Shared->Prop} {n:Nat} {Q:Ad} {Er:EP}
noncomputable def V7:LM->String
 | .append=> "list.append" | .clear=> "list.clear" | .count=> "list.count" | .extend=> "list.extend" | .index=> "list.index" | .remove=> "list.remove" | .reverse=> "list.reverse"
 | .setdefault=> "dict.setdefault" | .split=> "str.split" | .join=> "str.join"
theorem Qu(R:Ak W h₀ env names H ρ s){x:List Nat}{c:Nat}{t u:Tok}(hz:x.length<B6)(q:A5 (.list ((Af c x).map V.str)) H Q) :
 wpAny W.M A (call (.builtin "str.split") [.str (Bi x) t,.str (Bi [c]) u]) (A7 W h₀ env names ρ Q) E s:=by
 have hb:B6=1048576:=rfl
 have hs:sizeLine=16777216:=rfl
 have fin:∀(l:List (Str×Tok)) (k:Nat),l.map (·.1)=Txt.split (Bi x) (Bi [c])->A7 W h₀ env names ρ Q (.ref s.heap.objs.size) {s with heap:=s.heap.push {cls:= .type "list",data:= .seq (strValues l).toArray},toks:=k}:=fun l k hl=>by
  have e:l.map (·.1.cps.toList)=Af c x:=by rw[<-Vv,<-hl,List.map_map];rfl
  have r:=Qi (W:=W) (l:=l)
  rw[e]at r
  exact A7.mk (.ref _) (R.push (.list r (by rw[List.length_map];exact Nat.le_trans M1 hz)) rfl k) (q _ R.fresh)
 cases h1:(decide ((Bi x).length<(Bi [c]).length)||decide (Builtin.Str.strKind (Bi x)<Builtin.Str.strKind (Bi [c])))
 ·cases hf:(Builtin.Str.occurrences (Bi x) (Bi [c]) 0 (Bi x).length ((Bi x).length+1)).isEmpty
  ·have h2:=StrLaws.occ_length_le_len (Bi x) (Bi [c]) 0 (Bi x).length ((Bi x).length+1)
   have h3:(Builtin.Str.partsBetween (Bi x) (Builtin.Str.occurrences (Bi x) (Bi [c]) 0 (Bi x).length ((Bi x).length+1)) (Bi [c]).length).length<=sizeLine:=by
    unfold Builtin.Str.partsBetween
    rw[List.length_map,List.length_zip,List.length_append,List.length_cons,List.length_map,List.length_singleton]
    have:(Bi x).length=x.length:=rfl
    omega
   refine call_meets F.slot_str_split (typeIs_str _ _ _) F.entry_str_split (F.args_str_split_2 _ _) (meets_str_split_sep (Bi x) (Bi [c]) t u h1 rfl hf (by show x.length<=sizeLine;omega) h3) ?_
   show wants _ E _ {s with toks:=_,heap:=s.heap.push {cls:= .type "list",data:= .seq (strsFrom s.toks (Builtin.Str.partsBetween (Bi x) (Builtin.Str.occurrences (Bi x) (Bi [c]) 0 (Bi x).length ((Bi x).length+1)) (Bi [c]).length)).toArray}}
   rw[strsFrom_eq]
   exact fin (numbered s.toks _) _ ((numbered_texts _ _).trans ((if_neg (ne_true_of_eq_false h1)).trans (if_neg (ne_true_of_eq_false hf))).symm)
  ·exact call_meets F.slot_str_split (typeIs_str _ _ _) F.entry_str_split (F.args_str_split_2 _ _) (meets_str_split_not_found (Bi x) (Bi [c]) t u h1 rfl hf) (fin [(Bi x,t)] s.toks ((if_neg (ne_true_of_eq_false h1)).trans (if_pos hf)).symm)
 ·exact call_meets F.slot_str_split (typeIs_str _ _ _) F.entry_str_split (F.args_str_split_2 _ _) (meets_str_split_cannot_occur (Bi x) (Bi [c]) t u h1) (fin [(Bi x,t)] s.toks (if_pos h1).symm)
theorem Sf(ok:Ky A c h₀ env n)(Y:Ac W env c h₀)(R:Ak W h₀ env names H ρ s){m:LM}{o:V}{vs:List V}{uo:Value}{us:List Value}(ho:VR W o uo)(hv:Dc W vs us)(q:Ru m o vs H Q) :
 wpAny W.M A (call (.builtin (V7 m)) (uo::us)) (A7 W h₀ env names ρ Q) E s:=by
 have b63:=Ol
 cases m<;>try exact q.elim
 case append=>
  replace q:O6 o vs H Q:=q
  apply Eh ho q;intro a q;apply L5 hv q;intro v u h q;refine M3 q fun xs e q=>?_
  obtain⟨l1,nn,h1,r1,z1⟩:=R.lst e
  refine call_meets F.slot_list_append ⟨_,h1,rfl⟩ F.entry_list_append (F.args_list_append_2 _ _) (list_append _ l1.toArray nn u (by simp[<-r1.length];exact Nat.le_trans z1 Cw)) ⟨h1,?_⟩
  exact A7.mk .none (R.changeL e h1 (·.push u) (items':=l1 ++ [u]) (by simp) (r1.append (.cons h .nil)) (by simp;(first|lia|omega)) s.toks) q.2
 case split=>
  replace q:Vg o vs H Q:=q
  apply H7 ho q;intro x t q;apply L5 hv q;intro v u h q;apply H7 h q;intro y t' q;apply R9 q;intro c q
  exact Qu R q.1 q.2
 case join=>
  replace q:Zl o vs H Q:=q
  apply H7 ho q;intro x t q;apply L5 hv q;intro v u h q;apply Eh h q;intro a q;refine M3 q fun xs e q=>?_;refine B5 q fun ts e2 q=>?_
  obtain⟨l1,h1,r1,z1⟩:=R.isList e
  obtain⟨l,rfl,hl⟩:=V0 r1 e2
  refine SC.join h1 hl (Yb q.1.1 q.1.2) fun t' k=>?_
  rw[X9]
  exact A7.mk (.str _ _) (R.toks _) q.2
end Mine.Internal
namespace Mine.Internal
open PySem PySem.W PyProof.Rows
variable {W:Wd} {A:Around} {h₀:HB} {env:Env} {c:Cx} {names:List Str} {H:AH} {ρ:Ao} {s:Shared} {E:Value->Shared->Prop} {n:Nat} {Q:Ad} {Er:EP}
theorem Pg{b₀:Heap}{L:Addr}{h:Heap}:(Gc b₀ L h).Pairwise fun p q=>p.1≠q.1:=by
 unfold Gc
 rw[List.pairwise_filterMap]
 refine List.nodup_range.imp ?_
 intro a b hab p hp q hq
 split at hp
 ·cases hp
 ·split at hq
  ·cases hq
  ·obtain⟨o1,_,rfl⟩:=Option.map_eq_some_iff.mp hp
   obtain⟨o2,_,rfl⟩:=Option.map_eq_some_iff.mp hq
   exact hab
theorem M5{d:Addr}{o o':Obj}:∀ {l:List (Addr×Obj)},l.Pairwise (fun p q=>p.1≠q.1)->(d,o)∈l->(Li fun l'=>Go (Upd d o o' l l') ((d,o')∈l') (∀p∈l,p.1≠d->p∈l'))
 | [],_,h=>nomatch h
 | p::r,hp,hm=>by
   obtain⟨h1,h2⟩:=List.pairwise_cons.mp hp
   rcases List.mem_cons.mp hm with rfl|hm
   ·exact⟨_,.head fun q hq=>(h1 q hq).symm,.head _,fun q hq hne=>by
     rcases List.mem_cons.mp hq with rfl|hq
     ·exact absurd rfl hne
     ·exact .tail _ hq⟩
   ·obtain⟨l',u,m,k⟩:=M5 h2 hm
    exact⟨_,.tail (h1 _ hm) u,.tail _ m,fun q hq hne=>by
     rcases List.mem_cons.mp hq with rfl|hq
     ·exact .head _
     ·exact .tail _ (k q hq hne)⟩
theorem Ak.changeK(R:Ak W h₀ env names H ρ s)(Y:Ac W env c h₀){h':Heap}{a:Addr}{o o':O}{ob:Obj}{m:Str->Option Value}(t:Nat)(he:H a=some o')(hm:s.heap.Ns env.locals m)(hm':h'.Ns env.locals m)
 (k:∀b o,b≠a->b≠env.locals->s.heap.get? b=some o->h'.get? b=some o) (ho:h'.get? a=some ob) (r:OR W o ob) (hl:∀es,o = .dict es->∃es',o' = .dict es'):Ak W h₀ env names (upd H a o) ρ {s with heap:=h',toks:=t}:=by
 refine Aa fun nY=>?_
 obtain⟨s1,s2,s3⟩:=R.sep a o' he
 refine nY ?_;clear nY
 refine⟨?_,?_,?_,?_,?_,R.gens,R.os,R.above,?_⟩
 ·refine Aa fun nY=>?_
  obtain⟨m₁,h1,h2⟩:=R.ns
  refine nY ?_;clear nY
  refine⟨m,hm',fun x i v e1 e2 e3=>?_⟩
  refine Aa fun nY=>?_
  obtain⟨c,h3,h4⟩:=h2 x i v e1 e2 e3
  refine nY ?_;clear nY
  refine⟨c,?_,h4⟩
  refine Aa fun nY=>?_
  obtain⟨o,es,ep,a1,a2,a3,a4⟩:=h1
  obtain⟨o',es',ep',b1,b2,b3,b4⟩:=hm
  rw[a1]at b1;cases b1
  rw[a2]at b2;cases b2
  refine nY ?_;clear nY
  rw[<-b4,a4];exact h3
 ·intro x c e
  refine Aa fun nY=>?_
  obtain⟨w,⟨oc,hc,hd⟩,r⟩:=R.cell x c e
  refine nY ?_;clear nY
  exact⟨w,⟨oc,k _ _ (fun q=>s3 x (q▸e)) (Y.apart x c e) hc,hd⟩,r⟩
 ·intro b x e
  refine Aa fun nY=>?_
  obtain⟨x',e1,z⟩:=R.keep b x e
  refine nY ?_;clear nY
  exact⟨x',k b x' (fun q=>by rw[q,s1]at e;cases e) (fun q=>by rw[q,Y.new]at e;cases e) e1,z⟩
 ·intro b x e
  unfold upd at e
  refine Aa fun nY=>?_
  split at e
  ·refine nY ?_;clear nY
   rename_i q;subst q;cases e;exact⟨ob,ho,r⟩
  ·refine nY ?_;clear nY
   rename_i q;obtain⟨ob',h1,h2⟩:=R.objs b x e;exact⟨ob',k _ _ q (R.sep b x e).2.1 h1,h2⟩
 ·intro b x e
  unfold upd at e
  refine Aa fun nY=>?_
  split at e
  ·refine nY ?_;clear nY
   rename_i q;subst q;exact⟨s1,s2,s3⟩
  ·refine nY ?_;clear nY
   exact R.sep b x e
 ·intro b x e
  unfold upd at e
  refine Aa fun nY=>?_
  split at e
  ·refine nY ?_;clear nY
   rename_i q;subst q;obtain⟨es',rfl⟩:=hl _ (Option.some.inj e);exact R.low b _ he
  ·refine nY ?_;clear nY
   exact R.low b x e
noncomputable def Th:List C6:=[.many,.rows]
theorem M6(a:C6):a∈Th:=by cases a<;>decide
theorem L6{a b:C6}(h:Ax a=Ax b):a=b:=by
 cases a<;>cases b<;>first|rfl|(revert h;decide)
noncomputable def Ph(K:Frag)(C:Addr):Bool:=
 hasDictIn K C&&plainOver K C&&findIn K (.ref C) "__setattr__" == some (some (.builtin "object.__setattr__")) &&
 Th.all fun a=>plainGet K C (Ax a)&&findIn K (.ref C) (Ax a)==some none&&takerIn K C (Ax a)==some none
structure Pi(K:Frag)(C:Addr):Prop where
 dict:hasDictIn K C=true
 over:plainOver K C=true
 set:findIn K (.ref C) "__setattr__" = some (some (.builtin "object.__setattr__"))
 get:∀a,plainGet K C (Ax a)=true
 noc:∀a,findIn K (.ref C) (Ax a)=some none
 take:∀a,takerIn K C (Ax a)=some none
theorem Lp{K:Frag}{C:Addr}(h:Ph K C=true):Pi K C:=by
 unfold Ph at h
 simp only[Bool.and_eq_true,beq_iff_eq,List.all_eq_true]at h
 obtain⟨⟨⟨h1,h2⟩,h3⟩,h4⟩:=h
 exact⟨h1,h2,h3,fun a=>(h4 a (M6 a)).1.1,fun a=>(h4 a (M6 a)).1.2,fun a=>(h4 a (M6 a)).2⟩
theorem Sg(x:Str)(t:Tok):(Value.str x t).isStr x=true:=by simp[Value.isStr]
theorem Hn{x y:Str}(h:x≠y)(t:Tok):(Value.str x t).isStr y=false:=by simpa[Value.isStr]using h
theorem Ub.get{fs:List (C6×V)}{es:List DictEntry}(h:Ub W fs es)(a:C6):match Iv fs a with
 | some v=>∃c,getL (Ax a) es=some (some c)/\VR W v c
 | none=>getL (Ax a) es=some none:=by
 have noref:es.any (·.refKey)=false:=by
  induction h with
  | nil=>rfl
  | cons h1 h2 _ _ ih=>obtain⟨t,h2⟩:=h2;simp only[List.any_cons,ih,Bool.or_false];simp[DictEntry.refKey,h2]
 have key:match Iv fs a with
  | some v=>∃e,es.find? (·.key.isStr (Ax a))=some e/\VR W v e.val
  | none=>es.find? (·.key.isStr (Ax a))=none:=by
  clear noref
  induction h with
  | nil=>rfl
  | @cons b v fs e es h1 h2 h3 _ ih=>
    obtain⟨t,h2⟩:=h2
    unfold Iv at ih ⊢
    rw[List.lookup_cons,List.find?_cons]
    by_cases q:a=b
    ·subst q;simp only[beq_self_eq_true,h1];exact⟨e,rfl,h3⟩
    ·have q1:(a==b)=false:=by simpa using q
     have q2:e.key.isStr (Ax a)=false:=by rw[h2];exact Hn (fun z=>q (L6 z.symm)) t
     simp only[q1,q2];exact ih
 unfold getL
 cases hg:Iv fs a with
 | some v=>rw[hg]at key;obtain⟨e,e1,e2⟩:=key;exact⟨_,by rw[e1],e2⟩
 | none=>rw[hg]at key;simp only at key ⊢;rw[key,noref];rfl
theorem Ub.put{fs:List (C6×V)}{es:List DictEntry}(h:Ub W fs es)(a:C6){v:V}{c:Value}(hv:VR W v c)(hsh:Int)(t:Tok):Ub W (Md fs a v) (putL (Ax a) hsh (.str (Ax a) t) c es):=by
 induction h with
 | nil=>exact .cons (Sg _ _) ⟨t,rfl⟩ hv .nil
 | @cons b v' fs e es h1 h2 h3 h4 ih=>
   obtain⟨t',h2⟩:=h2
   unfold Md putL
   by_cases q:a=b
   ·subst q;rw[if_pos rfl,h1];exact .cons h1 ⟨t',h2⟩ hv h4
   ·have q2:e.key.isStr (Ax a)=false:=by rw[h2];exact Hn (fun z=>q (L6 z.symm)) t'
    rw[if_neg q,q2];exact .cons h1 ⟨t',h2⟩ h3 ih
theorem Ub.length{fs:List (C6×V)}{es:List DictEntry}(h:Ub W fs es):fs.length=es.length:=by
 induction h with
 | nil=>rfl
 | cons _ _ _ _ ih=>simp[ih]
theorem Qv(fs:List (C6×V))(a:C6)(v:V):(Md fs a v).length<=fs.length+1:=by
 induction fs with
 | nil=>simp[Md]
 | cons p t ih=>
   obtain⟨b,w⟩:=p
   unfold Md
   split
   ·simp
   ·simp only[List.length_cons];(first|lia|omega)
theorem Ak.inst(R:Ak W h₀ env names H ρ s){a d:Addr}{cc:Cp}{fs:List (C6×V)}(h1:H a=some (.inst cc d))(h2:H d=some (.ns fs)) :
 (cc = .web\/cc = .verdict)/\(Gx fun es n=>Rq (InstAt s.heap a (instObj (W.cl cc) d) (W.cl cc) (some (dictOf es n))) (Ub W fs es) (fs.length<=10) (s.heap.get? d=some (dictOf es n))):=by
 refine Aa fun nY=>?_
 obtain⟨o1,a1,a2⟩:=R.objs _ _ h1
 obtain⟨o2,b1,b2⟩:=R.objs _ _ h2
 cases a2 with
 | inst hcc=>
   cases b2 with
   | ns r z=>(refine nY ?_;clear nY;exact⟨hcc,_,_,⟨a1,rfl,rfl,b1⟩,r,z,b1⟩)
theorem Z8{v:V}{c:Value}(h:VR W v c):handedIn c=true:=by induction h<;>rfl
theorem N2(Y:Ac W env c h₀)(X:W.K.In W.b₀)(I:∀cc,cc = .web\/cc = .verdict->Pi W.K (W.cl cc))(R:Ak W h₀ env names H ρ s){o:V}{u:Value}{a:C6}{b:Bool}(ho:VR W o u)(q:getAttr o a H Q) :
 wpAny W.M A (PySem.getAttr u (Ax a) b) (A7 W h₀ env names ρ Q) E s:=by
 obtain⟨m,F⟩:=R.kitF Y
 delta Mine.Internal.getAttr at q
 apply Eh ho q
 intro x q
 refine Qg q fun cc d e1 q=>?_
 refine Sa q fun fs e2 q=>?_
 refine B5 q fun v e3 q=>?_
 refine Aa fun nY=>?_
 obtain⟨hcc,es,nn,i1,r1,z1,_⟩:=R.inst e1 e2
 have K:=I cc hcc
 have:=r1.get a
 rw[e3]at this
 obtain⟨cv,g1,g2⟩:=this
 refine nY ?_;clear nY
 exact get_own F X i1 (K.get a) K.dict (K.noc a) rfl g1 (Z8 g2) (A7.mk g2 (R.toks _) q)
theorem N3(Y:Ac W env c h₀)(X:W.K.In W.b₀)(I:∀cc,cc = .web\/cc = .verdict->Pi W.K (W.cl cc))(R:Ak W h₀ env names H ρ s){o v:V}{u uv:Value}{a:C6}(ho:VR W o u)(hv:VR W v uv){N:AH->Prop}(q:setAttr o a v H N) :
 wpAny W.M A (PySem.setAttr u (Ax a) uv) (fun _ s'=>Abt W h₀ env names ρ N s') E s:=by
 obtain⟨m,F⟩:=R.kitF Y
 delta Mine.Internal.setAttr at q
 apply Eh ho q
 intro x q
 refine Qg q fun cc d e1 q=>?_
 refine Sa q fun fs e2 q=>?_
 refine Aa fun nY=>?_
 obtain⟨hcc,es,nn,i1,r1,z1,hd⟩:=R.inst e1 e2
 have K:=I cc hcc
 obtain⟨s1,s2,s3⟩:=R.sep _ _ e2
 have hbn:W.b₀.get? d=none:=by
  cases q:W.b₀.get? d with
  | none=>rfl
  | some o=>have:=Y.base _ _ q;rw[s1]at this;cases this
 have hmem:(d,dictOf es nn)∈Gc W.b₀ env.locals s.heap:=Gd.mpr ⟨s2,hbn,hd⟩
 obtain⟨news',U,m1,m2⟩:=M5 (o':=dictOf (putL (Ax a) (PyData.keyHash W.w.params (Ax a)) (.str (Ax a) (s.toks+1)) uv es) (putN (Ax a) es nn)) Pg hmem
 have r2:=r1.put a hv (PyData.keyHash W.w.params (Ax a)) (s.toks+1)
 refine nY ?_;clear nY
 refine set_dict F X Vy i1 rfl K.set K.over (K.take a) K.dict ?_ rfl U ?_ fun h' F' N'=>?_
 ·have:=r1.get a
  refine Aa fun nY=>?_
  split at this
  ·refine nY ?_;clear nY
   obtain⟨c,g1,_⟩:=this;rw[g1];rfl
  ·refine nY ?_;clear nY
   rw[this];rfl
 ·rw[<-r2.length];exact Nat.le_trans (Qv _ _ _) (by(first|lia|omega))
 ·have k:∀b o,b≠d->b≠env.locals->s.heap.get? b=some o->h'.get? b=some o:=fun b o hb hl e=>by
   cases q:W.b₀.get? b with
   | some o'=>have e1:=R.keepB Y b o' q;rw[e]at e1;cases e1;exact F'.keep b _ q
   | none=>exact(N' (b,o) (m2 _ (Gd.mpr ⟨hl,q,e⟩) hb)).1
  exact⟨_,R.changeK Y _ e2 F.ns F'.ns k (N' _ m1).1 (.ns r2 (Nat.le_trans (Qv _ _ _) q.1)) (fun _ q=>by cases q),q.2⟩
end Mine.Internal
namespace Mine.Internal
open PySem PySem.W PyProof.Rows
variable {W:Wd} {G:Ap} {A:Around} {h₀:HB} {env:Env} {c:Cx} {names:List Str} {H:AH} {ρ:Ao} {s:Shared} {E:Value->Shared->Prop} {n:Nat} {Q:Ad} {Er:EP}
noncomputable def H9:List Str:=["len","list","sorted","max","min","all","any","isinstance","range","enumerate","reversed","set","str","int","bool","tuple","ValueError"]
noncomputable def Ex(W:Wd)(f:Str):Option Addr:=
 match Ef f with
 | some (cc,m)=>(match findIn W.K (.ref (W.cl cc)) m with|some (some (.ref a))=>some a|_=>none)
 | none=>(match nsIn W.K mainGlobals (Hi f)with|some (some (.ref a))=>some a|_=>none)
structure Yg(W:Wd)(hb:Bool)(fa:Addr)(d:Fn)(name qual:Str)(params:Arguments)(body:List Stmt)(scope:Scope)(doc pm cdv ct oc:Value)(an od:Option Addr)(osl:Array (Option Value)):Prop where
 at_:W.K.lookup fa=some ⟨oc,od,.func (fnOf name qual params body scope .none .none doc pm an cdv ct),osl⟩
 typ:oc = .type "function"
 code:codeIn W.K cdv qual=true
 er:X8 hb params body scope=some d
 nodup:(params.args.map (·.arg)).Nodup
 kinds:∀x∈params.args.map (·.arg),scope.names.lookup x=some .local\/scope.names.lookup x=some .cell
 cells:((cellsFrom 0 scope.names []).map (·.1)).Nodup
 names:(Bp params scope).Nodup
 nofree:∀p∈scope.names,p.2≠ .free
structure F0(W:Wd)(G:Ap):Prop where
 X:W.K.In W.b₀
 top:(Ex4 fun p loose mg mb=>TopRead p loose mg mb W.b₀)
 inst:∀cc,cc = .web\/cc = .verdict->Pi W.K (W.cl cc)
 bi:∀x∈H9,nsIn W.K mainGlobals x=some none
 const:∀g v,G.const g=some v->∃c,nsIn W.K mainGlobals g=some (some c)/\VR W v c
 fn:∀f d,G.fn f=some d->∃fa,Ex W f=some fa/\∃name qual params body scope doc pm cdv ct oc an od osl,Yg W (Kr f) fa d name qual params body scope doc pm cdv ct oc an od osl
 make:∀cc,cc = .web\/cc = .verdict->(G.fn (G0 cc)).isSome=true->nsIn W.K mainGlobals (match cc with | .web=> "Web" | _=> "Verdict")=some (some (.ref (W.cl cc)))/\makesIn W.K (W.cl cc)=true
 exc:∀cc,G.exc cc=true->Kx W cc
 sub:∀cc cc',Kx W cc->Kx W cc'->(M2 W.K (W.cl cc)).contains (.ref (W.cl cc'))=(cc==cc'||cc' == .webError)
 meth:∀f m fa,Ef f=some (.web,m)->Ex W f=some fa->plainGet W.K (W.cl .web) m=true/\(∀a,Ax a≠m)
noncomputable def SE(W:Wd)(G:Ap)(n:Nat)(c:Cx)(e:Expr)(x:X):Prop:=
 ∀ {A:Around} {env:Env} {h₀:HB} {H:AH} {ρ:Ao} {s:Shared} {Q:Ad} {E:EP},Ky A c h₀ env n->Ac W env c h₀->Ak W h₀ env c.names H ρ s->Ay G (Ab G n) x ρ H Q E->
  wpAny W.M A (eval e env) (A7 W h₀ env c.names ρ Q) (EM W h₀ env c.names ρ E) s
noncomputable def ST(W:Wd)(G:Ap)(n:Nat)(c:Cx)(e:Expr)(x:X):Prop:=
 ∀ {A:Around} {env:Env} {h₀:HB} {H:AH} {ρ:Ao} {s:Shared} {Q:Bool->AH->Prop} {E:EP},Ky A c h₀ env n->Ac W env c h₀->Ak W h₀ env c.names H ρ s->
  Ay G (Ab G n) x ρ H (fun v H=>truthy v fun b=>Q b H) E->
  wpAny W.M A (isTrue e env (eval e env)) (fun b s'=>∃H',Ak W h₀ env c.names H' ρ s'/\Q b H') (EM W h₀ env c.names ρ E) s
noncomputable def Rp(W:Wd)(G:Ap)(n:Nat)(c:Cx)(es:List Expr)(xs:List X):Prop:=
 ∀ {A:Around} {env:Env} {h₀:HB} {H:AH} {ρ:Ao} {s:Shared} {Q:List V->AH->Prop} {E:EP} {pos:Pos},Ky A c h₀ env n->Ac W env c h₀->Ak W h₀ env c.names H ρ s->Dj G (Ab G n) xs ρ H Q E->
  wpAny W.M A (spliced (backTo pos (starEach es env))) (fun vs s'=>(Gx fun as H'=>Rq (Dc W as vs) (as.length=es.length) (Ak W h₀ env c.names H' ρ s') (Q as H'))) (EM W h₀ env c.names ρ E) s
noncomputable def SC(W:Wd)(G:Ap)(n:Nat):Prop:=
 ∀ {A:Around} {env:Env} {c:Cx} {h₀:HB} {H:AH} {ρ:Ao} {s:Shared} {Q:Ad} {E:EP} {f:Str} {fa:Addr} {vs:List V} {us:List Value},
  (Kr f=false->A.handled=none)->A.depth+4*n+2<recursionLimit->A.units+30*n+40<cLine->Stk A (env.locals::h₀.fs)->Ac W env c h₀->Ak W h₀ env c.names H ρ s->Ex W f=some fa->Dc W vs us->Ab G n f vs H Q E->
  codeAny W.M A (.call (.ref fa) ⟨us,[]⟩) (fun r s'=>match r with | .ok (.ret v)=>A7 W h₀ env c.names ρ Q v s' | .ok _=>False | .error e=>EM W h₀ env c.names ρ E e s') s
theorem SE.toST(h:SE W G n c e x)(hp:∀env whole,isTrue e env whole=(do let v <-whole;standAt e.pos;holding [v] (PySem.truthy v))):ST W G n c e x:=by
 intro A env h₀ H ρ s Q E ok Y R q
 refine isTrue_plain (wpAny_mono (h ok Y R q) (fun v s' r=>?_) fun _ _ e=>e) (hp _ _)
 refine Aa fun nY=>?_
 obtain⟨a,H',hv,R',q'⟩:=r
 delta truthy at q'
 split at q'
 ·refine nY ?_;clear nY
  cases hv;exact wpAny_truthy_bool ⟨H',R',q'⟩
 ·exact q'.elim
theorem Bd{e:Expr}(h:∀v p,e≠ .Starred v p)(rest:List Expr)(env:Env):starEach (e::rest) env=(false,eval e env)::starEach rest env:=by
 cases e<;>first|rfl|exact absurd rfl (h _ _)
theorem Ti:Rp W G n c [] []:=by
 intro A env h₀ H ρ s Q E pos ok Y R q
 exact Calls.spliced_nil ⟨[],H,.nil,rfl,R,q⟩
theorem Qw{e:Expr}{es:List Expr}{x:X}{xs:List X}(h:SE W G n c e x)(hs:Rp W G n c es xs)(hn:∀v p,e≠ .Starred v p):Rp W G n c (e::es) (x::xs):=by
 intro A env h₀ H ρ s Q E pos ok Y R q
 rw[Bd hn]
 refine Calls.spliced_cons (wpAny_mono (h ok Y R q) (fun v s' r=>?_) fun _ _ e=>e)
 refine Aa fun nY=>?_
 obtain⟨a,H',hv,R',q'⟩:=r
 refine nY ?_;clear nY
 refine wpAny_mono (hs ok Y R' q') (fun vs s'' r=>?_) fun _ _ e=>e
 refine Aa fun nY=>?_
 obtain⟨as,H'',hvs,hl,R'',q''⟩:=r
 refine nY ?_;clear nY
 exact⟨a::as,H'',.cons hv hvs,by simp[hl],R'',q''⟩
theorem V8{x:Str}{p:Pos}{i:Nat}(hs:c.slot x=some i)(hd:(x==("__debug__" :Str))=false)(hc:(x==("__classdict__" :Str))=false):SE W G n c (.Name x p) (.var i):=by
 intro A env h₀ H ρ s Q E ok Y R q
 simp only[Jb,Jc,Jd,Je,Jf,Jg,Jh,Ji,Jj,Jk,Jl,Jm,Jn,Jo,Jp,Jq,Bq,Jr,Js,Jt,Ju,Jv,Aq,C9,Ar,An,Jw,Jx,Aw,Bw,Az,A9]at q
 refine Aa fun nY=>?_
 split at q
 ·rename_i v e
  unfold Cx.slot at hs
  split at hs
  ·rename_i hv
   refine nY ?_;clear nY
   refine wpAny_Name ?_ hd
   have key:env.kindOf x=some .local\/env.kindOf x=some .cell\/env.kindOf x=some .free:=by
    cases hk:c.sc.names.lookup x with
    | none=>rw[hk]at hv;cases hv
    | some k=>
      refine Aa fun nY=>?_
      cases k with
      | «local» =>(refine nY ?_;clear nY;exact .inl (Y.kinds x _ hk (by simp)))
      | cell=>(refine nY ?_;clear nY;exact .inr (.inl (Y.kinds x _ hk (by simp))))
      | free=>(refine nY ?_;clear nY;rcases Y.frees x hk with h|h<;>simp[h])
      | _=>rw[hk]at hv;cases hv
   refine Aa fun nY=>?_
   rcases key with h|h|h
   ·obtain⟨m,h1,h2⟩:=R.ns
    obtain⟨cv,h3,h4⟩:=h2 x i v hs h e
    refine nY ?_;clear nY
    exact wpAny_loadName_local Y.kind h h1 h3 (A7.mk h4 R q)
   ·obtain⟨a,ha⟩:=Y.cells x (.inl h)
    obtain⟨w,h1,h2⟩:=R.cell x a ha
    obtain⟨cv,rfl,h4⟩:=h2 i v hs (.inl h) e
    refine nY ?_;clear nY
    exact wpAny_loadName_cell Y.kind h ha h1 (A7.mk h4 R q)
   ·obtain⟨a,ha⟩:=Y.cells x (.inr h)
    obtain⟨w,h1,h2⟩:=R.cell x a ha
    obtain⟨cv,rfl,h4⟩:=h2 i v hs (.inr h) e
    refine nY ?_;clear nY
    exact wpAny_loadName_free Y.kind h ha h1 (A7.mk h4 R q) hc
  ·cases hs
 ·exact q.elim
theorem C4(g:F0 W G)(Y:Ac W env c h₀)(R:Ak W h₀ env names H ρ s){x:Str}{p:Pos}{v:Value}{Q:Value->Shared->Prop}(hg:c.global x=true)(hd:(x==("__debug__" :Str))=false)(e:nsIn W.K mainGlobals x=some (some v))(h:Q v s) :
 wpAny W.M A (eval (.Name x p) env) Q E s:=by
 obtain⟨pp,loose,mg,mb,T⟩:=g.top
 have hx:env.kindOf x=some .globalImplicit:=Y.kinds x _ (by simpa[Cx.global]using hg) (by simp)
 have k:∀b o,W.b₀.get? b=some o->s.heap.get? b=some o:=R.keepB Y
 exact Calls.Name_function_global Y.kind hx (Calls.loadGlobal_global (by rw[Y.globals];exact T.g.keeps k) (mg_of g.X T.g e) h) hd
theorem I4(g:F0 W G)(Y:Ac W env c h₀)(R:Ak W h₀ env names H ρ s){x:Str}{p:Pos}{v:Value}{Q:Value->Shared->Prop}(hg:c.global x=true)(hd:(x==("__debug__" :Str))=false)(hx':x∈H9)
 (hv:bootBuiltins x=some v) (hn:x≠ "__name__") (h:Q v s):wpAny W.M A (eval (.Name x p) env) Q E s:=by
 obtain⟨pp,loose,mg,mb,T⟩:=g.top
 have hx:env.kindOf x=some .globalImplicit:=Y.kinds x _ (by simpa[Cx.global]using hg) (by simp)
 have k:∀b o,W.b₀.get? b=some o->s.heap.get? b=some o:=R.keepB Y
 exact Calls.Name_function_global Y.kind hx (Calls.loadGlobal_builtin (by rw[Y.globals];exact T.g.keeps k) (mg_none_of g.X T.g (g.bi x hx')) (by rw[Y.builtins];exact T.b.keeps k) ((T.builtins x hn).trans hv) h) hd
theorem Yh(g:F0 W G){x:Str}{p:Pos}(hg:c.global x=true)(hd:(x==("__debug__" :Str))=false):SE W G n c (.Name x p) (.glob x):=by
 intro A env h₀ H ρ s Q E ok Y R q
 simp only[Jb,Jc,Jd,Je,Jf,Jg,Jh,Ji,Jj,Jk,Jl,Jm,Jn,Jo,Jp,Jq,Bq,Jr,Js,Jt,Ju,Jv,Aq,C9,Ar,An,Jw,Jx,Aw,Bw,Az,A9]at q
 refine Aa fun nY=>?_
 split at q
 ·rename_i v e
  obtain⟨cv,h1,h2⟩:=g.const x v e
  refine nY ?_;clear nY
  exact C4 g Y R hg hd h1 (A7.mk h2 R q)
 ·exact q.elim
theorem Kz{f:Str}{fa:Addr}(ho:Ef f=none)(h:Ex W f=some fa):nsIn W.K mainGlobals (Hi f)=some (some (.ref fa)):=by
 delta Ex at h
 rw[ho]at h
 simp only at h
 split at h
 ·rename_i e;cases h;exact e
 ·cases h
theorem Yi{k:Nat}{p:Pos}:SE W G n c (.Constant .none k p) .cnone:=by
 intro A env h₀ H ρ s Q E ok Y R q
 exact fun _ _ _=>A7.mk .none R q
theorem V9{b:Bool}{k:Nat}{p:Pos}:SE W G n c (.Constant (.bool b) k p) (.cbool b):=by
 intro A env h₀ H ρ s Q E ok Y R q
 exact fun _ _ _=>A7.mk (.bool b) R q
theorem Yj{i:Int}{k:Nat}{p:Pos}:SE W G n c (.Constant (.int i) k p) (.cint i):=by
 intro A env h₀ H ρ s Q E ok Y R q
 exact fun _ _ _=>A7.mk (.int i _) (R.toks _) q
theorem Tj{x:Str}{k:Nat}{p:Pos}:SE W G n c (.Constant (.str x) k p) (.cstr x):=by
 intro A env h₀ H ρ s Q E ok Y R q
 exact fun _ _ _=>A7.mk (R7 x _) (R.toks _) q
theorem Z9{e:Expr}{x:X}{p:Pos}(h:SE W G n c e x):SE W G n c (.UnaryOp .Not e p) (.not x):=by
 intro A env h₀ H ρ s Q E ok Y R q
 simp only[Jb,Jc,Jd,Je,Jf,Jg,Jh,Ji,Jj,Jk,Jl,Jm,Jn,Jo,Jp,Jq,Bq,Jr,Js,Jt,Ju,Jv,Aq,C9,Ar,An,Jw,Jx,Aw,Bw,Az,A9]at q
 refine UnaryOp_ (wpAny_mono (h ok Y R q) (fun v s' r=>?_) fun _ _ e=>e)
 refine Aa fun nY=>?_
 obtain⟨a,H',hv,R',q'⟩:=r
 delta truthy at q'
 split at q'
 ·refine nY ?_;clear nY
  cases hv;exact not_of (wpAny_truthy_bool (A7.mk (.bool _) R' q'))
 ·exact q'.elim
theorem Aaa{e:Expr}{x:X}{p:Pos}(h:ST W G n c e x):ST W G n c (.UnaryOp .Not e p) (.not x):=by
 intro A env h₀ H ρ s Q E ok Y R q
 refine isTrue_not (wpAny_mono (h (Q:=fun b H=>Q (!b) H) ok Y R ?_) (fun b s' r=>r) fun _ _ e=>e)
 exact q
theorem Aab{e:Expr}{x:X}{p:Pos}(h:SE W G n c e x):SE W G n c (.UnaryOp .USub e p) (.neg x):=by
 intro A env h₀ H ρ s Q E ok Y R q
 simp only[Jb,Jc,Jd,Je,Jf,Jg,Jh,Ji,Jj,Jk,Jl,Jm,Jn,Jo,Jp,Jq,Bq,Jr,Js,Jt,Ju,Jv,Aq,C9,Ar,An,Jw,Jx,Aw,Bw,Az,A9]at q
 refine UnaryOp_ (wpAny_mono (h ok Y R q) (fun v s' r=>?_) fun _ _ e=>e)
 obtain⟨a,H',hv,R',q'⟩:=r
 revert q';intro q'
 split at q'
 ·cases hv;exact neg_int (A7.mk (.int _ _) (R'.toks _) q')
 ·exact q'.elim
theorem Aac{e e2:Expr}{rest:List Expr}{x y:X}{p:Pos}(h:SE W G n c e x)(h2:SE W G n c (.BoolOp .And (e2::rest) p) y):SE W G n c (.BoolOp .And (e::e2::rest) p) (.and x y):=by
 intro A env h₀ H ρ s Q E ok Y R q
 simp only[Jb,Jc,Jd,Je,Jf,Jg,Jh,Ji,Jj,Jk,Jl,Jm,Jn,Jo,Jp,Jq,Bq,Jr,Js,Jt,Ju,Jv,Aq,C9,Ar,An,Jw,Jx,Aw,Bw,Az,A9]at q
 refine BoolOp_and (wpAny_mono (h ok Y R q) (fun v s' r=>?_) fun _ _ e=>e)
 refine Aa fun nY=>?_
 obtain⟨a,H',hv,R',q'⟩:=r
 delta truthy at q'
 split at q'
 ·rename_i b
  cases hv
  refine nY ?_;clear nY
  refine wpAny_truthy_bool ?_
  cases b
  ·exact A7.mk (.bool _) R' (by simpa using q')
  ·exact h2 ok Y R' (by simpa using q')
 ·exact q'.elim
theorem Abu{e e2:Expr}{rest:List Expr}{x y:X}{p:Pos}(h:SE W G n c e x)(h2:SE W G n c (.BoolOp .Or (e2::rest) p) y):SE W G n c (.BoolOp .Or (e::e2::rest) p) (.or x y):=by
 intro A env h₀ H ρ s Q E ok Y R q
 simp only[Jb,Jc,Jd,Je,Jf,Jg,Jh,Ji,Jj,Jk,Jl,Jm,Jn,Jo,Jp,Jq,Bq,Jr,Js,Jt,Ju,Jv,Aq,C9,Ar,An,Jw,Jx,Aw,Bw,Az,A9]at q
 refine BoolOp_or (wpAny_mono (h ok Y R q) (fun v s' r=>?_) fun _ _ e=>e)
 refine Aa fun nY=>?_
 obtain⟨a,H',hv,R',q'⟩:=r
 delta truthy at q'
 split at q'
 ·rename_i b
  cases hv
  refine nY ?_;clear nY
  refine wpAny_truthy_bool ?_
  cases b
  ·exact h2 ok Y R' (by simpa using q')
  ·exact A7.mk (.bool _) R' (by simpa using q')
 ·exact q'.elim
theorem Aad{e:Expr}{rest:List Expr}{x y:X}{p:Pos}(h:ST W G n c e x)(h2:ST W G n c (.BoolOp .And rest p) y):ST W G n c (.BoolOp .And (e::rest) p) (.and x y):=by
 intro A env h₀ H ρ s Q E ok Y R q
 simp only[Jb,Jc,Jd,Je,Jf,Jg,Jh,Ji,Jj,Jk,Jl,Jm,Jn,Jo,Jp,Jq,Bq,Jr,Js,Jt,Ju,Jv,Aq,C9,Ar,An,Jw,Jx,Aw,Bw,Az,A9]at q
 refine isTrue_and (wpAny_mono (h (Q:=fun b H=>if b then Ay G (Ab G n) y ρ H (fun v H=>truthy v fun b=>Q b H) E else Q false H) ok Y R ?_) (fun b s' r=>?_) fun _ _ e=>e)
 ·refine cast ?_ q;congr 1
 ·refine Aa fun nY=>?_
  obtain⟨H',R',q'⟩:=r
  cases b
  ·refine nY ?_;clear nY
   exact⟨H',R',by simpa using q'⟩
  ·refine nY ?_;clear nY
   exact h2 ok Y R' (by simpa using q')
theorem Om{M:Model}{x:Expr}{rest:List Expr}{pos:Pos}{whole:Sem Value}{Q:Bool->Shared->Prop}
 (h:wpAny M A (isTrue x env (eval x env)) (fun c s'=>if c then Q true s' else wpAny M A (isTrue (.BoolOp .Or rest pos) env whole) Q E s') E s) :
 wpAny M A (isTrue (.BoolOp .Or (x::rest) pos) env whole) Q E s:=by
 show wpAny M A (do
  match BoolOp.Or,<-isTrue x env (eval x env)with
  | .And,false=>pure false
  | .Or,true=>pure true
  | _,_=>allTrue .Or rest env) Q E s
 refine wpAny_bind (wpAny_mono h (fun b s' r=>?_) fun _ _ e=>e)
 cases b
 ·exact r
 ·exact wpAny_pure r
theorem Abv{e:Expr}{rest:List Expr}{x y:X}{p:Pos}(h:ST W G n c e x)(h2:ST W G n c (.BoolOp .Or rest p) y):ST W G n c (.BoolOp .Or (e::rest) p) (.or x y):=by
 intro A env h₀ H ρ s Q E ok Y R q
 simp only[Jb,Jc,Jd,Je,Jf,Jg,Jh,Ji,Jj,Jk,Jl,Jm,Jn,Jo,Jp,Jq,Bq,Jr,Js,Jt,Ju,Jv,Aq,C9,Ar,An,Jw,Jx,Aw,Bw,Az,A9]at q
 refine Om (wpAny_mono (h (Q:=fun b H=>if b then Q true H else Ay G (Ab G n) y ρ H (fun v H=>truthy v fun b=>Q b H) E) ok Y R ?_) (fun b s' r=>?_) fun _ _ e=>e)
 ·refine cast ?_ q;congr 1
 ·obtain⟨H',R',q'⟩:=r
  cases b
  ·exact h2 ok Y R' (by simpa using q')
  ·exact⟨H',R',by simpa using q'⟩
theorem Aae{op:BoolOp}{e:Expr}{x:X}{p:Pos}(h:ST W G n c e x):ST W G n c (.BoolOp op [e] p) x:=by
 intro A env h₀ H ρ s Q E ok Y R q
 cases op
 ·refine isTrue_and (wpAny_mono (h ok Y R q) (fun b s' r=>?_) fun _ _ e=>e)
  refine Aa fun nY=>?_
  obtain⟨H',R',q'⟩:=r
  cases b
  ·refine nY ?_;clear nY
   exact⟨H',R',q'⟩
  ·refine nY ?_;clear nY
   exact isTrue_and_nil ⟨H',R',q'⟩
 ·refine Om (wpAny_mono (h ok Y R q) (fun b s' r=>?_) fun _ _ e=>e)
  refine Aa fun nY=>?_
  obtain⟨H',R',q'⟩:=r
  cases b
  ·refine nY ?_;clear nY
   exact wpAny_pure (a:=false) ⟨H',R',q'⟩
  ·refine nY ?_;clear nY
   exact⟨H',R',q'⟩
theorem Aaf{l r:Expr}{op:Operator}{x y:X}{p:Pos}(h:SE W G n c l x)(h2:SE W G n c r y):SE W G n c (.BinOp l op r p) (.bin op x y):=by
 intro A env h₀ H ρ s Q E ok Y R q
 simp only[Jb,Jc,Jd,Je,Jf,Jg,Jh,Ji,Jj,Jk,Jl,Jm,Jn,Jo,Jp,Jq,Bq,Jr,Js,Jt,Ju,Jv,Aq,C9,Ar,An,Jw,Jx,Aw,Bw,Az,A9]at q
 refine wpAny_BinOp (wpAny_mono (h ok Y R q) (fun v s' r=>?_) fun _ _ e=>e)
 refine Aa fun nY=>?_
 obtain⟨a,H',hv,R',q'⟩:=r
 refine nY ?_;clear nY
 refine wpAny_mono (h2 ok Y R' q') (fun v2 s2 r=>?_) fun _ _ e=>e
 refine Aa fun nY=>?_
 obtain⟨b,H2,hv2,R2,q2⟩:=r
 refine nY ?_;clear nY
 exact Qk Y R2 hv hv2 q2
theorem Aag{l r:Expr}{op:CmpOp}{x y:X}{p:Pos}(h:SE W G n c l x)(h2:SE W G n c r y)(hm:behindInMarks op r=false):SE W G n c (.Compare l [op] [r] p) (.cmp op x y):=by
 intro A env h₀ H ρ s Q E ok Y R q
 simp only[Jb,Jc,Jd,Je,Jf,Jg,Jh,Ji,Jj,Jk,Jl,Jm,Jn,Jo,Jp,Jq,Bq,Jr,Js,Jt,Ju,Jv,Aq,C9,Ar,An,Jw,Jx,Aw,Bw,Az,A9]at q
 refine wpAny_Compare1 (wpAny_mono (h ok Y R q) (fun v s' r=>?_) fun _ _ e=>e) hm
 refine Aa fun nY=>?_
 obtain⟨a,H',hv,R',q'⟩:=r
 refine nY ?_;clear nY
 refine wpAny_mono (h2 ok Y R' q') (fun v2 s2 r=>?_) fun _ _ e=>e
 refine Aa fun nY=>?_
 obtain⟨b,H2,hv2,R2,q2⟩:=r
 refine nY ?_;clear nY
 exact C3 ok Y R2 hv hv2 q2
theorem M7{v:Value}{Q:Bool->AH->Prop}(r:A7 W h₀ env names ρ (fun v H=>truthy v fun b=>Q b H) v s):wpAny W.M A (PySem.truthy v) (fun b s'=>∃H',Ak W h₀ env names H' ρ s'/\Q b H') E s:=by
 refine Aa fun nY=>?_
 obtain⟨a,H',hv,R',q'⟩:=r
 delta truthy at q'
 split at q'
 ·refine nY ?_;clear nY
  cases hv;exact wpAny_truthy_bool ⟨H',R',q'⟩
 ·exact q'.elim
theorem Aah{l r:Expr}{op:CmpOp}{x y:X}{p:Pos}(h:SE W G n c l x)(h2:SE W G n c r y)(hm:behindInMarks op r=false):ST W G n c (.Compare l [op] [r] p) (.cmp op x y):=by
 intro A env h₀ H ρ s Q E ok Y R q
 simp only[Jb,Jc,Jd,Je,Jf,Jg,Jh,Ji,Jj,Jk,Jl,Jm,Jn,Jo,Jp,Jq,Bq,Jr,Js,Jt,Ju,Jv,Aq,C9,Ar,An,Jw,Jx,Aw,Bw,Az,A9]at q
 refine wpAny_isTrue_Compare1 (wpAny_mono (h ok Y R q) (fun v s' r=>?_) fun _ _ e=>e) hm
 refine Aa fun nY=>?_
 obtain⟨a,H',hv,R',q'⟩:=r
 refine nY ?_;clear nY
 refine wpAny_mono (h2 ok Y R' q') (fun v2 s2 r=>?_) fun _ _ e=>e
 refine Aa fun nY=>?_
 obtain⟨b,H2,hv2,R2,q2⟩:=r
 refine nY ?_;clear nY
 exact wpAny_mono (C3 ok Y R2 hv hv2 q2) (fun v s' r=>M7 r) fun _ _ e=>e
theorem Wa{l m r:Expr}{o1 o2:CmpOp}{x y z:X}{p:Pos}(h:SE W G n c l x)(h2:SE W G n c m y)(h3:SE W G n c r z)(hm:lastMarks [o1,o2] [m,r]=false):SE W G n c (.Compare l [o1,o2] [m,r] p) (.chain x o1 y o2 z):=by
 intro A env h₀ H ρ s Q E ok Y R q
 simp only[Jb,Jc,Jd,Je,Jf,Jg,Jh,Ji,Jj,Jk,Jl,Jm,Jn,Jo,Jp,Jq,Bq,Jr,Js,Jt,Ju,Jv,Aq,C9,Ar,An,Jw,Jx,Aw,Bw,Az,A9]at q
 refine Compare_chain (wpAny_mono (h ok Y R q) (fun v s' r=>?_) fun _ _ e=>e) hm
 refine Aa fun nY=>?_
 obtain⟨a,H',hv,R',q'⟩:=r
 refine nY ?_;clear nY
 refine chain_link (wpAny_mono (h2 ok Y R' q') (fun v2 s2 r=>?_) fun _ _ e=>e)
 refine Aa fun nY=>?_
 obtain⟨b,H2,hv2,R2,q2⟩:=r
 refine nY ?_;clear nY
 refine wpAny_mono (C3 ok Y R2 hv hv2 q2) (fun v3 s3 r=>?_) fun _ _ e=>e
 refine Aa fun nY=>?_
 obtain⟨d,H3,hv3,R3,q3⟩:=r
 delta truthy at q3
 split at q3
 ·rename_i t
  cases hv3
  refine nY ?_;clear nY
  refine wpAny_truthy_bool ?_
  cases t
  ·exact A7.mk (.bool _) R3 (by simpa using q3)
  ·refine chain_last (wpAny_mono (h3 ok Y R3 (by simpa using q3)) (fun v4 s4 r=>?_) fun _ _ e=>e)
   refine Aa fun nY=>?_
   obtain⟨d,H4,hv4,R4,q4⟩:=r
   refine nY ?_;clear nY
   exact C3 ok Y R4 hv2 hv4 q4
 ·exact q3.elim
theorem Wb{l m r:Expr}{o1 o2:CmpOp}{x y z:X}{p:Pos}(h:SE W G n c l x)(h2:SE W G n c m y)(h3:SE W G n c r z)(hm:lastMarks [o1,o2] [m,r]=false):ST W G n c (.Compare l [o1,o2] [m,r] p) (.chain x o1 y o2 z):=by
 intro A env h₀ H ρ s Q E ok Y R q
 simp only[Jb,Jc,Jd,Je,Jf,Jg,Jh,Ji,Jj,Jk,Jl,Jm,Jn,Jo,Jp,Jq,Bq,Jr,Js,Jt,Ju,Jv,Aq,C9,Ar,An,Jw,Jx,Aw,Bw,Az,A9]at q
 refine isTrue_chain (wpAny_mono (h ok Y R q) (fun v s' r=>?_) fun _ _ e=>e) hm
 obtain⟨a,H',hv,R',q'⟩:=r
 refine test_link (wpAny_mono (h2 ok Y R' q') (fun v2 s2 r=>?_) fun _ _ e=>e)
 obtain⟨b,H2,hv2,R2,q2⟩:=r
 refine wpAny_mono (C3 ok Y R2 hv hv2 q2) (fun v3 s3 r=>?_) fun _ _ e=>e
 obtain⟨d,H3,hv3,R3,q3⟩:=r
 delta truthy at q3
 split at q3
 ·rename_i t
  cases hv3
  refine wpAny_truthy_bool ?_
  cases t
  ·exact⟨H3,R3,by simpa[truthy]using q3⟩
  ·refine test_last (wpAny_mono (h3 ok Y R3 (by simpa using q3)) (fun v4 s4 r=>?_) fun _ _ e=>e)
   obtain⟨d,H4,hv4,R4,q4⟩:=r
   exact wpAny_mono (C3 ok Y R4 hv2 hv4 q4) (fun v s' r=>M7 r) fun _ _ e=>e
 ·exact q3.elim
end Mine.Internal
namespace Mine.Internal
open PySem PySem.W PyProof.Rows
variable {W:Wd} {G:Ap} {A:Around} {h₀:HB} {env:Env} {c:Cx} {names:List Str} {H:AH} {ρ:Ao} {s:Shared} {E:Value->Shared->Prop} {n:Nat} {Q:Ad} {Er:EP}
theorem Me{ns:List Str}{vs:List Value}(hl:ns.length=vs.length)(n:Str)(h:n∈ns):((ns.zip vs).lookup n).isSome=true:=by
 induction ns generalizing vs with
 | nil=>cases h
 | cons a ns ih=>
   refine Aa fun nY=>?_
   cases vs with
   | nil=>cases hl
   | cons v vs=>
     refine nY ?_;clear nY
     rw[List.zip_cons_cons,List.lookup_cons]
     cases q:n==a with
     | true=>rfl
     | false=>
       refine Aa fun nY=>?_
       rcases List.mem_cons.mp h with rfl|h
       ·rw[beq_self_eq_true]at q;cases q
       ·refine nY ?_;clear nY
        exact ih (Nat.succ.inj hl) h
theorem Qx{α β:Type}{f g:α->Option β}:∀ {l:List α},(∀x∈l,f x=g x)->l.filterMap f=l.filterMap g
 | [],_=>rfl
 | a::l,h=>by rw[List.filterMap_cons,List.filterMap_cons,h a (.head _),Qx fun x hx=>h x (.tail _ hx)]
theorem N4{ns:List Str}{vs:List Value}(hl:ns.length=vs.length)(hn:ns.Nodup):ns.filterMap (fun n=>((ns.zip vs).lookup n).map (n,·))=ns.zip vs:=by
 induction ns generalizing vs with
 | nil=>rfl
 | cons a ns ih=>
   cases vs with
   | nil=>cases hl
   | cons v vs=>
     obtain⟨h1,h2⟩:=List.nodup_cons.mp hn
     simp only[List.zip_cons_cons,List.filterMap_cons,List.lookup_cons,beq_self_eq_true,Option.map_some]
     congr 1
     refine Eq.trans (Qx fun n hn=>?_) (ih (Nat.succ.inj hl) h2)
     have:(n==a)=false:=by simpa using fun q:n=a=>h1 (q▸hn)
     rw[this]
theorem Sh{fd:FuncData}{vs:List Value}(hp:E9 fd.params=true)(hd:fd.defaults = .none)(hl:fd.params.args.length=vs.length)(hn:(fd.params.args.map (·.arg)).Nodup) :
 bindArgs fd ⟨vs,[]⟩=pure ((fd.params.args.map (·.arg)).zip vs):=by
 unfold E9 at hp
 simp only[Bool.and_eq_true,List.isEmpty_iff,Option.isNone_iff_eq_none]at hp
 refine Aa fun nY=>?_
 obtain⟨⟨⟨⟨⟨h1,h2⟩,h3⟩,h4⟩,h5⟩,h6⟩:=hp
 have hl':(fd.params.args.map (·.arg)).length=vs.length:=by simpa using hl
 have e2:=N4 hl' hn
 have e1:∀k,((fd.params.args.map (·.arg)).take k).filter (fun n=>(((fd.params.args.map (·.arg)).zip vs).lookup n).isNone) = []:=by
  intro k
  rw[List.filter_eq_nil_iff];intro n h
  have:=Me hl' n (List.mem_of_mem_take h)
  cases q:((fd.params.args.map (·.arg)).zip vs).lookup n with
  | none=>rw[q]at this;cases this
  | some _=>simp
 refine nY ?_;clear nY
 have e3:¬(decide (vs.length>(fd.params.args.map (·.arg)).length)&&true)=true:=by simp;(first|lia|omega)
 clear hl hl' hn
 cases fd with|mk nm qn ps bd sc gl cl df kd pm cd=>
 cases ps with|mk a1 a2 a3 a4 a5 a6 a7=>
 dsimp only at h1 h2 h3 h4 h5 h6 hd e1 e2 e3 ⊢
 subst h1 h2 h3 h5 hd
 generalize hN:a2.map Arg.arg=N at *
 subst hN
 have e4:∀k,¬(!(((a2.map Arg.arg).take k).filter (fun n=>(((a2.map Arg.arg).zip vs).lookup n).isNone)).isEmpty)=true:=fun k=>by rw[e1 k];decide
 refine(if_neg (c:=(decide (vs.length>([]++a2.map Arg.arg).length)&&Option.isNone (none:Option Arg))=true) e3).trans ((if_neg (e4 _)).trans ?_)
 dsimp only[List.map_nil,List.nil_append,List.toList_toArray,Option.getD_none,List.length_nil]
 rw[List.drop_nil,List.zip_nil_right]
 show (pure:List (Str×Value)->Sem (List (Str×Value))) (List.filterMap (fun n=>(((a2.map Arg.arg).zip vs).lookup n).map (n,·)) (a2.map Arg.arg ++ []))=_
 rw[List.append_nil,e2]
noncomputable def NS(es:List Expr):Prop:=∀e∈es,∀v p,e≠ .Starred v p
theorem NS.plain{es:List Expr}(h:NS es){pos:Pos}{env:Env}:(backTo pos (starEach es env)).any (·.1)=false:=by
 induction es with
 | nil=>rfl
 | cons e r ih=>
   rw[Bd (h e (.head _))]
   show (false||(backTo pos (starEach r env)).any (·.1))=false
   rw[ih fun e he=>h e (.tail _ he)];rfl
theorem Ei{es:List Expr}{xs:List X}(h:Rp W G n c es xs)(hn:NS es)(ok:Ky A c h₀ env n)(Y:Ac W env c h₀)(R:Ak W h₀ env c.names H ρ s){f:Value}{pos:Pos}{Q:List V->AH->Prop}(q:Dj G (Ab G n) xs ρ H Q Er)
 {Q':Args->Shared->Prop} (hq:∀as us H' s',Dc W as us->Ak W h₀ env c.names H' ρ s'->Q as H'->Q' ⟨us,[]⟩ s'):wpAny W.M A (evalArgs f true (backTo pos (starEach es env)) []) Q' (EM W h₀ env c.names ρ Er) s:=by
 have z:=h (pos:=pos) ok Y R q
 have z':wpAny W.M A (spliced (backTo pos (starEach es env))) (fun us s'=>Q' ⟨us,[]⟩ s') (EM W h₀ env c.names ρ Er) s:=
  wpAny_mono z (fun us s' r=>by obtain⟨as,H',h1,_,h2,h3⟩:=r;exact hq as us H' s' h1 h2 h3) fun _ _ e=>e
 cases es with
 | nil=>
   unfold evalArgs
   show wpAny W.M A (spliced [] >>= _) Q' (EM W h₀ env c.names ρ Er) s
   refine wpAny_bind (wpAny_mono z' (fun vs s' h'=>?_) fun _ _ e=>e)
   refine wpAny_holding ?_
   exact wpAny_bind (wpAny_pure (wpAny_bind (wpAny_pure (wpAny_pure h'))))
 | cons e r=>
   rw[Bd (hn e (.head _))]at z' ⊢
   exact Calls.evalArgs_plain z'
theorem F0.keep(g:F0 W G)(Y:Ac W env c h₀)(R:Ak W h₀ env names H ρ s):W.K.In s.heap:=fun a o e=>R.keepB Y a o (g.X a o e)
theorem Yk(g:F0 W G)(hf:c.hnd=false)(sc:SC W G n){f:Str}{p pos:Pos}{es:List Expr}{xs:List X}(hg:c.global f=true)(hd:(f==("__debug__" :Str))=false)(hbx:Kr f=false)(ho:Ef f=none)(hs:Rp W G n c es xs)(hn:NS es):SE W G n c (.Call (.Name f p) es [] pos) (.call f xs):=by
 intro A env h₀ H ρ s Q E ok Y R q
 simp only[Jb,Jc,Jd,Je,Jf,Jg,Jh,Ji,Jj,Jk,Jl,Jm,Jn,Jo,Jp,Jq,Bq,Jr,Js,Jt,Ju,Jv,Aq,C9,Ar,An,Jw,Jx,Aw,Bw,Az,A9]at q
 refine Aa fun nY=>?_
 obtain⟨d,hd'⟩:=Option.isSome_iff_exists.mp q.1
 obtain⟨fa,h1,name,qual,params,body,scope,doc,pm,cdv,ct,oc,an,od,osl,F⟩:=g.fn f d hd'
 refine nY ?_;clear nY
 refine Call_ (C4 g Y R hg hd (Oe hbx▸Kz ho h1) ?_)
 refine Calls.callWith_function (Ei hs hn ok Y R q.2 fun as us H' s' hv R' q'=>⟨⟨g.keep Y R' _ _ F.at_,rfl⟩,?_⟩)
 exact wpAny_call (sc (fun _=>ok.handled hf) (by have:=ok.room;(first|lia|omega)) (by have:=ok.units;(first|lia|omega)) ok.stk Y R' h1 hv q')
theorem Wc(g:F0 W G)(sc:SC W G n){f y:Str}{p pos:Pos}{es:List Expr}{xs:List X}(hg:c.global f=true)(hy:hOf f=some y)(hs:Rp W G n c es xs)(hn:NS es):SE W G n c (.Call (.Name f p) es [] pos) (.call y xs):=by
 obtain⟨y1,y2,y3,y4⟩:=Z4 hy
 intro A env h₀ H ρ s Q E ok Y R q
 rw[Jp]at q
 obtain⟨d,hd'⟩:=Option.isSome_iff_exists.mp q.1
 obtain⟨fa,h1,name,qual,params,body,scope,doc,pm,cdv,ct,oc,an,od,osl,F⟩:=g.fn y d hd'
 refine Call_ (C4 g Y R hg y4 (y2▸Kz y3 h1) ?_)
 refine Calls.callWith_function (Ei hs hn ok Y R q.2 fun as us H' s' hv R' q'=>⟨⟨g.keep Y R' _ _ F.at_,rfl⟩,?_⟩)
 exact wpAny_call (sc (fun h=>by rw[y1]at h;cases h) (by have:=ok.room;(first|lia|omega)) (by have:=ok.units;(first|lia|omega)) ok.stk Y R' h1 hv q')
theorem Pj{o:Expr}{a:Str}{whole:Sem Value}(h:Hj o=true):attributeBase o a env whole=whole:=by
 cases o<;>try rfl
 case Call f args kw p=>
  cases f<;>try rfl
  case Name x q=>
   cases args with
   | cons _ _=>rfl
   | nil=>
     cases kw with
     | cons _ _=>rfl
     | nil=>cases h
theorem Ue{fs:List (C6×V)}{es:List DictEntry}(h:Ub W fs es){m:Str}(hm:∀a,Ax a≠m):getL m es=some none:=by
 have h1:es.find? (·.key.isStr m)=none/\es.any (·.refKey)=false:=by
  induction h with
  | nil=>exact⟨rfl,rfl⟩
  | cons h1 h2 h3 h4 ih=>
    obtain⟨t,ht⟩:=h2
    refine⟨?_,?_⟩
    ·rw[List.find?_cons,ht,Hn (hm _)];exact ih.1
    ·rw[List.any_cons,ih.2]
     simp[DictEntry.refKey,ht]
 unfold getL
 rw[h1.1,h1.2];rfl
theorem Tk{cc:Cp}(h:cc = .web\/cc = .verdict):Ef (G0 cc)=some (cc,("__init__" :Str)):=by rcases h with rfl|rfl<;>decide
theorem M8{f m:Str}{cc:Cp}{fa:Addr}(ho:Ef f=some (cc,m))(h:Ex W f=some fa):findIn W.K (.ref (W.cl cc)) m=some (some (.ref fa)):=by
 delta Ex at h
 rw[ho]at h
 simp only at h
 refine Aa fun nY=>?_
 split at h
 ·refine nY ?_;clear nY
  rename_i e;cases h;exact e
 ·cases h
theorem Yg.isFn{hb:Bool}{fa:Addr}{d name qual params body scope doc pm cdv ct oc an od osl}(F:Yg W hb fa d name qual params body scope doc pm cdv ct oc an od osl):isFn W.K (.ref fa)=true:=by
 have:=F.at_
 rw[F.typ]at this
 unfold PySem.W.isFn typeIn
 simp only[this];rfl
theorem Yl(g:F0 W G)(hf:c.hnd=false)(sc:SC W G n){o:Expr}{m f:Str}{ap pos:Pos}{y:X}{es:List Expr}{xs:List X}(hb:Hj o=true)(hl:(ap.endLine==pos.line)=true)(hfew:es.length<3)(ho:Ef f=some (.web,m))(h:SE W G n c o y)(hs:Rp W G n c es xs)(hn:NS es) :
 SE W G n c (.Call (.Attribute o m ap) es [] pos) (.meth f y xs):=by
 intro A env h₀ H ρ s Q E ok Y R q
 simp only[Jb,Jc,Jd,Je,Jf,Jg,Jh,Ji,Jj,Jk,Jl,Jm,Jn,Jo,Jp,Jq,Bq,Jr,Js,Jt,Ju,Jv,Aq,C9,Ar,An,Jw,Jx,Aw,Bw,Az,A9]at q
 rw[arm_eval_Call,Pj hb]
 refine wpAny_bind (wpAny_mono (h ok Y R q) (fun ov s₁ r=>wpAny_bind (wpAny_standAt ?_)) fun _ _ e=>e)
 refine Aa fun nY=>?_
 obtain⟨a,H',hv,R',q'⟩:=r
 refine nY ?_;clear nY
 apply Eh hv q';intro x q';refine Yc q' fun dd e1 q'=>?_;refine Sa q' fun fs e2 q'=>?_
 refine Aa fun nY=>?_
 obtain⟨hsome,q'⟩:=q'
 obtain⟨d,hd'⟩:=Option.isSome_iff_exists.mp hsome
 obtain⟨fa,h1,name,qual,params,body,scope,doc,pm,cdv,ct,oc,an,od,osl,F⟩:=g.fn f d hd'
 obtain⟨hp,hat⟩:=g.meth f m fa ho h1
 have hform:methodCallForm (es.length+([]:List Keyword).length) (backTo pos (starEach es env)) (backToKw pos (keywordEach [] env))=true:=by
  unfold methodCallForm
  have:(backTo pos (starEach es env)).all (fun x=> !x.1)=true:=by
   have:=hn.plain (pos:=pos) (env:=env)
   rw[List.any_eq_false]at this
   rw[List.all_eq_true];intro x hx;simpa using this x hx
  rw[this]
  have:es.length+0+0<30:=by(first|lia|omega)
  simpa[show backToKw pos (keywordEach [] env) = []from rfl]using this
 refine nY ?_;clear nY
 have hpos:methodCallPos true o env ap pos=pure pos:=by unfold methodCallPos;simp[hl]
 unfold methodCall
 rw[hform]
 refine Aa fun nY=>?_
 obtain⟨mm,FF⟩:=R'.kitF Y
 obtain⟨ob1,o1,o2⟩:=R'.objs _ _ e1
 obtain⟨ob2,o3,o4⟩:=R'.objs _ _ e2
 cases o2
 cases o4 with
 | ns hns hz=>
 have I:PySem.W.InstAt s₁.heap x (instObj (W.cl .web) dd) (W.cl .web) (some (dictOf _ _)):=⟨o1,rfl,rfl,o3⟩
 refine nY ?_;clear nY
 refine wpAny_bind (wpAny_holding (method_inst FF g.X I hp (M8 ho h1) F.isFn (Ue hns hat) ?_))
 refine wpAny_bind (wpAny_of_eq hpos ?_)
 refine Calls.callWith_function (Ei hs hn ok Y R' q' fun as us H' s' hv R' q'=>⟨⟨g.keep Y R' _ _ F.at_,rfl⟩,?_⟩)
 exact wpAny_call (sc (fun _=>ok.handled hf) (by have:=ok.room;(first|lia|omega)) (by have:=ok.units;(first|lia|omega)) ok.stk Y R' h1 (.cons (.ref _) hv) q')
theorem Pk(C:Addr)(rest:List Value):(Code.builtin "type.__call__" ⟨.ref C::rest,[]⟩).weight<=1:=by
 first|exact(show (0:Nat)<=1 by decide)|exact(show (1:Nat)<=1 by decide)
theorem Qy(a:Args):(Code.builtin "type.__call__" a).cUnits=1:=by kernel_rfl
theorem Zt(g:F0 W G)(hf:c.hnd=false)(sc:SC W G n){cc:Cp}{x:Str}{p pos:Pos}{es:List Expr}{xs:List X}(hcc:(cc = .web/\x = "Web")\/(cc = .verdict/\x = "Verdict"))(hg:c.global x=true)(hs:Rp W G n c es xs)(hn:NS es) :
 SE W G n c (.Call (.Name x p) es [] pos) (.mk cc xs):=by
 intro A env h₀ H ρ s Q E ok Y R q
 simp only[Jb,Jc,Jd,Je,Jf,Jg,Jh,Ji,Jj,Jk,Jl,Jm,Jn,Jo,Jp,Jq,Bq,Jr,Js,Jt,Ju,Jv,Aq,C9,Ar,An,Jw,Jx,Aw,Bw,Az,A9]at q
 have hc':cc = .web\/cc = .verdict:=hcc.elim (fun h=> .inl h.1) fun h=> .inr h.1
 obtain⟨d,hd'⟩:=Option.isSome_iff_exists.mp q.1
 obtain⟨fa,h1,name,qual,params,body,scope,doc,pm,cdv,ct,oc,an,od,osl,F⟩:=g.fn _ d hd'
 obtain⟨hm1,hm2⟩:=g.make cc hc' q.1
 have hns:nsIn W.K mainGlobals x=some (some (.ref (W.cl cc))):=by rcases hcc with⟨rfl,rfl⟩ | ⟨rfl,rfl⟩<;>exact hm1
 have hk:keepIn W.K (.ref (W.cl cc))=true:=by
  unfold makesIn at hm2
  split at hm2
  ·rename_i e
   simp only[keepIn,e]
   simp only[Bool.and_eq_true]at hm2
   exact hm2.1.2
  ·cases hm2
 refine Call_ (C4 g Y R hg (by rcases hcc with⟨rfl,rfl⟩ | ⟨rfl,rfl⟩<;>decide) hns ?_)
 refine callWith_of (P:=W.K.In) (by simp[hn.plain]) (keeps_K hk) (Ei hs hn ok Y R q.2 fun as us H' s' hv R' q'=>⟨g.keep Y R',?_⟩)
 refine wpAny_call ?_
 have X:=g.keep Y R'
 obtain⟨hh,gg,dd,tt,oo⟩:=s'
 refine make_core (makes_of X hm2) (looks_findIn X (M8 (Tk hc') h1)) (fun self=>bind_fn X self (beq_iff_eq.mp F.isFn)) (.inl rfl) ?_
 have hn1:=R'.fresh
 have R1:=R'.push (o:= .ns []) (ob:=emptyDict) (OR.ns (es:=[]) .nil (by simp)) rfl tt
 have hn2:=R1.fresh
 simp only[Heap.size_push]at hn1 hn2
 have hn3:H' (hh.objs.size+1)=none:=by
  unfold upd at hn2
  simp at hn2
  exact hn2
 have R2:=R1.push (o:= .inst cc hh.objs.size) (ob:=instObj (W.cl cc) hh.objs.size) (.inst hc') rfl tt
 simp only[Heap.size_push]at R2
 have q2:=q' (hh.objs.size+1) hh.objs.size hn3 hn1 (by(first|lia|omega))
 refine codeAny_mono (sc (Q:=fun r H'=>r = .none/\Q (.ref (hh.objs.size+1)) H') (E:=E) ?_ ?_ ?_ ok.stk Y R2 h1 (.cons (.ref _) hv) q2) fun r s' z=>?_
 ·exact fun _=>ok.handled hf
 ·have:=ok.room;show A.depth+Code.weight _+_+_<_;refine Nat.lt_of_le_of_lt (Nat.add_le_add_right (Nat.add_le_add_right (Nat.add_le_add_left (Pk _ _) _) _) _) ?_;(first|lia|omega)
 ·have:=ok.units;show A.units+Code.cUnits _+_+_<_;rw[Qy];(first|lia|omega)
 ·rcases r with e|(v|_|_|_)<;>first|exact z|exact z.elim|skip
  obtain⟨a,H3,hv3,R3,e3,q3⟩:=z
  subst e3
  cases hv3
  exact⟨rfl,A7.mk (.ref _) R3 q3⟩
end Mine.Internal
namespace Mine.Internal
open PySem PySem.W PyProof.Rows
variable {W:Wd} {G:Ap} {A:Around} {h₀:HB} {env:Env} {c:Cx} {names:List Str} {H:AH} {ρ:Ao} {s:Shared} {E:Value->Shared->Prop} {n:Nat} {Q:Ad} {Er:EP}
noncomputable def Abw(x:Str)(b:BI):Prop:=x∈H9/\bootBuiltins x=some (Zs b)/\x≠ "__name__" /\(x==("__debug__" :Str))=false
theorem Aai:∀p∈Vp,Abw p.1 p.2.2/\(M4 p.2.2=true\/p.2.2 = .str\/p.2.2 = .int):=
 List.forall_mem_cons.mpr ⟨⟨⟨by decide,by kernel_rfl,by decide,by decide⟩,by decide⟩,List.forall_mem_cons.mpr ⟨⟨⟨by decide,by kernel_rfl,by decide,by decide⟩,by decide⟩,List.forall_mem_cons.mpr ⟨⟨⟨by decide,by kernel_rfl,by decide,by decide⟩,by decide⟩,List.forall_mem_cons.mpr ⟨⟨⟨by decide,by kernel_rfl,by decide,by decide⟩,by decide⟩,List.forall_mem_cons.mpr ⟨⟨⟨by decide,by kernel_rfl,by decide,by decide⟩,by decide⟩,List.forall_mem_cons.mpr ⟨⟨⟨by decide,by kernel_rfl,by decide,by decide⟩,by decide⟩,List.forall_mem_cons.mpr ⟨⟨⟨by decide,by kernel_rfl,by decide,by decide⟩,by decide⟩,List.forall_mem_cons.mpr ⟨⟨⟨by decide,by kernel_rfl,by decide,by decide⟩,by decide⟩,List.forall_mem_cons.mpr ⟨⟨⟨by decide,by kernel_rfl,by decide,by decide⟩,by decide⟩,List.forall_mem_cons.mpr ⟨⟨⟨by decide,by kernel_rfl,by decide,by decide⟩,by decide⟩,nofun⟩⟩⟩⟩⟩⟩⟩⟩⟩⟩
theorem We{x:Str}{k:Nat}{b:BI}(h:X4 x k=some b):Abw x b/\(M4 b=true\/b = .str\/b = .int):=Aai (x,(k,b)) (Qc h)
theorem M9(g:F0 W G)(Y:Ac W env c h₀)(R:Ak W h₀ env names H ρ s){x:Str}{p pos:Pos}{v:Value}{es:List Expr}{Q:Value->Shared->Prop}(hv:(∃i,v = .builtin i)\/∃i,v = .type i)(hg:c.global x=true)(hd:(x==("__debug__" :Str))=false)(hx:x∈H9)
 (hb:bootBuiltins x=some v) (hnm:x≠ "__name__") (hn:NS es) (h:wpAny W.M A (evalArgs v true (backTo pos (starEach es env)) []) (fun a s₁=>wpAny W.M A (call v a.pos a.kw) Q E s₁) E s) :
 wpAny W.M A (eval (.Call (.Name x p) es [] pos) env) Q E s:=by
 refine Call_ (I4 g Y R hg hd hx hb hnm ?_)
 rcases hv with⟨i,rfl⟩ | ⟨i,rfl⟩
 ·exact Calls.callWith_builtin hn.plain h
 ·exact PySem.callWith_type hn.plain h
theorem Abx(g:F0 W G)(hf:c.hnd=false){b:BI}{x:Str}{p pos:Pos}{es:List Expr}{xs:List X}(hb:X4 x es.length=some b)(hg:c.global x=true)(hs:Rp W G n c es xs)(hn:NS es) :
 SE W G n c (.Call (.Name x p) es [] pos) (.bi b xs):=by
 intro A env h₀ H ρ s Q E ok Y R q
 simp only[Jb,Jc,Jd,Je,Jf,Jg,Jh,Ji,Jj,Jk,Jl,Jm,Jn,Jo,Jp,Jq,Bq,Jr,Js,Jt,Ju,Jv,Aq,C9,Ar,An,Jw,Jx,Aw,Bw,Az,A9]at q
 refine Aa fun nY=>?_
 obtain⟨⟨h1,h2,h3,h4⟩,hd⟩:=We hb
 refine nY ?_;clear nY
 refine M9 g Y R ?_ hg h4 h1 h2 h3 hn (Ei hs hn ok Y R q fun as us H' s' hv R' q'=>?_)
 ·cases b<;>first|exact .inl ⟨_,rfl⟩|exact .inr ⟨_,rfl⟩|(rcases hd with hd|hd|hd<;>cases hd)
 ·refine Aa fun nY=>?_
  rcases hd with hd|rfl|rfl
  ·refine nY ?_;clear nY
   exact Se ok hf Y R' hd hv q'
  ·replace q':Zk as H' Q:=q'
   refine nY ?_;clear nY
   apply L5 hv q';intro v u h q;apply Au h q;intro i t q
   refine str_of_int_fit (N:=100) (by split<;>(first|lia|omega)) (by decide) fun _=>?_
   rw[Z5 q.1.1 q.1.2]
   exact A7.mk (.str _ _) (R'.toks _) q.2
  ·replace q':Zj as H' Q:=q'
   refine nY ?_;clear nY
   apply L5 hv q'
   intro v u h q
   induction h with
   | bool b=>exact PySem.call_int_bool (A7.mk (.int _ _) (R'.toks _) q)
   | str x t=>
     refine B5 q fun i e q=>?_
     refine KIN.call_text (Z6 e) ?_ (A7.mk (.int _ _) (R'.toks _) q)
     show x.length<=640
     refine Aa fun nY=>?_
     rcases x with _ | ⟨a,_ | ⟨b,_ | ⟨d,r⟩⟩⟩
     ·refine nY ?_;clear nY
      exact Nat.zero_le _
     ·refine nY ?_;clear nY
      exact(by decide:1<=640)
     ·refine nY ?_;clear nY
      exact(by decide:2<=640)
     ·cases e
   | _=>exact False.elim q
theorem Wg{x:Str}{t:Ty}(h:Vo x=some t)(hp:E2 t=true):(x = "int" /\t = .int)\/(x = "bool" /\t = .bool)\/(x = "list" /\t = .list)\/(x = "tuple" /\t = .tuple)\/(x = "str" /\t = .str):=
 (by decide:∀p∈Ta,E2 p.2=true->(p.1 = "int" /\p.2 = .int)\/(p.1 = "bool" /\p.2 = .bool)\/(p.1 = "list" /\p.2 = .list)\/(p.1 = "tuple" /\p.2 = .tuple)\/(p.1 = "str" /\p.2 = .str)) (x,t) (E8 h) hp
theorem Wh{x:Str}{t:Ty}(h:Vo x=some t)(hp:E2 t=true):x∈H9/\bootBuiltins x=some (V5 W t)/\x≠ "__name__" /\(x==("__debug__" :Str))=false:=by
 rcases Wg h hp with⟨rfl,rfl⟩ | ⟨rfl,rfl⟩ | ⟨rfl,rfl⟩ | ⟨rfl,rfl⟩ | ⟨rfl,rfl⟩<;>exact⟨by decide,by kernel_rfl,by decide,by decide⟩
theorem Aby(g:F0 W G)(Y:Ac W env c h₀)(R:Ak W h₀ env names H ρ s){t:Ty}{tn:Str}{tp:Pos}(ht:Vo tn=some t)(hp:E2 t=true)(hgt:c.global tn=true){Q:Value->Shared->Prop}(h:Q (V5 W t) s):wpAny W.M A (eval (.Name tn tp) env) Q E s:=by
 obtain⟨t1,t2,t3,t4⟩:=Wh (W:=W) ht hp
 exact I4 g Y R hgt t4 t1 t2 t3 h
theorem Uf(g:F0 W G){t:Ty}{tn:Str}{p tp pos:Pos}{e:Expr}{x:X}(ht:Vo tn=some t)(hg:c.global "isinstance" = true)(hgt:c.global tn=true)(h:SE W G n c e x)(hn:∀v p,e≠ .Starred v p) :
 SE W G n c (.Call (.Name "isinstance" p) [e,.Name tn tp] [] pos) (.bi (.isinst t) [x]):=by
 intro A env h₀ H ρ s Q E ok Y R q
 simp only[Jb,Jc,Jd,Je,Jf,Jg,Jh,Ji,Jj,Jk,Jl,Jm,Jn,Jo,Jp,Jq,Bq,Jr,Js,Jt,Ju,Jv,Aq,C9,Ar,An,Jw,Jx,Aw,Bw,Az,A9]at q
 refine M9 g Y R (.inl ⟨"isinstance",rfl⟩) hg (by decide) (by decide) (by kernel_rfl) (by decide) ?_ ?_
 ·intro e' he' v p' q'
  refine Aa fun nY=>?_
  rcases List.mem_cons.mp he' with rfl|he'
  ·refine nY ?_;clear nY
   exact hn _ _ q'
  ·rcases List.mem_cons.mp he' with rfl|he'
   ·cases q'
   ·cases he'
 ·rw[Bd hn,Bd (fun _ _ q=>by cases q)]
  refine Calls.evalArgs_plain (Calls.spliced_cons (wpAny_mono (h ok Y R q) (fun u s' r=>?_) fun _ _ e=>e))
  refine Aa fun nY=>?_
  obtain⟨a,H',hv,R',q'⟩:=r
  obtain⟨hp,q'⟩:=q'
  refine nY ?_;clear nY
  refine Calls.spliced_cons (Aby g Y R' ht hp hgt (Calls.spliced_nil ?_))
  refine Aa fun nY=>?_
  split at q'
  ·rename_i r e
   refine nY ?_;clear nY
   exact Pf R' hp hv e q'
  ·exact q'.elim
/-! own exceptions -/
section
variable {prog:Program} {w:World} {E:Value->Shared->Prop} {h:Heap} {g:Array GenState} {d:Drawn} {t:Nat} {os:OsState}
variable {nm q:Str} {C N:Addr} {bs bm:List Value} {hdct:Bool} {sn:List Str} {sub:List Value} {ab:Bool} {col:Option Bool} {dd:Option Addr} {k0 k1 k2 k3 k5:Option Value} {newId:String}
variable {nm' q':Str} {C' N':Addr} {bs' bm':List Value} {hdct':Bool} {sn':List Str} {sub':List Value} {ab':Bool} {col':Option Bool} {dd':Option Addr} {k0' k1' k2' k3' k5':Option Value} {newId':String}
set_option maxRecDepth 100000
theorem Wi{e:Addr}{oe:Obj}{Q:Value->Shared->Prop}(hC:h.get? C=some (excClassObj nm q C N bs bm hdct sn sub ab col dd k0 k1 k2 k3 k5 newId))(he:h.get? e=some oe)(hcls:oe.cls = .ref C)
 (hb:bm.contains (.type "ValueError")=true) (hq:Q (.bool true) ⟨h,g,d,t,os⟩):wpAny (model prog w) A (call (.builtin "isinstance") [.ref e,.type "ValueError"]) Q E ⟨h,g,d,t,os⟩:=by
 have hc:(Value.ref C::bm).contains (.type "ValueError")=true:=by rw[List.contains_cons,hb,Bool.or_true]
 have hty:typeOf (.type "ValueError")=pure (.type "type"):=by kernel_rfl
 refine call_isinstance_of ?_
 unfold Builtin.«isinstance.nested»
 repeat (first|(with_reducible refine wpAny_loadPart_at he ?_;rw[hcls])|(with_reducible refine wpAny_isSubtype_exc hC ?_;rw[hc])|wp_step)
 exact hq
theorem Ug{e:Addr}{oe:Obj}{Q:Value->Shared->Prop}(hC:h.get? C=some (excClassObj nm q C N bs bm hdct sn sub ab col dd k0 k1 k2 k3 k5 newId))(he:h.get? e=some oe)(hcls:oe.cls = .ref C)
 (hC':h.get? C'=some (excClassObj nm' q' C' N' bs' bm' hdct' sn' sub' ab' col' dd' k0' k1' k2' k3' k5' newId'))
 (hb:(Value.ref C::bm).contains (.ref C')=true) (hq:Q (.bool true) ⟨h,g,d,t,os⟩):wpAny (model prog w) A (call (.builtin "isinstance") [.ref e,.ref C']) Q E ⟨h,g,d,t,os⟩:=by
 refine call_isinstance_of ?_
 unfold Builtin.«isinstance.nested»
 refine Aa fun nY=>?_
 by_cases z:(Value.ref C==Value.ref C')=true
 ·refine nY ?_;clear nY
  repeat (first|(with_reducible refine wpAny_loadPart_at he ?_;rw[hcls])|(with_reducible refine wpAny_isSubtype_exc hC ?_;rw[hb])|wp_step)
  exact hq
 ·have z':(Value.ref C==Value.ref C')=false:=by simpa using z
  refine nY ?_;clear nY
  repeat (first|(with_reducible refine wpAny_loadPart_at he ?_;rw[hcls])|with_reducible refine wpAny_loadPart_at hC' ?_|(with_reducible refine wpAny_isSubtype_exc hC ?_;rw[hb])|wp_step)
  exact hq
theorem L7{M:Model}{e:Addr}{oe:Obj}{Q:Bool->Shared->Prop}{b:Bool}(hC:h.get? C=some (excClassObj nm q C N bs bm hdct sn sub ab col dd k0 k1 k2 k3 k5 newId))(he:h.get? e=some oe)(hcls:oe.cls = .ref C)
 (hC':h.get? C'=some (excClassObj nm' q' C' N' bs' bm' hdct' sn' sub' ab' col' dd' k0' k1' k2' k3' k5' newId')) (hbase:bm'.contains (.type "BaseException")=true) (hb:(Value.ref C::bm).contains (.ref C')=b)
 (hq:Q b ⟨h,g,d,t,os⟩):wpAny M A (excMatches (.ref e) (.ref C')) Q E ⟨h,g,d,t,os⟩:=by
 have hcB:(Value.ref C'::bm').contains (.type "BaseException")=true:=by rw[List.contains_cons,hbase,Bool.or_true]
 have f:=tc_notTuple
 unfold excMatches
 cases b<;>(
 repeat (first|(with_reducible refine wpAny_loadPart_at he ?_;rw[hcls])|with_reducible refine wpAny_loadPart_at hC' ?_|(with_reducible refine wpAny_isSubtype_exc hC' ?_;rw[hcB])|(with_reducible refine wpAny_isSubtype_exc hC ?_;rw[hb])|wp_step)
 exact hq)
end
inductive Fb(h:Heap)(bmB:List Value):List Value->Prop
 | base:Fb h bmB bmB
 | own {A:Addr} {c0:Value} {dd:Option Addr} {cd:ClassData} {sl:Array (Option Value)} {mA:Str->Option Value} {tl:List Value} :
    h.get? A=some {cls:=c0,dict:=dd,data:= .cls cd,slots:=sl} ->h.Ns cd.ns mA->(∀n∈I2,mA n=none)->Fb h bmB tl->Fb h bmB (.ref A::tl)
section
set_option maxRecDepth 100000
variable {prog:Program} {w:World} {A:Around} {E:Value->Shared->Prop} {h:Heap} {g:Array GenState} {d:Drawn} {t:Nat} {os:OsState} {a:Addr} {o:Obj}
 {nm q:Str} {C N:Addr} {bs bm bmB:List Value} {hdct:Bool} {sn:List Str} {sub:List Value} {ab:Bool} {col:Option Bool} {dd:Option Addr} {k0 k1 k2 k3 k5:Option Value} {B newId:String}
 {nm' q':Str} {C' N':Addr} {bs' bm':List Value} {hdct':Bool} {sn':List Str} {sub':List Value} {ab':Bool} {col':Option Bool} {dd':Option Addr} {k0' k1' k2' k3' k5':Option Value} {newId':String}
theorem Qz{M:Model}{tl:List Value}{n:Str}{y:Option Value}{Q:Option Value->Shared->Prop}(hn:n∈I2)(T:Fb h bmB tl)(hrest:lookupAlong bmB n=pure y)(hq:Q y ⟨h,g,d,t,os⟩) :
 wpAny M A (lookupAlong tl n) Q E ⟨h,g,d,t,os⟩:=by
 induction T with
 | base=>rw[hrest];exact wpAny_pure hq
 | own hA hN hni _ ih=>
   rw[lookupAlong_cons]
   refine wpAny_bind (wpAny_classOwn_cls hA hN ?_)
   rw[hni n hn]
   exact ih
theorem I5{M:Model}{n:Str}{y:Option Value}{Q:Option Value->Shared->Prop}(hn:n∈I2)
 (hC:h.get? C=some (excClassObj nm q C N bs bm hdct sn sub ab col dd k0 k1 k2 k3 k5 newId)) (T:Fb h bmB (.ref C::bm)) (hbm:mroOf (.type B)=pure bmB)
 (hB:typeLookup (.type B) n=pure y) (hq:Q y ⟨h,g,d,t,os⟩):wpAny M A (typeLookup (.ref C) n) Q E ⟨h,g,d,t,os⟩:=by
 have hrest:lookupAlong bmB n=pure y:=by rw[typeLookup_eq,hbm]at hB;exact hB
 rw[typeLookup_eq]
 exact wpAny_bind (wpAny_mroOf_exc hC (Qz hn T hrest hq))
theorem Wj:typeLookup (.type "ValueError") "__class__" = pure (some (.builtin "object.__class__")):=by rw[typeLookup_type,builtinLookup_eq_fast];kernel_rfl
theorem N5{R:Result->Shared->Prop}(hC:h.get? C=some (excClassObj nm q C N bs bm hdct sn sub ab col dd k0 k1 k2 k3 k5 newId))(hob:bm.contains (.type "object")=true)
 (hx:h.get? a=some o) (hc:o.cls = .ref C) (hq:R (.ok (.ret (.ref C))) ⟨h,g,d,t,os⟩) :
 codeAny (model prog w) A (.call (.builtin "getset_descriptor.__get__") ⟨[.builtin "object.__class__",.ref a,.ref C],[]⟩) R ⟨h,g,d,t,os⟩:=by
 have hT5:(⟨h,g,d,t,os⟩:Shared).TypeIs (.builtin "object.__class__") "getset_descriptor" :=F.typeOf_object_class
 have hcB:(Value.ref C::bm).contains (.type (".".intercalate ("object.__class__".cutAt '.').dropLast))=true:=by
  rw[F.owner_object_class,List.contains_cons,hob];rfl
 refine codeAny_call_builtin F.slot_gs_get.plain F.entry_gs_get (F.slot_gs_get.check _ _ _ _ _ _ _ _ hT5 (F.args_gs_get _ _ _) ?_)
 repeat (any_goals (first|assumption|(with_reducible refine wpAny_loadPart_at hx ?_;rw[hc])|(with_reducible refine wpAny_isSubtype_exc hC ?_;rw[hcB])|wp_step))
 refine⟨Code.quiet_builtin _ (by decide +kernel),codeAny_builtin F.entry_object_class ?_⟩
 repeat (any_goals (first|assumption|(with_reducible refine wpAny_loadPart_at hx ?_;rw[hc])|wp_step))
theorem Mf{tk:Tok}{Q:Fin->Shared->Prop}(hC:h.get? C=some (excClassObj nm q C N bs bm hdct sn sub ab col dd k0 k1 k2 k3 k5 newId))(T:Fb h VE (.ref C::bm))(hob:bm.contains (.type "object")=true)
 (hx:h.get? a=some o) (hc:o.cls = .ref C) (hq:Q (.done (.ret (.ref C))) ⟨h,g,d,t,os⟩) :
 wpAny (model prog w) A (Builtin.«object.__getattribute__» ⟨[.ref a,.str "__class__" tk],[]⟩) Q E ⟨h,g,d,t,os⟩:=by
 have hT5:(⟨h,g,d,t,os⟩:Shared).TypeIs (.builtin "object.__class__") "getset_descriptor" :=F.typeOf_object_class
 have f5:=F.typeOf_object_class
 have f6:=F.slot_gs_get.lookup
 have f7:=F.slot_gs_set.lookup
 have hmA:("__class__" :Str)∈I2:= .tail _ (.tail _ (.head _))
 repeat (any_goals (first|assumption|(with_reducible refine wpAny_loadPart_at hx ?_;rw[hc])|with_reducible refine I5 hmA hC T F.attrBase_ValueError.mro Wj ?_|wp_step))
 refine N5 hC hob hx hc ?_
 repeat (any_goals (first|assumption|wp_step))
theorem Pl{M:Model}{nameV:Value}{Q:Unit->Shared->Prop}(hC:h.get? C=some (excClassObj nm q C N bs bm hdct sn sub ab col dd k0 k1 k2 k3 k5 newId))(hbe:bm.contains (.type "BaseException")=true)
 (hx:h.get? a=some o) (hc:o.cls = .ref C) (hq:Q () ⟨h,g,d,t,os⟩):wpAny M A (checkBuiltinCall "BaseException.__getattribute__" ⟨[.ref a,nameV],[]⟩) Q E ⟨h,g,d,t,os⟩:=by
 have hk:builtinKind "BaseException.__getattribute__" = some .slot:=by decide +kernel
 have hsplit:splitId "BaseException.__getattribute__" = some ("BaseException","__getattribute__"):=by decide +kernel
 have hcB:(Value.ref C::bm).contains (.type "BaseException")=true:=by rw[List.contains_cons,hbe];rfl
 have ha:=F.args_bexc_ga (.ref a) nameV
 simp only[checkBuiltinCall,hk,hsplit]
 refine wpAny_bind ?_
 ·unfold isInstance
  repeat (first|(with_reducible refine wpAny_loadPart_at hx ?_;rw[hc])|(with_reducible refine wpAny_isSubtype_exc hC ?_;rw[hcB])|wp_step)
  exact hq
theorem Pm{tk:Tok}{fill:Bool}{Q:Value->Shared->Prop}(hC:h.get? C=some (excClassObj nm q C N bs bm hdct sn sub ab col dd k0 k1 k2 k3 k5 newId))(T:Fb h VE (.ref C::bm))(hbe:bm.contains (.type "BaseException")=true)(hob:bm.contains (.type "object")=true)
 (hx:h.get? a=some o) (hc:o.cls = .ref C) (hq:Q (.ref C) ⟨h,g,d,t,os⟩):wpAny (model prog w) A (getAttrBy (.ref a) (.str "__class__" tk) fill) Q E ⟨h,g,d,t,os⟩:=by
 have f3:=F.attrBase_ValueError.ga.bind (.ref a)
 have hx2:(Value.builtin "BaseException.__getattribute__" == Value.builtin "object.__getattribute__")=false:=by decide +kernel
 have hx1:(onTheHeap (Value.ref C)&&Value.builtin "BaseException.__getattribute__" == Value.builtin "object.__getattribute__")=false:=by rw[hx2];rfl
 have hm1:("__getattribute__" :Str)∈I2:= .head _
 have hm2:("__getattr__" :Str)∈I2:= .tail _ (.head _)
 repeat (any_goals (first|assumption|(with_reducible refine wpAny_loadPart_at hx ?_;rw[hc])|with_reducible refine I5 hm1 hC T F.attrBase_ValueError.mro F.attrBase_ValueError.ga.lookup ?_|with_reducible refine I5 hm2 hC T F.attrBase_ValueError.mro F.attrBase_ValueError.noGetattr ?_|wp_step))
 refine codeAny_call_builtin F.attrBase_ValueError.ga.plain F.entry_bexc_ga (Pl hC hbe hx hc (Mf hC T hob hx hc ?_))
 repeat (any_goals (first|assumption|wp_step))
theorem Na{Q:Option Value->Shared->Prop}(hC:h.get? C=some (excClassObj nm q C N bs bm hdct sn sub ab col dd k0 k1 k2 k3 k5 newId))(T:Fb h VE (.ref C::bm))(hbe:bm.contains (.type "BaseException")=true)(hob:bm.contains (.type "object")=true)
 (hx:h.get? a=some o) (hc:o.cls = .ref C) (hq:Q (some (.ref C)) ⟨h,g,d,t+1,os⟩):wpAny (model prog w) A (getAttr? (.ref a) "__class__") Q E ⟨h,g,d,t,os⟩:=by
 unfold getAttr? getAttrBy?
 repeat (any_goals (first|assumption|with_reducible apply Pm hC T hbe hob hx hc|wp_step))
theorem Wk{Q:Value->Shared->Prop}(hC:h.get? C=some (excClassObj nm q C N bs bm hdct sn sub ab col dd k0 k1 k2 k3 k5 newId))(T:Fb h VE (.ref C::bm))(hbe:bm.contains (.type "BaseException")=true)(hob:bm.contains (.type "object")=true)
 (hx:h.get? a=some o) (hc:o.cls = .ref C) (hC':h.get? C'=some (excClassObj nm' q' C' N' bs' bm' hdct' sn' sub' ab' col' dd' k0' k1' k2' k3' k5' newId'))
 (hb:(Value.ref C::bm).contains (.ref C')=false) (hq:Q (.bool false) ⟨h,g,d,t+1,os⟩):wpAny (model prog w) A (call (.builtin "isinstance") [.ref a,.ref C']) Q E ⟨h,g,d,t,os⟩:=by
 refine call_isinstance_of ?_
 unfold Builtin.«isinstance.nested»
 have z':(Value.ref C==Value.ref C')=false:=by
  rw[List.contains_cons]at hb
  have:=(Bool.or_eq_false_iff.mp hb).1
  refine beq_eq_false_iff_ne.mpr fun e=>?_
  rw[e,beq_self_eq_true]at this
  cases this
 repeat (first|(with_reducible refine wpAny_loadPart_at hx ?_;rw[hc])|with_reducible refine wpAny_loadPart_at hC' ?_|with_reducible refine wpAny_loadPart_at hC ?_|(with_reducible refine wpAny_isSubtype_exc hC ?_;rw[hb])|with_reducible refine Na hC T hbe hob hx hc ?_|wp_step)
 exact hq
end
theorem Fb.keeps{h h':Heap}{bmB tl:List Value}(T:Fb h bmB tl)(hk:∀b o,h.get? b=some o->h'.get? b=some o):Fb h' bmB tl:=by
 induction T with
 | base=>exact .base
 | own hA hN hq _ ih=>exact .own (hk _ _ hA) (hN.keeps hk) hq ih
theorem Q0{K:Frag}{h:Heap}(X:K.In h):∀ {l:List Value},Kw K l=true->Fb h VE l
 | [],e=>by cases e
 | v::r,e=>by
   unfold Kw at e
   rcases Bool.or_eq_true_iff.mp e with q|q
   ·rw[beq_iff_eq.mp q];exact .base
   ·split at q
    ·split at q
     ·rename_i ho
      simp only[Bool.and_eq_true,List.all_eq_true,beq_iff_eq]at q
      exact .own (X _ _ ho) (.of_isNs (isNs_of_in X q.1.1)) (fun n hn=>nsMap_none_of_in X q.1.1 (q.1.2 n hn)) (Q0 X q.2)
     ·cases q
    ·cases q
structure Tl(W:Wd)(h:Heap)(cc:Cp)(nm q:Str)(N:Addr)(bs bm:List Value)(hdct:Bool)(sn:List Str)(sub:List Value)(ab:Bool)(col:Option Bool)(dd:Option Addr)(k0 k1 k2 k3 k5:Option Value)(mN:Str->Option Value):Prop where
 at_:h.get? (W.cl cc)=some (excClassObj nm q (W.cl cc) N bs bm hdct sn sub ab col dd k0 k1 k2 k3 k5 "ValueError.__new__")
 ns:h.Ns N mN
 ini:mN "__init__" = none
 tail:OwnTail h VE bm
 mro:M2 W.K (W.cl cc) = .ref (W.cl cc)::bm
 tn:Fb h VE (.ref (W.cl cc)::bm)
theorem Tl.keeps{h h':Heap}{cc:Cp}{nm q:Str}{N:Addr}{bs bm:List Value}{hdct:Bool}{sn:List Str}{sub:List Value}{ab:Bool}{col:Option Bool}{dd:Option Addr}{k0 k1 k2 k3 k5:Option Value}{mN:Str->Option Value}
 (K:Tl W h cc nm q N bs bm hdct sn sub ab col dd k0 k1 k2 k3 k5 mN) (k:∀b o,h.get? b=some o->h'.get? b=some o):Tl W h' cc nm q N bs bm hdct sn sub ab col dd k0 k1 k2 k3 k5 mN:=
 ⟨k _ _ K.at_,K.ns.keeps k,K.ini,K.tail.keeps k,K.mro,K.tn.keeps k⟩
inductive Abz(W:Wd)(h:Heap)(cc:Cp):Prop
 | mk (nm q:Str) (N:Addr) (bs bm:List Value) (hdct:Bool) (sn:List Str) (sub:List Value) (ab:Bool) (col:Option Bool) (dd:Option Addr) (k0 k1 k2 k3 k5:Option Value) (mN:Str->Option Value) (K:Tl W h cc nm q N bs bm hdct sn sub ab col dd k0 k1 k2 k3 k5 mN)
theorem Ho(g:F0 W G){cc:Cp}(x:Kx W cc):Abz W W.b₀ cc:=by
 refine Aa fun no=>?_
 obtain⟨pp,loose,mg,mb,T⟩:=g.top
 obtain⟨bm,N,nm,q,bs,hdct,sn,sub,ab,col,dd,k0,k1,k2,k3,k5,mN,hC,hN,hni,TL⟩:=(own_of_in g.X T x.name x.own).obj
 have hm:M2 W.K (W.cl cc) = .ref (W.cl cc)::bm:=by
  have z:=x.own
  unfold excIn at z
  unfold M2
  cases e:W.K.lookup (W.cl cc)with
  | none=>rw[e]at z;cases z
  | some o=>
    have:=g.X _ _ e
    rw[hC]at this
    cases this
    rfl
 exact no ⟨nm,q,N,bs,bm,hdct,sn,sub,ab,col,dd,k0,k1,k2,k3,k5,mN,⟨hC,hN,hni,TL,hm,hm▸Q0 g.X x.quiet⟩⟩
theorem Tm(R:Ak W h₀ env names H ρ s){cc:Cp}{v:V}{u:Value}{r:Bool}(hv:VR W v u)(e:Ct cc v H=some r) :
 (Rm fun a ob c'=>Xx (u = .ref a) (s.heap.get? a=some ob) (ob.cls = .ref (W.cl c')) (Kx W c') ((c'==cc||cc == .webError)=r)):=by
 refine Aa fun nY=>?_
 cases hv with
 | ref a=>
   refine nY ?_;clear nY
   cases ha:H a with
   | none=>rw[Vi ha]at e;cases e
   | some o=>
     rw[Km ha]at e
     refine Aa fun nY=>?_
     cases o with
     | exc c'=>
       obtain⟨ob,h1,h2⟩:=R.objs a _ ha
       cases h2 with
       | exc z1 z2 z3 _=>(refine nY ?_;clear nY;exact⟨a,ob,c',rfl,h1,z2,z1,Option.some.inj e⟩)
     | _=>exact @nn _ _ _ e
 | _=>exact @nn _ _ _ e
theorem Wl{e:Expr}{tn:Str}{tp:Pos}(hn:∀v p,e≠ .Starred v p):NS [e,.Name tn tp]:=fun e' he' v p' q'=>by
 rcases List.mem_cons.mp he' with rfl|he'
 ·exact hn _ _ q'
 ·rcases List.mem_cons.mp he' with rfl|he'
  ·cases q'
  ·cases he'
theorem Ym(g:F0 W G){p tp pos:Pos}{e:Expr}{x:X}(hg:c.global "isinstance" = true)(hgt:c.global "ValueError" = true)(h:SE W G n c e x)(hn:∀v p,e≠ .Starred v p) :
 SE W G n c (.Call (.Name "isinstance" p) [e,.Name "ValueError" tp] [] pos) (.isVE x):=by
 intro A env h₀ H ρ s Q E ok Y R q
 rw[Vm]at q
 refine M9 g Y R (.inl ⟨"isinstance",rfl⟩) hg (by decide) (by decide) (by kernel_rfl) (by decide) (Wl hn) ?_
 rw[Bd hn,Bd (fun _ _ q=>by cases q)]
 refine Calls.evalArgs_plain (Calls.spliced_cons (wpAny_mono (h ok Y R q) (fun u s' r=>?_) fun _ _ e=>e))
 obtain⟨a,H',hv,R',q'⟩:=r
 refine Calls.spliced_cons (I4 (v:= .type "ValueError") g Y R' hgt (by decide) (by decide) (by kernel_rfl) (by decide) (Calls.spliced_nil ?_))
 split at q'
 ·rename_i ei
  obtain⟨b,ob,c',rfl,h1,h2,h3,_⟩:=Tm R' hv ei
  obtain⟨nm,qq,N,bs,bm,hdct,sn,sub,ab,col,dd,k0,k1,k2,k3,k5,mN,K⟩:=Ho g h3
  replace K:=K.keeps (R'.keepB Y)
  obtain⟨hh,gg,d,tk,os⟩:=s'
  exact Wi K.at_ h1 h2 (K.tail.hasType (by decide)) (A7.mk (.bool _) R' q')
 ·exact q'.elim
theorem Wm(g:F0 W G){cc:Cp}{tn:Str}{p tp pos:Pos}{e:Expr}{x:X}(ht:Gs tn=some cc)(hg:c.global "isinstance" = true)(hgt:c.global tn=true)(h:SE W G n c e x)(hn:∀v p,e≠ .Starred v p) :
 SE W G n c (.Call (.Name "isinstance" p) [e,.Name tn tp] [] pos) (.isown cc x):=by
 intro A env h₀ H ρ s Q E ok Y R q
 rw[Kn]at q
 obtain⟨hG,q⟩:=q
 have xo:=g.exc cc hG
 have hd:(tn==("__debug__" :Str))=false:=(by decide:∀p∈Ll,(p.1==("__debug__" :Str))=false) (tn,cc) (E8 ht)
 refine M9 g Y R (.inl ⟨"isinstance",rfl⟩) hg (by decide) (by decide) (by kernel_rfl) (by decide) (Wl hn) ?_
 rw[Bd hn,Bd (fun _ _ q=>by cases q)]
 refine Calls.evalArgs_plain (Calls.spliced_cons (wpAny_mono (h ok Y R q) (fun u s' r=>?_) fun _ _ e=>e))
 refine Aa fun nY=>?_
 obtain⟨a,H',hv,R',q'⟩:=r
 refine nY ?_;clear nY
 refine Calls.spliced_cons (C4 g Y R' hgt hd (Kv ht▸xo.name) (Calls.spliced_nil ?_))
 refine Aa fun nY=>?_
 split at q'
 ·rename_i r ei
  obtain⟨b,ob,c',rfl,h1,h2,h3,h5⟩:=Tm R' hv ei
  have h4:=g.sub c' cc h3 xo
  rw[h5]at h4
  obtain⟨nm,qq,N,bs,bm,hdct,sn,sub,ab,col,dd,k0,k1,k2,k3,k5,mN,K⟩:=Ho g h3
  replace K:=K.keeps (R'.keepB Y)
  obtain⟨nm',qq',N',bs',bm',hdct',sn',sub',ab',col',dd',k0',k1',k2',k3',k5',mN',K'⟩:=Ho g xo
  replace K':=K'.keeps (R'.keepB Y)
  obtain⟨hh,gg,d,tk,os⟩:=s'
  rw[K.mro]at h4
  cases r with
  | true=>(refine nY ?_;clear nY;exact Ug K.at_ h1 h2 K'.at_ h4 (A7.mk (.bool _) R' q'))
  | false=>(refine nY ?_;clear nY;exact Wk K.at_ K.tn (K.tail.hasType (by decide)) (K.tail.hasType (by decide)) h1 h2 K'.at_ h4 (A7.mk (.bool _) (R'.toks _) q'))
 ·exact q'.elim
theorem Uh{a:Int}{k:Nat}{ys:List Value}(h:CarriedAll ys ((rangeInts a 1 k).map .int)):Dc W ((List.range k).map fun(i:Nat)=>V.int (a+i)) ys:=by
 have:(List.range k).map (fun(i:Nat)=>V.int (a+i))=(rangeInts a 1 k).map V.int:=by
  simp[rangeInts,Function.comp_def]
 rw[this]
 generalize rangeInts a 1 k=l at h
 induction l generalizing ys with
 | nil=>cases h;exact .nil
 | cons i l ih=>
   cases h with
   | cons h t=>cases h;exact .cons (.int _ _) (ih t)
end Mine.Internal
namespace Mine.Internal
open PySem PySem.W PyProof.Rows
variable {W:Wd} {G:Ap} {A:Around} {h₀:HB} {env:Env} {c:Cx} {names:List Str} {H H':AH} {ρ ρ':Ao} {s s':Shared} {E:Value->Shared->Prop} {n:Nat} {Q:Ad} {Er:EP}
noncomputable def Tn(env:Env)(H:AH)(k:Nat):List Addr:=(List.range k).filter fun a=>(H a).isSome||a==env.locals||env.cells.any fun p=>p.2==a
noncomputable def prot(env:Env)(fs:List Addr)(H:AH)(h:Heap):HB:=⟨hideAll h (Tn env H h.objs.size),fs⟩
theorem On{k:Nat}{a:Addr}:a∈Tn env H k↔a<k/\((∃o,H a=some o)\/a=env.locals\/∃p∈env.cells,p.2=a):=by
 unfold Tn
 rw[List.mem_filter,List.mem_range]
 simp only[Bool.or_eq_true,beq_iff_eq,List.any_eq_true,or_assoc,Option.isSome_iff_exists]
theorem Cf{fs:List Addr}{h:Heap}{a:Addr}{o:Obj}(e:h.get? a=some o)(h1:H a=none)(h2:a≠env.locals)(h3:∀p∈env.cells,p.2≠a):(prot env fs H h).get? a=some o:=
 hideAll_get _ e fun q=>by
  rcases(On.mp q).2 with⟨o,e⟩|e | ⟨p,hp,e⟩
  ·rw[h1]at e;cases e
  ·exact h2 e
  ·exact h3 p hp e
theorem Fc{fs:List Addr}{h:Heap}{a:Addr}{o:Obj}(e:(prot env fs H h).get? a=some o):h.get? a=some o:=of_hideAll _ e
theorem Cq{fs:List Addr}{h:Heap}{a:Addr}(hx:(∃o,H a=some o)\/a=env.locals\/∃p∈env.cells,p.2=a):(prot env fs H h).get? a=none:=by
 cases q:(prot env fs H h).get? a with
 | none=>rfl
 | some o=>
   have:=hideAll_none (h:=h) _ (On.mpr ⟨Heap.lt_size (Fc q),hx⟩)
   replace q:(hideAll h (Tn env H h.objs.size)).get? a=some o:=q
   rw[this]at q;cases q
theorem A4{cs:List (Str×Addr)}{x:Str}{a:Addr}(h:cs.lookup x=some a):∃p∈cs,p.2=a:=by
 induction cs with
 | nil=>cases h
 | cons p r ih=>
   obtain⟨y,b⟩:=p
   rw[List.lookup_cons]at h
   split at h
   ·cases h;exact⟨_,.head _,rfl⟩
   ·obtain⟨p,h1,h2⟩:=ih h;exact⟨p,.tail _ h1,h2⟩
theorem Ak.prot(R:Ak W h₀ env names H ρ s):Ak W (prot env h₀.fs H s.heap) env names H ρ s where
 ns:=R.ns
 cell:=R.cell
 keep:= .of fun _ _ e=>Fc e
 objs:=R.objs
 sep:=fun a o e=>⟨Cq (.inl ⟨o,e⟩),(R.sep a o e).2⟩
 gens:=R.gens
 os:=R.os
 above:=R.above
 low:=R.low
theorem Ak.in_prot(R:Ak W h₀ env names H ρ s)(Y:Ac W env c h₀):Fz W h₀ (Mine.Internal.prot env h₀.fs H s.heap).h:=fun b o e=>
 let ⟨o',e1,z⟩:=R.keep b o e;⟨o',Cf e1 (by cases q:H b with
  | none=>rfl
  | some x=>rw[(R.sep b x q).1]at e;cases e) (fun q=>by rw[q,Y.new]at e;cases e) (fun p hp q=>by have:=Y.newc p hp;rw[q,e]at this;cases this),z⟩
theorem Ac.prot(Y:Ac W env c h₀)(R:Ak W h₀ env names H ρ s):Ac W env c (Mine.Internal.prot env h₀.fs H s.heap) where
 kind:=Y.kind
 globals:=Y.globals
 builtins:=Y.builtins
 kinds:=Y.kinds
 frees:=Y.frees
 cells:=Y.cells
 apart:=Y.apart
 inj:=Y.inj
 base:=fun b o e=>Cf (R.keepB Y b o e)
  (by cases q:H b with
      | none=>rfl
      | some x=>have:=(R.sep b x q).1;rw[Y.base b o e]at this;cases this)
  (fun q=>absurd (Heap.lt_size e) (Nat.not_lt.mpr (q▸R.above)))
  (fun p hp q=>by have:=Y.newc p hp;rw[q,Y.base b o e]at this;cases this)
 new:=Cq (.inr (.inl rfl))
 fsok:=fun L m q=>Y.fsok L m ((R.in_prot Y).none q)
 fsd:=fun L m=>⟨(Y.fsd L m).1,fun o e=>by obtain⟨o',e1,z⟩:=R.fsd Y m;rw[Fc e]at e1;cases e1;exact z⟩
 newc:=fun p hp=>Cq (.inr (.inr ⟨p,hp,rfl⟩))
 look:=Y.look
 lo:=Y.lo
theorem Ak.sub(R:Ak W h₀ env names H ρ s){h₁:HB}(k:Fz W h₁ h₀.h)(hf:∀b o,h₁.get? b=some o->b∈h₀.fs->b∈h₁.fs):Ak W h₁ env names H ρ s where
 ns:=R.ns
 cell:=R.cell
 keep:=k.trans hf R.keep
 objs:=R.objs
 sep:=fun a o e=>by
  exact⟨k.none (R.sep a o e).1,(R.sep a o e).2⟩
 gens:=R.gens
 os:=R.os
 above:=R.above
 low:=R.low
theorem Ak.unprot(R:Ak W h₀ env names H ρ s)(Y:Ac W env c h₀){names':List Str}(R':Ak W (Mine.Internal.prot env h₀.fs H s.heap) env names' H' ρ' s'):Ak W h₀ env names' H' ρ' s':=R'.sub (R.in_prot Y) fun _ _ _ m=>m
theorem Ky.prot(ok:Ky A c h₀ env n):Ky A c (Mine.Internal.prot env h₀.fs H s.heap) env n:=⟨ok.handled,ok.room,ok.units,ok.stk,ok.top⟩
theorem EM.unprot(R:Ak W h₀ env names H ρ s)(Y:Ac W env c h₀){names':List Str}{v:Value}(x:EM W (Mine.Internal.prot env h₀.fs H s.heap) env names' ρ' Er v s'):EM W h₀ env names' ρ' Er v s':=by
 obtain⟨fl,e,H',cc,hv,R',he,⟨oe,vs,a0,t1,t2,t3,t4⟩,q⟩:=x
 refine⟨fl,e,H',cc,hv,R.unprot Y R',he,⟨oe,vs,a0,t1,t2,t3,?_⟩,q⟩
 cases fl with
 | none=>exact t4
 | some y=>
   obtain⟨T,oT,ts,g1,g2,g3,g4,g5,g6⟩:=t4
   exact⟨T,oT,ts,g1,g2,g3,g4,g5,fun b hb=>let ⟨a1,a2,a3,a4⟩:=g6 b hb;⟨a1,(R.in_prot Y).none a2,a3,a4⟩⟩
theorem A7.unprot(R:Ak W h₀ env names H ρ s)(Y:Ac W env c h₀){names':List Str}{v:Value}(r:A7 W (Mine.Internal.prot env h₀.fs H s.heap) env names' ρ' Q v s'):A7 W h₀ env names' ρ' Q v s':=
 let ⟨a,H',h1,h2,h3⟩:=r;⟨a,H',h1,R.unprot Y h2,h3⟩
theorem stays{a:Addr}{o:Obj}(e:s.heap.get? a=some o)(h1:H a=none)(h2:a≠env.locals)(h3:∀p∈env.cells,p.2≠a)(hx:a∉h₀.fs){names':List Str}(R':Ak W (Mine.Internal.prot env h₀.fs H s.heap) env names' H' ρ' s'):s'.heap.get? a=some o:=
 R'.keep.exact (Cf e h1 h2 h3) (.inl hx)
/-! objects made by displays -/
theorem Yn{es:List Expr}{xs:List X}{p:Pos}(hs:Rp W G n c es xs)(hl:es.length<100):SE W G n c (.List es p) (.list xs):=by
 intro A env h₀ H ρ s Q E ok Y R q
 simp only[Jb,Jc,Jd,Je,Jf,Jg,Jh,Ji,Jj,Jk,Jl,Jm,Jn,Jo,Jp,Jq,Bq,Jr,Js,Jt,Ju,Jv,Aq,C9,Ar,An,Jw,Jx,Aw,Bw,Az,A9]at q
 refine List_ (wpAny_mono (hs ok Y R q) (fun us s' r=>?_) fun _ _ e=>e)
 obtain⟨as,H',hv,hl',R',q'⟩:=r
 exact wpAny_newList (A7.mk (.ref _) (R'.push (.list hv (by simp only[B6];(first|lia|omega))) rfl _) (q' _ R'.fresh)) (hsz:=by rw[<-hv.length];simp only[sizeLine];(first|lia|omega))
theorem Wn{es:List Expr}{xs:List X}{k:Nat}{p:Pos}(hs:Rp W G n c es xs)(hl:es.length<100):SE W G n c (.Tuple es k p) (.tuple xs):=by
 intro A env h₀ H ρ s Q E ok Y R q
 simp only[Jb,Jc,Jd,Je,Jf,Jg,Jh,Ji,Jj,Jk,Jl,Jm,Jn,Jo,Jp,Jq,Bq,Jr,Js,Jt,Ju,Jv,Aq,C9,Ar,An,Jw,Jx,Aw,Bw,Az,A9]at q
 refine Tuple_ (wpAny_mono (hs ok Y R q) (fun us s' r=>?_) fun _ _ e=>e)
 refine Aa fun nY=>?_
 obtain⟨as,H',hv,hl',R',q'⟩:=r
 refine nY ?_;clear nY
 exact wpAny_newTuple (A7.mk (.ref _) (R'.push (.tuple hv (by simp only[B6];(first|lia|omega))) rfl _) (q' _ R'.fresh)) (hsz:=by rw[<-hv.length];simp only[sizeLine];(first|lia|omega))
theorem Yo(g:F0 W G){o:Expr}{x:X}{a:C6}{an:Str}{p:Pos}(hb:Hj o=true)(ha:L3 an=some a)(h:SE W G n c o x):SE W G n c (.Attribute o an p) (.attr x a):=by
 intro A env h₀ H ρ s Q E ok Y R q
 simp only[Jb,Jc,Jd,Je,Jf,Jg,Jh,Ji,Jj,Jk,Jl,Jm,Jn,Jo,Jp,Jq,Bq,Jr,Js,Jt,Ju,Jv,Aq,C9,Ar,An,Jw,Jx,Aw,Bw,Az,A9]at q
 have hname:an=Ax a:=by
  delta L3 at ha
  repeat' split at ha
  all_goals first
   | (rename_i z;simp only[beq_iff_eq]at z;cases ha;exact z)
   | cases ha
 subst hname
 refine Attribute_any_ (wpAny_mono (h ok Y R q) (fun v s' r=>?_) fun _ _ e=>e) (by rw[arm_eval_Attribute,Pj hb])
 refine Aa fun nY=>?_
 obtain⟨ov,H',hv,R',q'⟩:=r
 refine nY ?_;clear nY
 exact N2 Y g.X g.inst R' hv q'
theorem Wo(Y:Ac W env c h₀)(R:Ak W h₀ env names H ρ s){a b:V}{u:Value}(hu:VR W a u)(q:Cj a b H Q):(Gx fun T id=>s.TypeIs u T/\typeLookup (.type T) "__getitem__" = pure (some (.builtin id))):=by
 apply Vx q
 intro k q
 induction hu with
 | ref a=>
   dsimp only at q
   refine Aa fun nY=>?_
   split at q
   ·rename_i xs e
    obtain⟨l,h,_⟩:=R.isList e
    refine nY ?_;clear nY
    exact⟨_,_,h.typeIs,slot_list_getitem.lookup⟩
   ·rename_i xs e
    obtain⟨l,h,_⟩:=R.isTup e
    refine nY ?_;clear nY
    exact⟨_,_,h.typeIs,slot_tuple_getitem.lookup⟩
   ·rename_i xs e
    obtain⟨l,h,_⟩:=R.isDict e
    refine nY ?_;clear nY
    exact⟨_,_,h.typeIs,slot_dict_getitem.lookup⟩
   ·exact q.elim
 | script=>
   refine Aa fun nY=>?_
   obtain⟨l,h,_⟩:=R.script Y
   refine nY ?_;clear nY
   exact⟨_,_,h.typeIs,slot_list_getitem.lookup⟩
 | str x t=>exact⟨_,_,typeIs_str _ _ _,F.slot_str_getitem.lookup⟩
 | _=>exact False.elim q
noncomputable def Nb:Expr->Bool
 | .Slice .. =>false
 | _=>true
theorem K0{e:Expr}(h:Nb e=true)(o i:Value):subscripted e false o i=operate [o,i] (getItem o i):=by
 cases e<;>first|rfl|cases h
theorem Aaj{o i:Expr}{x y:X}{p:Pos}(hi:Nb i=true)(h:SE W G n c o x)(h2:SE W G n c i y):SE W G n c (.Subscript o i p) (.sub x y):=by
 intro A env h₀ H ρ s Q E ok Y R q
 simp only[Jb,Jc,Jd,Je,Jf,Jg,Jh,Ji,Jj,Jk,Jl,Jm,Jn,Jo,Jp,Jq,Bq,Jr,Js,Jt,Ju,Jv,Aq,C9,Ar,An,Jw,Jx,Aw,Bw,Az,A9]at q
 refine Subscript_ (wpAny_mono (h ok Y R q) (fun v s' r=>?_) fun _ _ e=>e)
 refine Aa fun nY=>?_
 obtain⟨a,H',hv,R',q'⟩:=r
 refine nY ?_;clear nY
 refine wpAny_mono (h2 ok Y R' q') (fun v2 s2 r=>?_) fun _ _ e=>e
 refine Aa fun nY=>?_
 obtain⟨b,H2,hv2,R2,q2⟩:=r
 obtain⟨T,id,t1,t2⟩:=Wo Y R2 hv q2
 refine nY ?_;clear nY
 exact tail_any t1 t2 (Qq Y R2 hv hv2 q2) (K0 hi _ _)
noncomputable def SO(W:Wd)(G:Ap)(n:Nat)(c:Cx)(e:Option Expr)(x:X):Prop:=
 ∀ {A:Around} {env:Env} {h₀:HB} {H:AH} {ρ:Ao} {s:Shared} {Q:Ad} {E:EP},Ky A c h₀ env n->Ac W env c h₀->Ak W h₀ env c.names H ρ s->Ay G (Ab G n) x ρ H Q E->
  wpAny W.M A (valueOrNone (evalOpt e env)) (A7 W h₀ env c.names ρ Q) (EM W h₀ env c.names ρ E) s
theorem Yp:SO W G n c none .omit:=by
 intro A env h₀ H ρ s Q E ok Y R q
 exact wpAny_pure (A7.mk .none R q)
theorem Yq{e:Expr}{x:X}(h:SE W G n c e x):SO W G n c (some e) x:=by
 intro A env h₀ H ρ s Q E ok Y R q
 exact h ok Y R q
theorem Si(R:Ak W h₀ env names H ρ s){a l u st:V}{v:Value}(hu:VR W a v)(q:F6 a l u st H Q):(Gx fun T id=>s.TypeIs v T/\typeLookup (.type T) "__getitem__" = pure (some (.builtin id))):=by
 induction hu with
 | ref a=>
   replace q:O5 a l u st H Q:=q
   refine B5 q fun _ _ q=>?_
   refine B5 q fun _ _ q=>?_
   refine M3 q fun xs e q=>?_
   obtain⟨l,h,_⟩:=R.isList e
   exact⟨_,_,h.typeIs,slot_list_getitem.lookup⟩
 | str x t=>exact⟨_,_,typeIs_str _ _ _,F.slot_str_getitem.lookup⟩
 | _=>exact False.elim q
theorem K1(l u st:Option Expr)(p:Pos)(o i:Value):∃ops,subscripted (.Slice l u st p) false o i=operate ops (getItem o i):=by
 cases st
 ·exact⟨[i,o],rfl⟩
 ·exact⟨[o,i],rfl⟩
theorem Wp{o:Expr}{l u st:Option Expr}{x xl xu xs:X}{p p2:Pos}(h:SE W G n c o x)(hl:SO W G n c l xl)(hu:SO W G n c u xu)(hs:SO W G n c st xs):SE W G n c (.Subscript o (.Slice l u st p2) p) (.slice x xl xu xs):=by
 intro A env h₀ H ρ s Q E ok Y R q
 simp only[Jb,Jc,Jd,Je,Jf,Jg,Jh,Ji,Jj,Jk,Jl,Jm,Jn,Jo,Jp,Jq,Bq,Jr,Js,Jt,Ju,Jv,Aq,C9,Ar,An,Jw,Jx,Aw,Bw,Az,A9]at q
 refine Subscript_ (wpAny_mono (h ok Y R q) (fun v s' r=>?_) fun _ _ e=>e)
 refine Aa fun nY=>?_
 obtain⟨a,H',hv,R',q'⟩:=r
 refine nY ?_;clear nY
 rw[arm_eval_Slice]
 refine wpAny_bind (wpAny_mono (hl ok Y R' q') (fun v2 s2 r=>?_) fun _ _ e=>e)
 refine Aa fun nY=>?_
 obtain⟨b,H2,hv2,R2,q2⟩:=r
 refine nY ?_;clear nY
 refine wpAny_bind (wpAny_holding (wpAny_mono (hu ok Y R2 q2) (fun v3 s3 r=>?_) fun _ _ e=>e))
 refine Aa fun nY=>?_
 obtain⟨d,H3,hv3,R3,q3⟩:=r
 refine nY ?_;clear nY
 refine wpAny_bind (wpAny_holding (wpAny_mono (hs ok Y R3 q3) (fun v4 s4 r=>?_) fun _ _ e=>e))
 refine Aa fun nY=>?_
 obtain⟨f,H4,hv4,R4,q4⟩:=r
 refine nY ?_;clear nY
 refine fun _ _ _=>?_
 have R5:=R4.pushHid {cls:= .type "slice",data:= .fields #[v2,v3,v4]} s4.toks
 refine Aa fun nY=>?_
 obtain⟨ops,e⟩:=K1 l u st p2 v (.ref s4.heap.objs.size)
 obtain⟨T,id,t1,t2⟩:=Si R5 hv q4
 refine nY ?_;clear nY
 exact tail_any (E:=EM W h₀ env c.names ρ E) t1 t2 (Nz Y R5 hv hv2 hv3 hv4 ⟨_,Heap.get?_push_size _ rfl,rfl,rfl⟩ q4) e
theorem Wq{p:Pos}:SE W G n c (.Dict [] [] p) (.dict [] []):=by
 intro A env h₀ H ρ s Q E ok Y R q
 simp only[Jb,Jc,Jd,Je,Jf,Jg,Jh,Ji,Jj,Jk,Jl,Jm,Jn,Jo,Jp,Jq,Bq,Jr,Js,Jt,Ju,Jv,Aq,C9,Ar,An,Jw,Jx,Aw,Bw,Az,A9]at q
 obtain⟨m,F⟩:=R.kitF Y
 refine Dict_empty_made (intKind W.prog W.w) PyData.int F Vy Y.lo fun h' o F' N' hm hd hf hne=>?_
 have z:=Pd (t:=s.toks) R Y F F' N' (Nat.le_refl _) (OR.dict (W:=W) .nil (by simp) hd)
 exact A7.mk (.ref _) z.2 (q _ z.1)
theorem Ui(Y:Ac W env c h₀)(R:Ak W h₀ env names H ρ s){a:Addr}(hn:s.heap.get? a=none):∀p∈env.cells,p.2≠a:=fun p hp q=>by
 obtain⟨w,⟨o,h,_⟩,_⟩:=R.cell p.1 p.2 (Y.look p hp)
 rw[q,hn]at h;cases h
theorem Ak.swap(R:Ak W h₀ env names H ρ s){h':Heap}{a:Addr}(t:Nat)(k:Heap.SameBut a s.heap h')(h1:H a=none)(h2:h₀.get? a=none)(h3:a≠env.locals)(h4:∀x,env.cells.lookup x≠some a):Ak W h₀ env names H ρ {s with heap:=h',toks:=t} where
 ns:=let ⟨m,x,b⟩:=R.ns;⟨m,x.sameBut k (Ne.symm h3),b⟩
 cell:=fun x b e=>let ⟨w,⟨o,ho,hd⟩,r⟩:=R.cell x b e;⟨w,⟨o,(k.2 b fun q=>h4 x (q▸e)).trans ho,hd⟩,r⟩
 keep:=fun b o e=>let ⟨o',e1,z⟩:=R.keep b o e;⟨o',(k.2 b fun q=>by rw[q,h2]at e;cases e).trans e1,z⟩
 objs:=fun b o e=>let ⟨ob,g1,g2⟩:=R.objs b o e;⟨ob,(k.2 b fun q=>by rw[q,h1]at e;cases e).trans g1,g2⟩
 sep:=R.sep
 gens:=R.gens
 os:=R.os
 above:=R.above
 low:=R.low
end Mine.Internal
namespace Mine.Internal
open PySem PySem.W PyProof.Rows
variable {W:Wd} {G:Ap} {A:Around} {h₀:HB} {env:Env} {c:Cx} {names:List Str} {H H':AH} {ρ ρ':Ao} {s s':Shared} {E:Value->Shared->Prop} {n:Nat} {Q:Ad} {Er:EP}
theorem ns1{e:Expr}(h:∀v p,e≠ .Starred v p):NS [e]:=fun e' he' v p' q'=>by
 rcases List.mem_cons.mp he' with rfl|he'
 ·exact h _ _ q'
 ·cases he'
theorem Iq(ok:Ky A c h₀ env n)(hf:c.hnd=false)(Y:Ac W env c h₀)(R:Ak W h₀ env names H ρ s){r:Addr}{a b:Int}{t u v:Tok}(hr:IsRange s.heap r a b 1 t u v)(h1:0<=a)(h2:a<=B6)(h3: -(B6:Int)<=b)(h4:b<=B6)
 (q:A5 (.list ((List.range (b-a).toNat).map fun(i:Nat)=>V.int (a+i))) H Q):wpAny W.M A (call (.type "list") [.ref r]) (A7 W h₀ env names ρ Q) E s:=by
 obtain⟨m,F⟩:=R.kitF Y
 have b1:B6=1048576:=rfl
 refine list_rangeD (ok.handled hf) F Vy hr (small_one (by(first|lia|omega)) (by(first|lia|omega)) (by(first|lia|omega)) (by(first|lia|omega))) (rangeSize_nat a b) (by(first|lia|omega)) fun h' tk ys F' N' hk hn hl hp hc=>?_
 obtain⟨⟨k,e⟩,_⟩:=hp
 have R':=R.put (h':=h') (a:=s.heap.objs.size) (o:= .list ((List.range (b-a).toNat).map fun(i:Nat)=>V.int (a+i))) tk hk e (.list (Uh hc) (by simp;(first|lia|omega))) (B0 _) fun _ _=>R.up
 exact A7.mk (.ref _) R' (q _ R.fresh)
theorem Pn(g:F0 W G)(hf:c.hnd=false){p rp pos pos':Pos}{es:List Expr}{xs:List X}(hg:c.global "list" = true)(hgr:c.global "range" = true)(hs:Rp W G n c es xs)(hn:NS es) :
 SE W G n c (.Call (.Name "list" p) [.Call (.Name "range" rp) es [] pos'] [] pos) (.bi .listRange xs):=by
 intro A env h₀ H ρ s Q E ok Y R q
 simp only[Jb,Jc,Jd,Je,Jf,Jg,Jh,Ji,Jj,Jk,Jl,Jm,Jn,Jo,Jp,Jq,Bq,Jr,Js,Jt,Ju,Jv,Aq,C9,Ar,An,Jw,Jx,Aw,Bw,Az,A9]at q
 refine M9 g Y R (.inr ⟨"list",rfl⟩) hg (by decide) (by decide) (by kernel_rfl) (by decide) (ns1 fun _ _ q=>by cases q) ?_
 rw[Bd (fun _ _ q=>by cases q)]
 refine Calls.evalArgs_plain (Calls.spliced_cons ?_)
 refine M9 g Y R (.inr ⟨"range",rfl⟩) hgr (by decide) (by decide) (by kernel_rfl) (by decide) hn (Ei hs hn ok Y R q fun as us H' s' hv R' q'=>?_)
 replace q':Abo as H' Q:=q'
 have b1:B6=1048576:=rfl
 cases hv with
 | nil=>exact False.elim q'
 | cons hu t=>cases t with
   | nil=>
     apply Au hu q';intro k t q'
     refine call_range_1 (Calls.spliced_nil ?_)
     have R2:=R'.pushHid {cls:= .type "range",data:= .fields #[.int 0 s'.toks,.int k t,.int 1 (s'.toks+1)]} (s'.toks+1+1)
     refine Iq (a:=0) (b:=k) ok hf Y R2 (Heap.get?_push_size _ rfl) (by(first|lia|omega)) (by(first|lia|omega)) q'.1.1 q'.1.2 ?_
     simpa using q'.2
   | cons hu2 t=>cases t with
     | nil=>
       apply Au hu q';intro m t q';apply Au hu2 q';intro k t2 q'
       refine call_range_2 (Calls.spliced_nil ?_)
       have R2:=R'.pushHid {cls:= .type "range",data:= .fields #[.int m t,.int k t2,.int 1 s'.toks]} (s'.toks+1)
       have:=q'.1
       exact Iq (a:=m) (b:=k) ok hf Y R2 (Heap.get?_push_size _ rfl) (by(first|lia|omega)) (by(first|lia|omega)) (by(first|lia|omega)) (by(first|lia|omega)) q'.2
     | cons=>exact False.elim q'
noncomputable def Po:LM->Str
 | .append=> "append" | .clear=> "clear" | .count=> "count" | .extend=> "extend" | .index=> "index" | .remove=> "remove" | .reverse=> "reverse" | .setdefault=> "setdefault" | .split=> "split" | .join=> "join"
theorem Yr{x:Str}{m:LM}(h:X2 x=some m):x=Po m:=
 (by decide:∀p∈Tb,p.1=Po p.2) (x,m) (E8 h)
theorem Wr(R:Ak W h₀ env names H ρ s){m:LM}{a:Addr}(hk:Gz m (.ref a) H) :
 (Li fun T=>Xx (PlainAttrs T) (Slot T (Po m) (V7 m)) (typeOf (.builtin (V7 m))=pure (.type "method_descriptor")) (s.TypeIs (.ref a) T) ((∀b,Value.ref a = .ref b->∃ob,s.heap.get? b=some ob/\ob.dict=none))):=by
 delta Gz at hk
 dsimp only at hk
 split at hk
 ·rename_i xs e
  obtain⟨l,nn,g1,_⟩:=R.lst e
  have hd:∀b,Value.ref a = .ref b->∃ob,s.heap.get? b=some ob/\ob.dict=none:=fun b q=>by cases q;exact⟨_,g1,rfl⟩
  have ht:s.TypeIs (.ref a) "list" :=by obtain⟨l,h,_⟩:=R.isList e;exact h.typeIs
  cases m with
  | append=>exact⟨"list",F.plainAttrs_list,F.slot_list_append,F.type_list_append,ht,hd⟩
  | clear=>exact⟨"list",F.plainAttrs_list,F.slot_list_clear,F.type_list_clear,ht,hd⟩
  | count=>exact⟨"list",F.plainAttrs_list,F.slot_list_count,F.type_list_count,ht,hd⟩
  | extend=>exact⟨"list",F.plainAttrs_list,F.slot_list_extend,F.type_list_extend,ht,hd⟩
  | index=>exact⟨"list",F.plainAttrs_list,F.slot_list_index,F.type_list_index,ht,hd⟩
  | remove=>exact⟨"list",F.plainAttrs_list,F.slot_list_remove,F.type_list_remove,ht,hd⟩
  | reverse=>exact⟨"list",F.plainAttrs_list,F.slot_list_reverse,F.type_list_reverse,ht,hd⟩
  | setdefault=>exact hk.elim
  | split=>exact hk.elim
  | join=>exact hk.elim
 ·rename_i es e
  cases hk
  obtain⟨kvs,g1,_⟩:=R.isDict e
  have ht:=g1.typeIs
  obtain⟨o,es,ep,g2,g3,_⟩:=g1
  exact⟨"dict",F.plainAttrs_dict,F.slot_dict_setdefault,F.type_dict_setdefault,ht,fun b q=>by cases q;exact⟨_,g2,g3.2.1⟩⟩
 ·exact hk.elim
theorem Ys(R:Ak W h₀ env names H ρ s){m:LM}{o:V}{u:Value}(hv:VR W o u)(hk:Gz m o H) :
 (Li fun T=>Xx (PlainAttrs T) (Slot T (Po m) (V7 m)) (typeOf (.builtin (V7 m))=pure (.type "method_descriptor")) (s.TypeIs u T) ((∀a,u = .ref a->∃ob,s.heap.get? a=some ob/\ob.dict=none))):=by
 induction hv with
 | str x t=>cases m with
   | split=>exact⟨"str",F.plainAttrs_str,F.slot_str_split,F.type_str_split,typeIs_str _ _ _,nofun⟩
   | join=>exact⟨"str",F.plainAttrs_str,F.slot_str_join,F.type_str_join,typeIs_str _ _ _,nofun⟩
   | _=>exact False.elim hk
 | ref a=>exact Wr R hk
 | _=>exact False.elim hk
theorem Ab0{o:Expr}{m:LM}{x:Str}{ap pos:Pos}{y:X}{es:List Expr}{xs:List X}(hb:Hj o=true)(hl:(ap.endLine==pos.line)=true)(hfew:es.length<3)(hm:X2 x=some m)(h:SE W G n c o y)(hs:Rp W G n c es xs)(hn:NS es) :
 SE W G n c (.Call (.Attribute o x ap) es [] pos) (.lm m y xs):=by
 intro A env h₀ H ρ s Q E ok Y R q
 simp only[Jb,Jc,Jd,Je,Jf,Jg,Jh,Ji,Jj,Jk,Jl,Jm,Jn,Jo,Jp,Jq,Bq,Jr,Js,Jt,Ju,Jv,Aq,C9,Ar,An,Jw,Jx,Aw,Bw,Az,A9]at q
 have hx:=Yr hm
 subst hx
 have hplain:(backTo pos (starEach es env)).all (fun x=> !x.1)=true:=by
  have:=hn.plain (pos:=pos) (env:=env)
  rw[List.any_eq_false]at this
  rw[List.all_eq_true];intro x hx;simpa using this x hx
 have hform:((backTo pos (starEach es env)).all (fun x=> !x.1)&&(backToKw pos (keywordEach [] env)).all (fun x=>x.1.isSome)
  && decide (es.length+([]:List Keyword).length+(if ([]:List Keyword).isEmpty then 0 else 1)<30))=true:=by
  rw[hplain]
  have:es.length+0+0<30:=by(first|lia|omega)
  simpa[show backToKw pos (keywordEach [] env) = []from rfl]using this
 refine wpAny_Call_method_late (Pj hb) hform hl rfl (wpAny_mono (h ok Y R q) (fun ov s' r=>?_) fun _ _ e=>e)
 refine Aa fun nY=>?_
 obtain⟨a,H',hv,R',hk,q'⟩:=r
 obtain⟨T,t1,t2,t3,t4,t5⟩:=Ys R' hv hk
 refine nY ?_;clear nY
 refine⟨T,_,t1,t2,t3,t4,t5,Calls.callWith_builtin hn.plain (Ei hs hn ok Y R' q' fun as us H' s' hv' R'' q''=>?_)⟩
 exact Sf ok Y R'' hv hv' q''
end Mine.Internal
namespace Mine.Internal
open PySem PySem.W PyProof.Rows
variable {W:Wd} {G:Ap} {A:Around} {h₀:HB} {env:Env} {c:Cx} {names:List Str} {H H':AH} {ρ ρ':Ao} {s s':Shared} {E:Value->Shared->Prop} {n:Nat} {Q:Ad} {Er:EP}
inductive ItR(W:Wd)(h:Heap):It->Value->Prop
 | v {a u}:VR W a u->ItR W h (.v a) u
 | pair {a b u1 u2 T}:h.IsTuple T #[u1,u2]->VR W a u1->VR W b u2->ItR W h (.pair a b) (.ref T)
theorem Ak.moveBut(R:Ak W h₀ env names H ρ s){wr:List Addr}(hid:Eb h₀ env H wr){h':Heap}(t:Nat)(k:∀b o,b∉wr->s.heap.get? b=some o->h'.get? b=some o):Ak W h₀ env names H ρ {s with heap:=h',toks:=t} where
 ns:=by
  refine Aa fun nY=>?_
  obtain⟨m,⟨o,es,ep,h1,h2⟩,b⟩:=R.ns
  refine nY ?_;clear nY
  exact⟨m,⟨o,es,ep,k _ _ (fun q=>(hid _ q).2.2.1 rfl) h1,h2⟩,b⟩
 cell:=fun x a e=>by
  refine Aa fun nY=>?_
  obtain⟨w,⟨o,ho,hd⟩,r⟩:=R.cell x a e
  obtain⟨p,hp,hp2⟩:=A4 e
  refine nY ?_;clear nY
  exact⟨w,⟨o,k _ _ (fun q=>(hid _ q).2.2.2 p hp hp2) ho,hd⟩,r⟩
 keep:=fun b o e=>let ⟨o',e1,z⟩:=R.keep b o e;⟨o',k _ _ (fun q=>by have:=(hid _ q).2.1;rw[e]at this;cases this) e1,z⟩
 objs:=fun b o e=>by
  refine Aa fun nY=>?_
  obtain⟨ob,g1,g2⟩:=R.objs b o e
  refine nY ?_;clear nY
  exact⟨ob,k _ _ (fun q=>by have:=(hid _ q).1;rw[e]at this;cases this) g1,g2⟩
 sep:=R.sep
 gens:=R.gens
 os:=R.os
 above:=R.above
 low:=R.low
structure Xy(W:Wd)(A:Around)(target:Expr)(I:Addr)(hs:List Addr)(its:List It)(g:AH->Prop)(Obs:Nat->Heap->Prop):Prop where
 frame:∀i h h',Obs i h->(∀b∈hs,∀o,h.get? b=some o->h'.get? b=some o)->Obs i h'
 live:∀i h,Obs i h->∀b∈hs,∃o,h.get? b=some o
 self:∀ {s:Shared} {Q:Value->Shared->Prop} {E:Value->Shared->Prop},Obs 0 s.heap->Q (.ref I) s->wpAny W.M A (pyIter (.ref I)) Q E s
 turn:∀ {h₀:HB} {env:Env} {c:Cx} {names:List Str} {H:AH} {ρ:Ao} {s:Shared} {i:Nat} {x:It} {E E':Value->Shared->Prop},Ac W env c h₀->Ak W h₀ env names H ρ s->Eb h₀ env H hs->g H->Obs i s.heap->its[i]? = some x->
  wpAny W.M A (pyNext (.ref I)) (fun r s₁=>∃v,r=some v/\wpAny W.M A (letOwnedTupleGo target (.ref I) v) (fun _ s₂=>Ak W h₀ env names H ρ s₂/\Obs (i+1) s₂.heap/\ItR W s₂.heap x v/\∀b o,b∉hs->s.heap.get? b=some o->s₂.heap.get? b=some o) E' s₁) E s
 done:∀ {h₀:HB} {env:Env} {c:Cx} {names:List Str} {H:AH} {ρ:Ao} {s:Shared} {E:Value->Shared->Prop},Ac W env c h₀->Ak W h₀ env names H ρ s->Eb h₀ env H hs->g H->Obs its.length s.heap->
   wpAny W.M A (pyNext (.ref I)) (fun r s₁=>r=none/\Ak W h₀ env names H ρ s₁/\∀b o,b∉hs->s.heap.get? b=some o->s₁.heap.get? b=some o) E s
noncomputable def Nc:List String:=["enumerate","zip","dict_itemiterator","dict_reverseitemiterator","odict_iterator","itertools.zip_longest","itertools.pairwise"]
theorem K5{target:Expr}{I:Addr}{v:Value}{o:Obj}{nm:String}{vs:Array Value}{Q:Unit->Shared->Prop}(ho:s.heap.get? I=some o)(hc:o.cls = .type nm)(hd:o.data = .fields vs)(hn:Nc.contains nm=false)(hQ:Q () s) :
 wpAny W.M A (letOwnedTupleGo target (.ref I) v) Q E s:=by
 have key:∀a:Addr,wpAny W.M A (do
  let o <-load I
  match o.cls,o.data with
  | .type n,.fields vs=>if Nc.contains n&&vs[0]? == some (rawInt a)then do rule "for.unpacks-the-owned-tuple";updateField I 0 .none
  | _,_=>pure ()) Q E s:=by
  intro a
  refine wpAny_bind (wpAny_load ho ?_)
  rw[hc,hd]
  simp only[hn,Bool.false_and,Bool.false_eq_true,if_false]
  exact wpAny_pure hQ
 cases target<;>first|exact wpAny_pure hQ|(cases v<;>first|exact wpAny_pure hQ|exact key _)
theorem Eb.one(Y:Ac W env c h₀)(R:Ak W h₀ env names H ρ s){a:Addr}(hn:s.heap.get? a=none)(hb:W.b₀.objs.size<=a):Eb h₀ env H [a]:=fun b hb'=>by
 rcases List.mem_cons.mp hb' with rfl|h
 ·obtain⟨q1,q2,q3,q4,q5⟩:=R.new_sep hn hb
  exact⟨q1,q2,q3,Ui Y R hn⟩
 ·cases h
theorem To{xs:List V}{items:List Value}(h:Dc W xs items){i:Nat}{x:V}(e:xs[i]? = some x):∃u,items[i]? = some u/\VR W x u:=h.get i e
theorem Ws(hh:A.handled=none)(target:Expr){a I:Addr}{xs:List V}:Xy W A target I [I] (xs.map .v) (fun H'=>H' a=some (.list xs)) (fun i h=>h.IsListIter I a i) where
 frame:=fun i h h' st hk=>st.at fun o e=>hk I (.head _) o e
 live:=fun i h st b hb=>by
  rcases List.mem_cons.mp hb with rfl|hb
  ·obtain⟨o,e,_⟩:=st;exact⟨o,e⟩
  ·cases hb
 self:=fun st hQ=>wpAny_pyIter_listiter st hQ
 turn:=fun {h₀ env c names H ρ s i x E E'} Y R hid g st hx=>by
  obtain⟨items,h1,r1,z1⟩:=R.isList g
  rw[List.getElem?_map]at hx
  obtain⟨x',hx',rfl⟩:=Option.map_eq_some_iff.mp hx
  obtain⟨u,hu,hv⟩:=To r1 hx'
  refine wpAny_pyNext_list_item st h1 (x:=u) (by simpa using hu) fun h' st' hs'=>⟨u,rfl,?_⟩
  have R':=R.moveBut (h':=h') hid s.toks fun b o hb e=>hs'.extBut b o (fun q=>hb (by simp[q])) e
  obtain⟨o,o1,o2,o3⟩:=st'
  exact K5 o1 o2 o3 (by decide) ⟨R',⟨o,o1,o2,o3⟩,.v hv,fun b o hb e=>hs'.extBut b o (fun q=>hb (by simp[q])) e⟩
 done:=fun {h₀ env c names H ρ s E} Y R hid g st=>by
   obtain⟨items,h1,r1,z1⟩:=R.isList g
   refine wpAny_pyNext_list_end hh st h1 (by simp[r1.length]) fun h' he'=>⟨rfl,R.moveBut (h':=h') hid s.toks (fun b o hb e=>he' b o (fun q=>hb (by simp[q])) e),fun b o hb e=>he' b o (fun q=>hb (by simp[q])) e⟩
theorem Uj(hh:A.handled=none)(target:Expr){a I:Addr}{xs:List V}:Xy W A target I [I] (xs.map .v) (fun H'=>H' a=some (.tuple xs)) (fun i h=>h.IsTupleIter I a i) where
 frame:=fun i h h' st hk=>st.at fun o e=>hk I (.head _) o e
 live:=fun i h st b hb=>by
  rcases List.mem_cons.mp hb with rfl|hb
  ·obtain⟨o,e,_⟩:=st;exact⟨o,e⟩
  ·cases hb
 self:=fun st hQ=>wpAny_pyIter_tupleiter st hQ
 turn:=fun {h₀ env c names H ρ s i x E E'} Y R hid g st hx=>by
  obtain⟨items,h1,r1,z1⟩:=R.isTup g
  rw[List.getElem?_map]at hx
  obtain⟨x',hx',rfl⟩:=Option.map_eq_some_iff.mp hx
  obtain⟨u,hu,hv⟩:=To r1 hx'
  refine wpAny_pyNext_tuple_item st h1 (x:=u) (by simpa using hu) fun h' st' hs'=>⟨u,rfl,?_⟩
  have R':=R.moveBut (h':=h') hid s.toks fun b o hb e=>hs'.extBut b o (fun q=>hb (by simp[q])) e
  obtain⟨o,o1,o2,o3⟩:=st'
  exact K5 o1 o2 o3 (by decide) ⟨R',⟨o,o1,o2,o3⟩,.v hv,fun b o hb e=>hs'.extBut b o (fun q=>hb (by simp[q])) e⟩
 done:=fun {h₀ env c names H ρ s E} Y R hid g st=>by
   obtain⟨items,h1,r1,z1⟩:=R.isTup g
   refine wpAny_pyNext_tuple_end hh st h1 (by simp[r1.length]) fun h' he'=>⟨rfl,R.moveBut (h':=h') hid s.toks (fun b o hb e=>he' b o (fun q=>hb (by simp[q])) e),fun b o hb e=>he' b o (fun q=>hb (by simp[q])) e⟩
theorem Tp(target:Expr){I:Addr}{x:List Nat}{St:Nat->Heap->Prop}(wk:Walks W.prog W.w A I [I] [I] x.length (SignAt (Bi x)) St)(lv:∀i h,St i h->∃o,h.get? I=some o):Xy W A target I [I] (x.map fun c=> .v (.str [c])) (fun _=>True) St where
 frame:=fun i h h' st hk=>wk.frame i h h' st hk
 live:=fun i h st b hb=>by
  rcases List.mem_cons.mp hb with rfl|hb
  ·exact lv i h st
  ·cases hb
 self:=fun st hQ=>wk.self _ _ _ _ st hQ
 turn:=fun {h₀ env c names H ρ s i y E E'} Y R hid g st hx=>by
  rw[List.getElem?_map]at hx
  obtain⟨ch,hc,rfl⟩:=Option.map_eq_some_iff.mp hx
  refine wk.item i s _ _ (List.getElem?_eq_some_iff.mp hc).1 st fun v h' tk hv st' hk=>?_
  obtain⟨c',u,h1,rfl⟩:=hv
  have h1':x[i]? = some c':=by rw[<-List.getElem?_toArray];exact h1
  rw[hc]at h1';cases h1'
  refine⟨_,rfl,?_⟩
  have R':=R.moveBut (h':=h') hid tk hk
  have hq:Ak W h₀ env names H ρ {s with heap:=h',toks:=tk} /\St (i+1) h'/\ItR W h' (.v (.str [ch])) (.str ⟨#[ch]⟩ u)/\∀b o,b∉[I]->s.heap.get? b=some o->h'.get? b=some o:=⟨R',st',.v (.str [ch] u),hk⟩
  cases target<;>exact wpAny_pure hq
 done:=fun {h₀ env c names H ρ s E} Y R hid g st=>by
   rw[List.length_map]at st
   exact wk.done s _ _ st fun h' tk hk=>⟨rfl,R.moveBut hid tk hk,hk⟩
theorem Uk(hh:A.handled=none)(target:Expr){I:Addr}{a:Int}{k:Nat}:Xy W A target I [I] ((List.range k).map fun(i:Nat)=> .v (.int (a+i))) (fun _=>True) (fun i h=>IsRangeIter h I (a+(i:Nat)) ((k:Int)-(i:Nat)) 1) where
 frame:=fun i h h' st hk=>hk I (.head _) _ st
 live:=fun i h st b hb=>by
  rcases List.mem_cons.mp hb with rfl|hb
  ·exact⟨_,st⟩
  ·cases hb
 self:=fun st hQ=>wpAny_pyIter_rangeiter st hQ
 turn:=fun {h₀ env c names H ρ s i x E E'} Y R hid g st hx=>by
  rw[List.getElem?_map]at hx
  obtain⟨j,hj,rfl⟩:=Option.map_eq_some_iff.mp hx
  obtain⟨hlt,he⟩:=List.getElem?_eq_some_iff.mp hj
  simp at hlt he
  subst he
  refine wpAny_pyNext_range_item st (by(first|lia|omega)) fun h' st' hs'=>⟨_,rfl,?_⟩
  have R':=R.moveBut (h':=h') hid (s.toks+1) fun b o hb e=>hs'.extBut b o (fun q=>hb (by simp[q])) e
  refine K5 st' rfl rfl (by decide) ⟨R',?_,.v (.int _ _),fun b o hb e=>hs'.extBut b o (fun q=>hb (by simp[q])) e⟩
  have e1:a+((i+1:Nat):Int)=a+(i:Int)+1:=by(first|lia|omega)
  have e2:(k:Int)-((i+1:Nat):Int)=(k:Int)-(i:Int)-1:=by(first|lia|omega)
  rw[e1,e2];exact st'
 done:=fun {h₀ env c names H ρ s E} Y R hid g st=>by
   simp only[List.length_map,List.length_range]at st
   refine wpAny_pyNext_range_end hh st (by(first|lia|omega)) fun h' he'=>⟨rfl,R.moveBut (h':=h') hid s.toks (fun b o hb e=>he' b o (fun q=>hb (by simp[q])) e),fun b o hb e=>he' b o (fun q=>hb (by simp[q])) e⟩
theorem Ro.at{es:List (Int×V)}{kvs:List (Int×Value)}(h:Ro W es kvs):∀ {i:Nat} {e:Int×V},es[i]? = some e->∃u,kvs[i]? = some (e.1,u):=by
 induction h with
 | nil=>intro i e h;simp at h
 | cons hv t ih=>
   intro i e h
   cases i with
   | zero=>simp at h;subst h;exact⟨_,rfl⟩
   | succ i=>simp at h;simpa using ih h
theorem Wt(hh:A.handled=none)(target:Expr){d I:Addr}{es:List (Int×V)}{kvs:List (Int×Value)}{ep:Nat}(hk:Ro W es kvs)(hne:d≠I) :
 Xy W A target I [I,d] (es.map fun e=> .v (.int e.1)) (fun _=>True) (fun i h=>h.IsKeyIter I d i kvs.length ep/\h.DictAt (intKind W.prog W.w) d kvs ep) where
 frame:=fun i h h' st hk=>⟨st.1.at fun o e=>hk I (by simp) o e,st.2.at' fun o e=>hk d (by simp) o e⟩
 live:=fun i h st b hb=>by
  rcases List.mem_cons.mp hb with rfl|hb
  ·obtain⟨o,e,_⟩:=st.1;exact⟨o,e⟩
  ·rcases List.mem_cons.mp hb with rfl|hb
   ·obtain⟨o,_,e,_⟩:=st.2;exact⟨o,e⟩
   ·cases hb
 self:=fun st hQ=>wpAny_pyIter_keyiter st.1 hQ
 turn:=fun {h₀ env c names H ρ s i x E E'} Y R hid g st hx=>by
  rw[List.getElem?_map]at hx
  obtain⟨e,he,rfl⟩:=Option.map_eq_some_iff.mp hx
  obtain⟨u,hu⟩:=hk.at he
  have hid1:Eb h₀ env H [I]:=fun b hb=>hid b (by simp at hb;simp[hb])
  refine wpAny_pyNext_dict_item st.1 st.2 hu fun key h' hkey st' hs'=>⟨key,rfl,?_⟩
  have R':=R.moveBut (h':=h') hid1 s.toks fun b o hb e=>hs'.extBut b o (fun q=>hb (by simp[q])) e
  have hk':∃t,key = .int e.1 t:=by
   refine Aa fun nY=>?_
   cases key<;>simp[intKind,Value.isInt]at hkey
   refine nY ?_;clear nY
   subst hkey;exact⟨_,rfl⟩
  refine Aa fun nY=>?_
  obtain⟨t,rfl⟩:=hk'
  have st2:=st.2.extBut hs'.extBut hne
  obtain⟨o,o1,o2,o3⟩:=st'
  refine nY ?_;clear nY
  exact K5 o1 o2 o3 (by decide) ⟨R',⟨⟨o,o1,o2,o3⟩,st2⟩,.v (.int _ _),fun b o hb e=>hs'.extBut b o (fun q=>hb (by simp[q])) e⟩
 done:=fun {h₀ env c names H ρ s E} Y R hid g st=>by
   have hid1:Eb h₀ env H [I]:=fun b hb=>hid b (by simp at hb;simp[hb])
   refine wpAny_pyNext_dict_end hh st.1 st.2 (by simp[hk.length]) fun h' he'=>⟨rfl,R.moveBut (h':=h') hid1 s.toks (fun b o hb e=>he' b o (fun q=>hb (by simp[q])) e),fun b o hb e=>he' b o (fun q=>hb (by simp[q])) e⟩
end Mine.Internal
namespace Mine.Internal
open PySem PySem.W PyProof.Rows
variable {W:Wd} {G:Ap} {A:Around} {h₀:HB} {env:Env} {c:Cx} {names:List Str} {H H':AH} {ρ ρ':Ao} {s s':Shared} {E:Value->Shared->Prop} {n:Nat} {Q:Ad} {Er:EP}
noncomputable def SS(W:Wd)(G:Ap)(n:Nat)(c:Cx)(e:Expr)(x:X)(two:Bool):Prop:=
 ∀ {A:Around} {env:Env} {h₀:HB} {H:AH} {ρ:Ao} {s:Shared} {K:List It->(AH->Prop)->AH->Prop} {target:Expr} {Q:Value->Shared->Prop} {E:EP} {Em:Value->Shared->Prop},
  Kq target=two->Ky A c h₀ env n->Ac W env c h₀->Ak W h₀ env c.names H ρ s->Et G (Ab G n) x ρ H K E->(∀v s',EM W h₀ env c.names ρ E v s'->Em v s')->
  (∀I hs its g Obs H' s',Xy W A target I hs its g Obs->Eb h₀ env H' hs->Obs 0 s'.heap->Ak W h₀ env c.names H' ρ s'->K its g H'->Q (.ref I) s')->
  wpAny W.M A (eval e env) (fun v s₁=>wpAny W.M A (pyIter v) Q Em s₁) Em s
theorem Ak.drop(R:Ak W h₀ env names H ρ s)(a:Addr):Ak W h₀ env names (fun b=>if b=a then none else H b) ρ s where
 ns:=R.ns
 cell:=R.cell
 keep:=R.keep
 objs:=fun b o e=>by
  split at e
  ·cases e
  ·exact R.objs b o e
 sep:=fun b o e=>by
  split at e
  ·cases e
  ·exact R.sep b o e
 gens:=R.gens
 os:=R.os
 above:=R.above
 low:=fun b o e=>by
  split at e
  ·cases e
  ·exact R.low b o e
theorem Ak.cells_ne(R:Ak W h₀ env names H ρ s)(Y:Ac W env c h₀){a:Addr}{o:O}(e:H a=some o):∀p∈env.cells,p.2≠a:=fun p hp q=>(R.sep a o e).2.2 p.1 (by rw[Y.look p hp,q])
theorem Aak(hf:c.hnd=false){K:List It->(AH->Prop)->AH->Prop}{target:Expr}{Q:Value->Shared->Prop}{Em:Value->Shared->Prop}(ok:Ky A c h₀ env n)(Y:Ac W env c h₀)(R':Ak W h₀ env c.names H' ρ s'){a:Addr}(q':Ki (.ref a) H' K)
 (hQ:∀I hs its g Obs H' s',Xy W A target I hs its g Obs->Eb h₀ env H' hs->Obs 0 s'.heap->Ak W h₀ env c.names H' ρ s'->K its g H'->Q (.ref I) s'):wpAny W.M A (pyIter (.ref a)) Q Em s':=by
 delta Ki at q'
 dsimp only at q'
 split at q'
 ·rename_i xs e
  obtain⟨items,h1,r1,z1⟩:=R'.isList e
  refine wpAny_pyIter_list h1 ?_
  refine hQ s'.heap.objs.size [s'.heap.objs.size] _ _ _ H' _ (Ws (ok.handled hf) target) (Eb.one Y R' (B0 _) R'.up) ?_ (R'.pushHid _ _) q'
  exact⟨_,Heap.get?_push_size _ rfl,rfl,rfl⟩
 ·rename_i xs e
  obtain⟨items,h1,r1,z1⟩:=R'.isTup e
  refine wpAny_pyIter_tuple h1 ?_
  refine hQ s'.heap.objs.size [s'.heap.objs.size] _ _ _ H' _ (Uj (ok.handled hf) target) (Eb.one Y R' (B0 _) R'.up) ?_ (R'.pushHid _ _) q'
  exact⟨_,Heap.get?_push_size _ rfl,rfl,rfl⟩
 ·rename_i es e
  obtain⟨kvs,⟨o,es',ep,g1,g2,g3,g4,g5,g6⟩,r1,z1⟩:=R'.isDict e
  have hd:(a==sysModules)=false:=beq_eq_false_iff_ne.mpr (Nat.ne_of_gt (Nat.lt_of_lt_of_le Y.lo (R'.low a _ e)))
  refine wpAny_pyIter_dict (knd:=intKind W.prog W.w) (kvs:=kvs) (ep:=ep) hd ⟨o,es',g1,g2,g3,g4,g5,g6⟩ ?_
  have hne:a≠s'.heap.objs.size:=Nat.ne_of_lt (Heap.lt_size g1)
  have R2:=(R'.drop a).pushHid {cls:= .type "dict_keyiterator",data:= .fields #[.ref a,.int 0 0,.int kvs.length 0,.int ep 0]} s'.toks
  refine hQ s'.heap.objs.size [s'.heap.objs.size,a] _ _ _ _ _ (Wt (ok.handled hf) target (kvs:=kvs) (ep:=ep) r1 hne) ?_ ?_ R2 q'
  ·intro b hb
   rcases List.mem_cons.mp hb with rfl|hb
   ·exact Eb.one Y (R'.drop a) (B0 _) R'.up _ (.head _)
   ·simp at hb
    subst hb
    exact⟨by simp,(R'.sep _ _ e).1,(R'.sep _ _ e).2.1,R'.cells_ne Y e⟩
  ·exact⟨⟨_,Heap.get?_push_size _ rfl,rfl,rfl⟩,⟨o,es',Heap.get?_push_of_some _ g1,g2,g3,g4,g5,g6⟩⟩
 ·exact q'.elim
theorem Aal(hf:c.hnd=false){e:Expr}{x:X}{two:Bool}(h:SE W G n c e x):SS W G n c e (.val x) two:=by
 intro A env h₀ H ρ s K target Q E Em ht ok Y R q hE hQ
 simp only[Bh,Vj,Zn,C2]at q
 refine wpAny_mono (h ok Y R q) (fun v s' r=>?_) hE
 refine Aa fun nY=>?_
 obtain⟨a,H',hv,R',q'⟩:=r
 refine nY ?_;clear nY
 induction hv with
 | str x t=>
   cases ha:(Bi x).cps.all (· < 128)
   ·refine wpAny_pyIter_wide ha ?_
    exact hQ s'.heap.objs.size [s'.heap.objs.size] _ _ _ H' _ (Tp target (Walks.strWide (ok.handled hf) _ (Bi x) t) fun i h st=>let ⟨o,ho,_⟩:=st;⟨o,ho⟩) (Eb.one Y R' (B0 _) R'.up) ⟨_,Heap.get?_push_size _ rfl,rfl,rfl⟩ (R'.pushHid _ _) q'
   ·refine wpAny_pyIter_ascii ha ?_
    exact hQ s'.heap.objs.size [s'.heap.objs.size] _ _ _ H' _ (Tp target (Walks.strAscii (ok.handled hf) _ (Bi x) t) fun i h st=>let ⟨o,ho,_⟩:=st;⟨o,ho⟩) (Eb.one Y R' (B0 _) R'.up) ⟨_,Heap.get?_push_size _ rfl,rfl,rfl⟩ (R'.pushHid _ _) q'
 | ref a=>exact Aak hf ok Y R' q' hQ
 | _=>exact False.elim q'
theorem Wu(g:F0 W G)(hf:c.hnd=false){p pos:Pos}{es:List Expr}{xs:List X}{two:Bool}(hg:c.global "range" = true)(hs:Rp W G n c es xs)(hn:NS es):SS W G n c (.Call (.Name "range" p) es [] pos) (.range xs) two:=by
 intro A env h₀ H ρ s K target Q E Em ht ok Y R q hE hQ
 simp only[Bh,Vj,Zn,C2]at q
 refine M9 g Y R (.inr ⟨"range",rfl⟩) hg (by decide) (by decide) (by kernel_rfl) (by decide) hn (wpAny_mono (Ei (Q':=fun us s'=>(Gx fun as H'=>Rq (Dc W as us.pos) (us.kw = []) (Ak W h₀ env c.names H' ρ s') (Kj as H' K))) hs hn ok Y R q fun as us H' s' hv R' q'=>⟨as,H',hv,rfl,R',q'⟩) (fun us s' r=>?_) hE)
 obtain⟨as,H',hv,hkw,R',q'⟩:=r
 obtain⟨us,kw⟩:=us
 simp only at hv hkw
 subst hkw
 have b1:B6=1048576:=rfl
 have core:∀(r:Addr) (a b:Int) (t u v:Tok) (s2:Shared),Ak W h₀ env c.names H' ρ s2->IsRange s2.heap r a b 1 t u v->0<=a->a<=B6-> -(B6:Int)<=b->b<=B6->
  K ((List.range (b-a).toNat).map fun(i:Nat)=> .v (.int (a+i))) (fun _=>True) H'->wpAny W.M A (pyIter (.ref r)) Q Em s2:=by
  intro r a b t u v s2 R2 hr h1 h2 h3 h4 hk
  refine wpAny_pyIter_range hr (small_one (by(first|lia|omega)) (by(first|lia|omega)) (by(first|lia|omega)) (by(first|lia|omega))) ?_
  refine hQ s2.heap.objs.size [s2.heap.objs.size] _ _ _ H' _ (Uk (ok.handled hf) target (a:=a) (k:=(b-a).toNat)) (Eb.one Y R2 (B0 _) R2.up) ?_ (R2.pushHid _ _) hk
  rw[rangeSize_nat]
  simp only[Int.natCast_zero,Int.add_zero,Int.sub_zero]
  exact Heap.get?_push_size _ rfl
 cases hv with
 | nil=>exact False.elim q'
 | cons hu t=>cases t with
   | nil=>
     apply Au hu q';intro k t q'
     refine call_range_1 ?_
     have R2:=R'.pushHid {cls:= .type "range",data:= .fields #[.int 0 s'.toks,.int k t,.int 1 (s'.toks+1)]} (s'.toks+1+1)
     refine core _ 0 k _ _ _ _ R2 (Heap.get?_push_size _ rfl) (by(first|lia|omega)) (by(first|lia|omega)) q'.1.1 q'.1.2 ?_
     simpa using q'.2
   | cons hu2 t=>cases t with
     | nil=>
       apply Au hu q';intro m t q';apply Au hu2 q';intro k t2 q'
       refine call_range_2 ?_
       have R2:=R'.pushHid {cls:= .type "range",data:= .fields #[.int m t,.int k t2,.int 1 s'.toks]} (s'.toks+1)
       have:=q'.1
       exact core _ m k _ _ _ _ R2 (Heap.get?_push_size _ rfl) (by(first|lia|omega)) (by(first|lia|omega)) (by(first|lia|omega)) (by(first|lia|omega)) q'.2
     | cons=>exact False.elim q'
end Mine.Internal
namespace Mine.Internal
open PySem PySem.W PyProof.Rows
variable {W:Wd} {G:Ap} {A:Around} {h₀:HB} {env:Env} {c:Cx} {names:List Str} {H H':AH} {ρ ρ':Ao} {s s':Shared} {E:Value->Shared->Prop} {n:Nat} {Q:Ad} {Er:EP}
theorem Oo:∀ {l:List Str} {x y:Str} {i:Nat},l.idxOf? x=some i->l.idxOf? y=some i->x=y
 | [],_,_,_,h,_=>by simp at h
 | a::l,x,y,i,h1,h2=>by
   rw[List.idxOf?_cons]at h1 h2
   split at h1
   ·rename_i q1
    cases h1
    split at h2
    ·rename_i q2
     exact(beq_iff_eq.mp q1).symm.trans (beq_iff_eq.mp q2)
    ·simp at h2
   ·split at h2
    ·cases h2;simp at h1
    ·obtain⟨j,h3,h4⟩:=Option.map_eq_some_iff.mp h1
     obtain⟨k,h5,h6⟩:=Option.map_eq_some_iff.mp h2
     have:j=k:=by(first|lia|omega)
     subst this
     exact Oo h3 h5
theorem Ul{x:Str}{i:Nat}(h:c.own x=some i):c.names.idxOf? x=some i/\(c.sc.names.lookup x=some .local\/c.sc.names.lookup x=some .cell):=by
 unfold Cx.own at h
 refine Aa fun nY=>?_
 split at h
 ·rename_i q
  refine nY ?_;clear nY
  refine⟨h,?_⟩
  unfold S9 at q
  split at q<;>first|(rename_i e;simp[e])|cases q
 ·cases h
theorem Nd(Y:Ac W env c h₀)(R:Ak W h₀ env c.names H ρ s){x:Str}{i:Nat}{a:V}{u:Value}(hs:c.own x=some i)(hv:VR W a u) :
 wpAny W.M A (storeName env x u) (fun _ s'=>Ak W h₀ env c.names H (ρ.set i (some a)) s') E s:=by
 refine Aa fun nY=>?_
 obtain⟨hi,hk⟩:=Ul hs
 have other:∀ {y:Str} {j:Nat} {v:V},c.names.idxOf? y=some j->y≠x->(ρ.set i (some a))[j]? = some (some v)->ρ[j]? = some (some v):=by
  intro y j v h1 h2 h3
  have:i≠j:=fun q=>h2 (Oo h1 (q▸hi))
  rwa[List.getElem?_set_ne this]at h3
 have same:∀ {j:Nat} {v:V},c.names.idxOf? x=some j->(ρ.set i (some a))[j]? = some (some v)->v=a:=by
  intro j v h1 h3
  rw[hi]at h1;cases h1
  rw[List.getElem?_set_self']at h3
  cases q:ρ[i]? with
  | none=>rw[q]at h3;cases h3
  | some z=>rw[q]at h3;simp at h3;exact h3.symm
 rcases hk with hk|hk
 ·have hx:env.kindOf x=some .local:=Y.kinds x _ hk (by simp)
  obtain⟨m,h1,h2⟩:=R.ns
  refine nY ?_;clear nY
  refine wpAny_storeName_local hx h1 (fun h' hn hb=>?_) (by simp[Y.kind])
  refine⟨⟨_,hn,fun y j v e1 e2 e3=>?_⟩,?_,?_,?_,R.sep,R.gens,R.os,R.above,R.low⟩
  ·refine Aa fun nY=>?_
   by_cases q:y=x
   ·subst q
    refine nY ?_;clear nY
    rw[same e1 e3]
    exact⟨u,by simp,hv⟩
   ·refine nY ?_;clear nY
    simp only[q,if_false]
    exact h2 y j v e1 e2 (other e1 q e3)
  ·intro y b e
   refine Aa fun nY=>?_
   obtain⟨w,⟨o,ho,hd⟩,r⟩:=R.cell y b e
   refine nY ?_;clear nY
   refine⟨w,⟨o,(hb.2 b (Y.apart y b e)).trans ho,hd⟩,fun j v e1 e2 e3=>r j v e1 e2 (other e1 (fun q=>?_) e3)⟩
   refine Aa fun nY=>?_
   subst q
   rw[hx]at e2
   rcases e2 with e2|e2<;>cases e2
  ·intro b o e
   refine Aa fun nY=>?_
   obtain⟨o',e1,z⟩:=R.keep b o e
   refine nY ?_;clear nY
   exact⟨o',(hb.2 b (fun q=>by rw[q,Y.new]at e;cases e)).trans e1,z⟩
  ·intro b o e
   refine Aa fun nY=>?_
   obtain⟨ob,g1,g2⟩:=R.objs b o e
   refine nY ?_;clear nY
   exact⟨ob,(hb.2 b (R.sep b o e).2.1).trans g1,g2⟩
 ·have hx:env.kindOf x=some .cell:=Y.kinds x _ hk (by simp)
  obtain⟨ca,hca⟩:=Y.cells x (.inl hx)
  obtain⟨w,hw,hr⟩:=R.cell x ca hca
  refine nY ?_;clear nY
  refine wpAny_storeName_cell Y.kind hx hca hw fun h' hn hb=>?_
  refine⟨?_,?_,?_,?_,R.sep,R.gens,R.os,R.above,R.low⟩
  ·refine Aa fun nY=>?_
   obtain⟨m,h1,h2⟩:=R.ns
   refine nY ?_;clear nY
   refine⟨m,h1.sameBut hb (fun q=>Y.apart x ca hca q.symm),fun y j v e1 e2 e3=>h2 y j v e1 e2 (other e1 (fun q=>?_) e3)⟩
   subst q
   rw[hx]at e2;cases e2
  ·intro y b e
   refine Aa fun nY=>?_
   by_cases q:y=x
   ·subst q
    rw[hca]at e;cases e
    refine nY ?_;clear nY
    exact⟨some u,hn,fun j v e1 e2 e3=>⟨u,rfl,by rw[same e1 e3];exact hv⟩⟩
   ·obtain⟨w,⟨o,ho,hd⟩,r⟩:=R.cell y b e
    refine nY ?_;clear nY
    exact⟨w,⟨o,(hb.2 b (fun z=>q (Y.inj y x b e (z▸hca)))).trans ho,hd⟩,fun j v e1 e2 e3=>r j v e1 e2 (other e1 q e3)⟩
  ·intro b o e
   refine Aa fun nY=>?_
   obtain⟨o',e1,z⟩:=R.keep b o e
   refine nY ?_;clear nY
   refine⟨o',(hb.2 b (fun q=>?_)).trans e1,z⟩
   refine Aa fun nY=>?_
   obtain⟨p,hp,hp2⟩:=A4 hca
   have:=Y.newc p hp
   rw[hp2,<-q,e]at this;cases this
  ·intro b o e
   refine Aa fun nY=>?_
   obtain⟨ob,g1,g2⟩:=R.objs b o e
   refine nY ?_;clear nY
   exact⟨ob,(hb.2 b (fun q=>(R.sep b o e).2.2 x (q▸hca))).trans g1,g2⟩
theorem Nf(Y:Ac W env c h₀)(R:Ak W h₀ env c.names H ρ s)(hh:A.handled=none){x y:Str}{px py tp:Pos}{k i j:Nat}{T:Addr}{a b:V}{u1 u2:Value}(hx:c.own x=some i)(hy:c.own y=some j)(ht:s.heap.IsTuple T #[u1,u2])(h1:VR W a u1)(h2:VR W b u2) :
 wpAny W.M A (assign (.Tuple [.Name x px,.Name y py] k tp) env (.ref T)) (fun _ s'=>Ak W h₀ env c.names H ((ρ.set i (some a)).set j (some b)) s') E s:=by
 refine wpAny_assign_Tuple hh ht rfl rfl fun h' hk=>?_
 have R':Ak W h₀ env c.names H ρ {s with heap:=h'}:=R.move s.toks fun b o e=>hk b o (fun q=>by rw[q,B0]at e;cases e) e
 refine wpAny_assignInOrder_more ?_
 refine wpAny_assign_Name (wpAny_mono (Nd Y R' hx h1) (fun _ s1 R1=>?_) fun _ _ e=>e)
 refine wpAny_assignInOrder_more ?_
 exact wpAny_assign_Name (wpAny_mono (Nd Y R1 hy h2) (fun _ s2 R2=>wpAny_assignInOrder_none R2) fun _ _ e=>e)
theorem Ng(Y:Ac W env c h₀)(R:Ak W h₀ env c.names H ρ s)(hh:A.handled=none){target:Expr}{t:P8}{it:It}{v:Value}{N:Ao->Prop}(ht:Vs c target=some t)(hi:ItR W s.heap it v)(q:Kl t it ρ H N) :
 wpAny W.M A (assign target env v) (fun _ s'=>∃ρ',Ak W h₀ env c.names H ρ' s'/\N ρ') E s:=by
 rcases X6 ht with⟨x,p,rfl,i,h1,rfl⟩ | ⟨x,px,y,py,k,tp,rfl,i,h1,j,h2,rfl⟩
 ·clear ht
  delta Kl at q
  cases hi with
  | v hv=>exact wpAny_assign_Name (wpAny_mono (Nd Y R h1 hv) (fun _ s' R'=>⟨_,R',q⟩) fun _ _ e=>e)
  | pair _ _ _=>exact q.elim
 ·clear ht
  delta Kl at q
  cases hi with
  | v hv=>
    rename_i va
    cases va with
    | ref a=>
      cases hv
      simp only at q
      split at q
      ·rename_i a1 a2 e
       obtain⟨items,g1,r1,z1⟩:=R.isTup e
       obtain⟨u1,u2,rfl,v1,v2⟩:=Acl r1
       exact wpAny_mono (Nf Y R hh h1 h2 g1 v1 v2) (fun _ s' R'=>⟨_,R',q⟩) fun _ _ e=>e
      ·exact q.elim
    | _=>exact q.elim
  | pair ht v1 v2=>exact wpAny_mono (Nf Y R hh h1 h2 ht v1 v2) (fun _ s' R'=>⟨_,R',q⟩) fun _ _ e=>e
end Mine.Internal
namespace Mine.Internal
open PySem PySem.W PyProof.Rows
variable {W:Wd} {G:Ap} {A:Around} {h₀:HB} {env:Env} {c:Cx} {names:List Str} {H H':AH} {ρ ρ':Ao} {s s':Shared} {E:Value->Shared->Prop} {n:Nat} {Q:Ad} {Er:EP}
noncomputable def Hp(W:Wd)(h₀:HB)(env:Env)(names:List Str)(N:Ao->AH->Prop)(Rt:Ad)(f:Flow)(s':Shared):Prop:=match f with
 | .next=>(Gx fun ρ' H'=>Ak W h₀ env names H' ρ' s'/\N ρ' H')
 | .ret v=>(Rm fun a H' ρ'=>Go (VR W a v) (Ak W h₀ env names H' ρ' s') (Rt a H'))
 | _=>False
noncomputable def EMs(W:Wd)(h₀:HB)(env:Env)(names:List Str)(b:Bool)(ρ:Ao)(E:EP)(v:Value)(s':Shared):Prop:=∃ρ':Ao,(b=true->ρ'=ρ)/\EM W h₀ env names ρ' E v s'
theorem EM.st{b:Bool}{v:Value}(x:EM W h₀ env names ρ Er v s):EMs W h₀ env names b ρ Er v s:=⟨ρ,fun _=>rfl,x⟩
noncomputable def Op(W:Wd)(G:Ap)(n:Nat)(c:Cx)(st:Stmt)(x:S):Prop:=
 ∀ {A:Around} {env:Env} {h₀:HB} {H:AH} {ρ:Ao} {s:Shared} {N:Ao->AH->Prop} {Rt:Ad} {E:EP},Ky A c h₀ env n->Ac W env c h₀->Ak W h₀ env c.names H ρ s->Ny G (Ab G n) x ρ H N Rt E->
  wpAny W.M A (exec st env) (Hp W h₀ env c.names N Rt) (EMs W h₀ env c.names (Of x) ρ E) s
noncomputable def Gu(W:Wd)(G:Ap)(n:Nat)(c:Cx)(sts:List Stmt)(xs:List S):Prop:=
 ∀ {A:Around} {env:Env} {h₀:HB} {H:AH} {ρ:Ao} {s:Shared} {N:Ao->AH->Prop} {Rt:Ad} {E:EP},Ky A c h₀ env n->Ac W env c h₀->Ak W h₀ env c.names H ρ s->Bt G (Ab G n) xs ρ H N Rt E->
  wpAny W.M A (execs sts env) (Hp W h₀ env c.names N Rt) (EMs W h₀ env c.names (Hk xs) ρ E) s
theorem Wv:Gu W G n c [] []:=by
 intro A env h₀ H ρ s N Rt E ok Y R q
 exact wpAny_pure ⟨ρ,H,R,q⟩
theorem Ww{st:Stmt}{x:S}(h:Op W G n c st x):Gu W G n c [st] [x]:=by
 intro A env h₀ H ρ s N Rt E ok Y R q
 simp only[J2,J3]at q
 refine wpAny_execs_cons (wpAny_mono (h ok Y R q) (fun f s' r=>?_) fun _ _ e=>e)
 cases f with
 | next=>exact wpAny_pure r
 | ret v=>exact r
 | brk=>exact r.elim
 | cont=>exact r.elim
theorem Um{st:Stmt}{sts:List Stmt}{x y:S}{xs:List S}(h:Op W G n c st x)(hs:Gu W G n c sts (y::xs)):Gu W G n c (st::sts) (x::y::xs):=by
 intro A env h₀ H ρ s N Rt E ok Y R q
 rw[J3]at q
 refine wpAny_execs_cons (wpAny_mono (h ok Y R q) (fun f s' r=>?_) fun _ _ e=>(let ⟨ρ',_,z⟩:=e;⟨ρ',nofun,z⟩))
 cases f with
 | next=>
   obtain⟨ρ',H',R',q'⟩:=r
   exact wpAny_mono (hs ok Y R' q') (fun _ _ r=>r) fun _ _ e=>(let ⟨ρ',_,z⟩:=e;⟨ρ',nofun,z⟩)
 | ret v=>exact r
 | brk=>exact r.elim
 | cont=>exact r.elim
/-! the stations of a raise -/
noncomputable abbrev Fs(l:List Env)(fs:List Addr):Prop:=∀x∈l,x.scope.kind≠ .module/\∃L,x.frame=some L/\L∈fs
theorem Ak.funFrames(R:Ak W h₀ env names H ρ s)(Y:Ac W env c h₀){base:Heap}(hb:∀L∈env.locals::h₀.fs,base.get? L=none):∀ {l:List Env},Fs l (env.locals::h₀.fs)->s.heap.FunFrames base l
 | [],_=>trivial
 | x::r,h=>by
   obtain⟨k,L,hf,hm⟩:=h x (.head _)
   have:∃o,s.heap.get? L=some o/\∀vs,o.data≠ .fields vs:=by
    rcases List.mem_cons.mp hm with rfl|hm
    ·obtain⟨m,⟨o,es,ep,h1,h2,_⟩,_⟩:=R.ns
     exact⟨o,h1,fun vs q=>by rw[h2]at q;cases q⟩
    ·exact R.fsd Y hm
   obtain⟨o,ho,hd⟩:=this
   exact⟨k,⟨L,o,hf,hb L hm,ho,hd⟩,R.funFrames Y hb fun y hy=>h y (.tail _ hy)⟩
noncomputable def I6(h₀:HB)(env:Env)(e:Addr)(S:List Addr)(h:Heap):Heap:=hideAll h ((env.locals::h₀.fs)++e::S)
theorem En{e b:Addr}{S:List Addr}{h:Heap}(m:b∈env.locals::h₀.fs\/b=e\/b∈S):(I6 h₀ env e S h).get? b=none:=
 hideAll_none _ (by
  rcases m with m|rfl|m
  ·exact List.mem_append_left _ m
  ·exact List.mem_append_right _ (.head _)
  ·exact List.mem_append_right _ (.tail _ m))
theorem I7{e:Addr}{S:List Addr}{h:Heap}:(I6 h₀ env e S h).StaysIn h:=fun _ _ q=>of_hideAll _ q
theorem Q1{e b:Addr}{S:List Addr}{h:Heap}{o:Obj}(q:h.get? b=some o)(n1:b≠env.locals)(n2:b∉h₀.fs)(n3:b≠e)(n4:b∉S):(I6 h₀ env e S h).get? b=some o:=
 hideAll_get _ q fun m=>by
  rcases List.mem_append.mp m with m|m
  ·rcases List.mem_cons.mp m with m|m
   ·exact n1 m
   ·exact n2 m
  ·rcases List.mem_cons.mp m with m|m
   ·exact n3 m
   ·exact n4 m
theorem Nh(R:Ak W h₀ env names H ρ s)(Y:Ac W env c h₀){e:Addr}{cc:Cp}{cls a0 fl:Value}{S:List Addr}{h':Heap}(he:H e=some (.exc cc))(hS:Eb h₀ env H S){oe:Obj}{ws:Array Value}(ho:s.heap.get? e=some oe)(hcl:oe.cls=cls)(hdt:oe.data = .fields ws)(q:Er (.ref e) H)
 (k4:∀o' ws',h'.get? e=some o'->o'.data = .fields ws'->ws'[2]? = ws[2]?) (k1:(I6 h₀ env e S s.heap).StaysIn h') (k2:h'.TracedAtW (I6 h₀ env e S s.heap) e cls a0 fl) (k3:s.heap.UpToSlots h'):Pc W h₀ env names ρ Er (some fl) (.ref e) {s with heap:=h'}:=by
 refine Aa fun nY=>?_
 obtain⟨oe',vs,T,oT,ts,t1,⟨t2,t3⟩,t4,t5,t6,t7,t8,t9,t10⟩:=k2
 obtain⟨p1,p2,p3⟩:=R.sep e _ he
 obtain⟨ob,b1,b2⟩:=R.objs e _ he
 rw[ho]at b1
 cases b1
 have nofs:∀b,h₀.get? b=none->b∉h₀.fs:=fun b e m=>Y.fsok b m e
 have stay:∀b o,s.heap.get? b=some o->b≠env.locals->h₀.get? b=none\/b∉h₀.fs->b≠e->b∉S->h'.get? b=some o:=fun b o z n1 n2 n3 n4=>
  k1 b o (Q1 z n1 (n2.elim (nofs b) id) n3 n4)
 have onlyT:∀b o,s.heap.get? b=some o->b≠env.locals->h₀.get? b=none\/b∉h₀.fs->b≠e->b∉S->b≠T:=fun b o z n1 n2 n3 n4 x=>by
  rw[<-x,Q1 z n1 (n2.elim (nofs b) id) n3 n4]at t6;cases t6
 have cellS:∀x a,env.cells.lookup x=some a->a≠env.locals/\h₀.get? a=none/\a≠e/\a∉S:=fun x a z=>by
  refine Aa fun nY=>?_
  obtain⟨p,hp,hp2⟩:=A4 z
  refine nY ?_;clear nY
  exact⟨Y.apart x a z,hp2▸Y.newc p hp,fun x'=>p3 x (x'▸z),fun m=>(hS a m).2.2.2 p hp hp2⟩
 have nsL:(Gx fun o sl=>Go (s.heap.get? env.locals=some o) ((∀vs,o.data≠ .fields vs)) (h'.get? env.locals=some {o with slots:=sl})):=by
  refine Aa fun nY=>?_
  obtain⟨m,⟨o,es,ep,h1,h2,_⟩,_⟩:=R.ns
  obtain⟨sl,z⟩:=k3 _ _ h1 fun vs q=>by rw[h2]at q;cases q
  refine nY ?_;clear nY
  exact⟨o,sl,h1,fun vs q=>(by rw[h2]at q;cases q),z⟩
 refine nY ?_;clear nY
 refine⟨e,H,cc,rfl,⟨?_,?_,?_,?_,R.sep,R.gens,R.os,R.above,R.low⟩,he,⟨oe',vs,a0,t1,t4,t3,T,oT,ts,t5,t7,t8,t9,t10,fun b hb=>?_⟩,q⟩
 ·refine Aa fun nY=>?_
  obtain⟨m,z,r⟩:=R.ns
  refine nY ?_;clear nY
  exact⟨m,k3.ns z,r⟩
 ·intro x a z
  refine Aa fun nY=>?_
  obtain⟨w,⟨o,h1,h2⟩,r⟩:=R.cell x a z
  obtain⟨n1,n2,n3,n4⟩:=cellS x a z
  refine nY ?_;clear nY
  exact⟨w,⟨o,stay a o h1 n1 (.inl n2) n3 n4,h2⟩,r⟩
 ·intro b o z
  refine Aa fun nY=>?_
  obtain⟨o',z1,z2⟩:=R.keep b o z
  have n1:b≠env.locals:=fun x=>by rw[x,Y.new]at z;cases z
  have n3:b≠e:=fun x=>by rw[x,p1]at z;cases z
  have n4:b∉S:=fun m=>by rw[(hS b m).2.1]at z;cases z
  cases Classical.em (b∈h₀.fs)with
  | inl m=>
    obtain⟨o2,y1,y2⟩:=R.fsd Y m
    rw[z1]at y1;cases y1
    obtain⟨sl,y3⟩:=k3 b _ z1 y2
    refine nY ?_;clear nY
    exact⟨_,y3,z2.trans (.inr ⟨⟨m,(Y.fsd b m).1⟩,sl,rfl⟩)⟩
  | inr m=>(refine nY ?_;clear nY;exact⟨o',stay b o' z1 n1 (.inr m) n3 n4,z2⟩)
 ·intro a o z
  refine Aa fun nY=>?_
  cases Classical.em (a=e)with
  | inl x=>
    subst x
    rw[he]at z;cases z
    refine nY ?_;clear nY
    refine⟨oe',t1,?_⟩
    refine Aa fun nY=>?_
    cases b2 with
    | exc x1 x2 x3 x4=>
      rw[hdt]at x3
      cases x3
      refine nY ?_;clear nY
      exact .exc x1 (by rw[t2,<-hcl];exact x2) t4 (x4.imp id fun z=>(k4 oe' vs t1 t4).trans z)
  | inr x=>
    obtain⟨ob',z1,z2⟩:=R.objs a o z
    refine nY ?_;clear nY
    exact⟨ob',stay a ob' z1 (R.sep a o z).2.1 (.inl (R.sep a o z).1) x (fun m=>by rw[(hS a m).1]at z;cases z),z2⟩
 ·have hb':b=T:=by simpa using hb
  subst hb'
  refine⟨?_,?_,?_,?_⟩
  ·cases z:H b with
   | none=>rfl
   | some o=>
     refine Aa fun nY=>?_
     obtain⟨ob',z1,_⟩:=R.objs b o z
     exact absurd rfl (onlyT b ob' z1 (R.sep b o z).2.1 (.inl (R.sep b o z).1) t7 fun m=>by rw[(hS b m).1]at z;cases z)
  ·cases z:h₀.get? b with
   | none=>rfl
   | some o=>
     refine Aa fun nY=>?_
     obtain⟨o',z1,_⟩:=R.keep b o z
     cases Classical.em (b∈h₀.fs)with
     | inl m=>
       obtain⟨o2,y1,y2⟩:=R.fsd Y m
       obtain⟨sl,y3⟩:=k3 b _ y1 y2
       rw[t8]at y3;cases y3
       exact absurd t9 (y2 _)
     | inr m=>exact absurd rfl (onlyT b o' z1 (fun x=>by rw[x,Y.new]at z;cases z) (.inr m) t7 fun m=>by rw[(hS b m).2.1]at z;cases z)
  ·intro x
   refine Aa fun nY=>?_
   obtain⟨o,sl,_,y2,y3⟩:=nsL
   rw[<-x,t8]at y3;cases y3
   exact absurd t9 (y2 _)
  ·intro p hp x
   refine Aa fun nY=>?_
   obtain⟨w,⟨o,h1,_⟩,_⟩:=R.cell p.1 p.2 (Y.look p hp)
   obtain⟨n1,n2,n3,n4⟩:=cellS p.1 p.2 (Y.look p hp)
   refine nY ?_;clear nY
   exact onlyT p.2 o h1 n1 (.inl n2) n3 n4 x
theorem Yt{h₀:HB}{H:AH}:Eb h₀ env H []:=fun _ m=>nomatch m
theorem Wx{M:Model}{Em:Value->Shared->Prop}{base:Heap}{outer:List Env}{L e:Addr}{oe:Obj}{vs:Array Value}{head:Value}{hn:Bool}{Q:Unit->Shared->Prop}(hfr:A.frames=some (env::outer))(hl:s.heap.FunFrames base (env::outer))(hf:env.frame=some L)(he:s.heap.get? e=some oe)(hd:oe.data = .fields vs)(hsz:1<vs.size)
 (h:∀h' T oT ts,(∀b o,b≠e->s.heap.get? b=some o->∃sl,h'.get? b=some {o with slots:=sl})->(∀b o,b≠e->b∉(env::outer).filterMap (·.frame)->s.heap.get? b=some o->h'.get? b=some o)->
   h'.get? e=some (Obj.mapFields (·.setIfInBounds 1 (.ref T)) oe)->s.heap.get? T=none->T≠e->h'.get? T=some oT->oT.data = .fields ts->ts[3]? = some (rawInt L)->Q () {s with heap:=h'}) :
 wpAny M A (do let a <-frameOf env;let pl <-entryPlaceOf L hn;let b <-EntryCells.newEntry head a .none (rawInt L) .none pl;setField (.ref e) 1 b) Q Em s:=by
 have hne:e∉(env::outer).filterMap (·.frame):=fun hm=>by
  obtain⟨_,o,ho,hx⟩:=hl.mem hm
  rw[he]at ho;cases ho;exact hx vs hd
 refine wpAny_bind (wpAny_frameOf_fun hfr hl hf fun h₁ hs=>?_)
 refine wpAny_bind (wpAny_entryPlaceOf fun pl hpl=>?_)
 unfold EntryCells.newEntry newFields
 refine wpAny_bind (wpAny_newObj_type ?_ (hpl.sizeOk5 _ _ _ _ _))
 generalize hv:([head,.ref L,.none,rawInt L,.none]++(if pl.isEmpty then List.replicate 6 Value.none else pl))=ws
 have h3:ws.toArray[3]? = some (rawInt L):=by rw[<-hv];rcases hpl with rfl | ⟨_,_,_,_,_,_,_,rfl⟩<;>simp
 have e1:h₁.get? e=some oe:=(hs.2.1 e hne).trans he
 have e2:=Heap.get?_push_of_some (h:=h₁) {cls:= .type "traceback",dict:=none,data:= .fields ws.toArray} e1
 refine wpAny_setField e2 hd hsz (h _ h₁.objs.size {cls:= .type "traceback",dict:=none,data:= .fields ws.toArray} ws.toArray (fun b o hb e=>?_) (fun b o hb hf e=>?_) (Heap.get?_update_self _ e2 (Obj.isFreed_of_fields (Obj.data_mapFields hd _))) ?_ (Nat.ne_of_gt (Heap.lt_size e1)) ?_ rfl h3)
 ·obtain⟨sl,z⟩:=hs.2.2 b o e
  exact⟨sl,by rw[Heap.get?_update_other _ _ (Ne.symm hb)];exact Heap.get?_push_of_some _ z⟩
 ·rw[Heap.get?_update_other _ _ (Ne.symm hb)]
  exact Heap.get?_push_of_some _ ((hs.2.1 b hf).trans e)
 ·cases z:s.heap.get? h₁.objs.size with
  | none=>rfl
  | some o=>obtain⟨sl,z1⟩:=hs.2.2 _ o z;exact absurd (Heap.lt_size z1) (Nat.lt_irrefl _)
 ·rw[Heap.get?_update_other _ _ (Nat.ne_of_lt (Heap.lt_size e1))]
  exact Heap.get?_push_size _ rfl
theorem Wy(R:Ak W h₀ env names H ρ s)(Y:Ac W env c h₀){l:List Env}(stk:Fs l (env.locals::h₀.fs)){e T:Addr}{cc:Cp}{fl a0:Value}{S:List Addr}{h':Heap}{oe oT:Obj}{vs ts:Array Value}(he:H e=some (.exc cc))(hS:Eb h₀ env H S)(hSf:∀b∈S,∀o,s.heap.get? b=some o->∃ts,o.data = .fields ts)
 (ho:s.heap.get? e=some oe) (hd:oe.data = .fields vs) (h0:vs[0]? = some a0) (hsz:1<vs.size) (q:Er (.ref e) H)
 (f1:∀b o,b≠e->b∉S->s.heap.get? b=some o->∃sl,h'.get? b=some {o with slots:=sl}) (f2:∀b o,b≠e->b∉S->b∉l.filterMap (·.frame)->s.heap.get? b=some o->h'.get? b=some o)
 (f3:h'.get? e=some (Obj.mapFields (·.setIfInBounds 1 (.ref T)) oe)) (f4:s.heap.get? T=none) (f5:T≠e) (f6:h'.get? T=some oT) (f7:oT.data = .fields ts) (f8:ts[3]? = some fl):Pc W h₀ env names ρ Er (some fl) (.ref e) {s with heap:=h'} /\s.heap.UpToSlots h':=by
 have hm:=Obj.data_mapFields hd (·.setIfInBounds 1 (.ref T))
 have up:s.heap.UpToSlots h':=fun b o z n=>f1 b o (fun x=>by rw[x,ho]at z;cases z;exact n vs hd) (fun m=>by obtain⟨ts,x⟩:=hSf b m o z;exact n ts x) z
 refine⟨Nh (S:=S) (a0:=a0) R Y he hS ho rfl hd q (fun o' ws' z1 z2=>?_) (fun b o z=>?_) ⟨_,_,T,oT,ts,f3,⟨Obj.cls_mapFields _ _,?_⟩,hm,?_,?_,f5,f6,f7,f8⟩ up,up⟩
 ·rw[f3]at z1;cases z1
  rw[hm]at z2;cases z2
  exact Array.getElem?_setIfInBounds_ne (by decide)
 ·have nl:b∉env.locals::h₀.fs:=fun m=>by rw[En (.inl m)]at z;cases z
  exact f2 b o (fun x=>by rw[En (.inr (.inl x))]at z;cases z) (fun m=>by rw[En (.inr (.inr m))]at z;cases z) (fun m=>by
   obtain⟨x,hx,hx2⟩:=List.mem_filterMap.mp m
   obtain⟨_,L,hL,hm⟩:=stk x hx
   rw[hx2]at hL;cases hL
   exact nl hm) (I7 b o z)
 ·rw[Array.getElem?_setIfInBounds_ne (by decide)];exact h0
 ·simp[hsz]
 ·cases z:(I6 h₀ env e S s.heap).get? T with
  | none=>rfl
  | some o=>rw[I7 T o z]at f4;cases f4
theorem F1{M:Model}{Em:Value->Shared->Prop}{outer:List Env}(hfr:A.frames=some (env::outer))(hf:env.frame=some env.locals)(stk:Fs (env::outer) (env.locals::h₀.fs))(Y:Ac W env c h₀){Q:Unit->Shared->Prop}{v:Value}
 (x:EM W h₀ env names ρ Er v s) (h:∀s',s.heap.UpToSlots s'.heap->Pc W h₀ env names ρ Er (some (rawInt env.locals)) v s'->Q () s'):wpAny M A (noteFrame v env) Q Em s:=by
 refine Aa fun nY=>?_
 obtain⟨fl,e,H,cc,rfl,R,he,⟨oe,vs,a0,t1,t2,t3,t4⟩,q⟩:=x
 have hl:s.heap.FunFrames (I6 h₀ env e [] s.heap) (env::outer):=R.funFrames Y (fun L m=>En (.inl m)) stk
 refine nY ?_;clear nY
 unfold noteFrame
 simp only[hf]
 refine Aa fun nY=>?_
 cases fl with
 | none=>
   refine nY ?_;clear nY
   refine wpAny_bind (wpAny_field t1 t2 t4 ?_)
   rw[if_neg (by decide)]
   refine Wx hfr hl hf t1 t2 (Array.getElem?_eq_some_iff.mp t4).1 fun h' T oT ts f1 f2 f3 f4 f5 f6 f7 f8=>?_
   obtain⟨z1,z2⟩:=Wy (S:=[]) R Y stk he Yt (fun _ m=>nomatch m) t1 t2 t3 (Array.getElem?_eq_some_iff.mp t4).1 q (fun b o n _=>f1 b o n) (fun b o n _=>f2 b o n) f3 f4 f5 f6 f7 f8
   exact h _ z2 z1
 | some fl=>
   obtain⟨T,oT,ts,g1,g2,g3,g4,g5,g6⟩:=t4
   refine nY ?_;clear nY
   refine wpAny_bind (wpAny_field t1 t2 g1 ?_)
   rw[if_pos (show (Value.ref T != Value.none)=true from by simp)]
   refine wpAny_bind (wpAny_field g3 g4 g5 ?_)
   cases hx:fl==rawInt env.locals with
   | true=>
     have hx:=beq_iff_eq.mp hx
     subst hx
     exact wpAny_pure (h s (.refl _) ⟨e,H,cc,rfl,R,he,⟨oe,vs,a0,t1,t2,t3,T,oT,ts,g1,g2,g3,g4,g5,g6⟩,q⟩)
   | false=>
     rw[if_neg (by decide)]
     refine wpAny_bind (wpAny_setField g3 g4 (Array.getElem?_eq_some_iff.mp g5).1 ?_)
     have other:∀b,b≠T->(s.heap.update T (Obj.mapFields (·.setIfInBounds 3 Value.none))).get? b=s.heap.get? b:=fun b hb=>Heap.get?_update_other _ _ (Ne.symm hb)
     have nT:∀b o,s.heap.get? b=some o->(∀vs,o.data≠ .fields vs)->b≠T:=fun b o z n x=>by rw[x,g3]at z;cases z;exact n _ g4
     refine Wx hfr (hl.of_keeps fun b o hb hn=>⟨o,(other b (nT b o hb hn)).trans hb,rfl⟩) hf ((other e (Ne.symm g2)).trans t1) t2 (Array.getElem?_eq_some_iff.mp g1).1 fun h' T' oT' ts' f1 f2 f3 f4 f5 f6 f7 f8=>?_
     have hT':T'≠T:=fun x=>by
      have:=Heap.get?_update_self (Obj.mapFields (·.setIfInBounds 3 Value.none)) g3 (Obj.isFreed_of_fields (Obj.data_mapFields g4 _))
      have f4':(s.heap.update T (Obj.mapFields (·.setIfInBounds 3 Value.none))).get? T'=none:=f4
      rw[x,this]at f4';cases f4'
     obtain⟨z1,z2⟩:=Wy (S:=[T]) R Y stk he g6 (fun b m o z=>by rw[List.mem_singleton.mp m,g3]at z;cases z;exact⟨_,g4⟩) t1 t2 t3 (Array.getElem?_eq_some_iff.mp g1).1 q
      (fun b o n m z=>f1 b o n ((other b fun x=>m (by simp[x])).trans z)) (fun b o n m k z=>f2 b o n k ((other b fun x=>m (by simp[x])).trans z)) f3 ((other T' hT').symm.trans f4) f5 f6 f7 f8
     exact h _ z2 z1
theorem Sj{M:Model}{Em:Value->Shared->Prop}(Y:Ac W env c h₀){Q:Unit->Shared->Prop}{v fl:Value}{f:Option Addr}
 (x:Pc W h₀ env names ρ Er (some fl) v s) (h:∀s',Pc W h₀ env names ρ Er (some (f.elim Value.none fun f=>rawInt f)) v s'->Q () s'):wpAny M A (setFlight v f) Q Em s:=by
 obtain⟨e,H,cc,rfl,R,he,⟨oe,vs,a0,t1,t2,t3,T,oT,ts,g1,g2,g3,g4,g5,g6⟩,q⟩:=x
 unfold setFlight
 refine wpAny_bind (wpAny_field t1 t2 g1 ?_)
 rw[if_pos (show (Value.ref T != Value.none)=true from by simp)]
 have hsz:3<ts.size:=(Array.getElem?_eq_some_iff.mp g5).1
 refine wpAny_setField g3 g4 hsz (h _ ?_)
 generalize f.elim Value.none (fun f=>rawInt f)=y
 have other:∀b,b≠T->(s.heap.update T (Obj.mapFields (·.setIfInBounds 3 y))).get? b=s.heap.get? b:=fun b hb=>Heap.get?_update_other _ _ (Ne.symm hb)
 refine Nh (S:=[T]) R Y he g6 t1 rfl t2 q (fun o' ws' z1 z2=>?_) (fun b o z=>(other b fun x=>?_).trans (I7 b o z)) ⟨oe,vs,T,_,_,(other e (Ne.symm g2)).trans t1,⟨rfl,t3⟩,t2,g1,En (.inr (.inr (.head _))),g2,Heap.get?_update_self _ g3 (Obj.isFreed_of_fields (Obj.data_mapFields g4 _)),Obj.data_mapFields g4 _,?_⟩ fun b o z n=>⟨o.slots,(other b fun x=>?_).trans z⟩
 ·rw[other e (Ne.symm g2),t1]at z1;cases z1
  rw[t2]at z2;cases z2;rfl
 ·rw[x,En (.inr (.inr (.head _)))]at z;cases z
 ·simp[hsz]
 ·rw[x,g3]at z;cases z;exact n _ g4
theorem F2{M:Model}{Em:Value->Shared->Prop}(Y:Ac W env c h₀){Q:Unit->Shared->Prop}{v fl:Value}
 (x:Pc W h₀ env names ρ Er (some fl) v s) (h:∀s',Pc W h₀ env names ρ Er (some .none) v s'->Q () s'):wpAny M A (setFlight v none) Q Em s:=Sj Y x h
theorem Oq{M:Model}{Em:Value->Shared->Prop}(Y:Ac W env c h₀){v fl:Value}
 (x:Pc W h₀ env names ρ Er (some fl) v s) (h:∀s',EM W h₀ env names ρ Er v s'->Em v s'):cameBackBy M A env Em v s:=by
 unfold cameBackBy
 have x2:=x
 refine Aa fun nY=>?_
 obtain⟨e,H,cc,rfl,R,he,⟨oe,vs,a0,t1,t2,t3,T,oT,ts,g1,g2,g3,g4,g5,g6⟩,q⟩:=x
 refine nY ?_;clear nY
 refine wpAny_bind (wpAny_field t1 t2 g1 ?_)
 rw[if_neg (show ¬(Value.ref T==Value.none)=true from by simp)]
 exact Sj Y x2 fun s' z=>h s' ⟨_,z⟩
theorem Ky.tops(ok:Ky A c h₀ env n)(hc:c.cmp=false):(Li fun outer=>Go (A.frames=some (env::outer)) (env.frame=some env.locals) (Fs (env::outer) (env.locals::h₀.fs))):=by
 refine Aa fun nY=>?_
 obtain⟨outer,h1,h2⟩:=ok.top hc
 obtain⟨l,h3,h4⟩:=ok.stk
 rw[h1]at h3;cases h3
 refine nY ?_;clear nY
 exact⟨outer,h1,h2,h4⟩
theorem Wz(ok:Ky A c h₀ env n)(hc:c.cmp=false)(Y:Ac W env c h₀){v:Value}(x:EM W h₀ env names ρ' Er v s):notedBy W.M A env (fun e s'=>cameBackBy W.M A env (EMs W h₀ env names false ρ Er) e s') v s:=by
 obtain⟨outer,h1,h2,h3⟩:=ok.tops hc
 exact F1 h1 h2 h3 Y x fun s' _ y=>Oq Y y fun s2 z=>⟨ρ',nofun,z⟩
theorem Hp.unprot{N:Ao->AH->Prop}{Rt:Ad}{f:Flow}(R:Ak W h₀ env names H ρ s)(Y:Ac W env c h₀)(r:Hp W (Mine.Internal.prot env h₀.fs H s.heap) env names N Rt f s'):Hp W h₀ env names N Rt f s':=by
 cases f with
 | next=>obtain⟨ρ',H',R',q⟩:=r;exact⟨ρ',H',R.unprot Y R',q⟩
 | ret v=>obtain⟨a,H',ρ',hv,R',q⟩:=r;exact⟨a,H',ρ',hv,R.unprot Y R',q⟩
 | brk=>exact r
 | cont=>exact r
theorem Xy.stays{target:Expr}{I:Addr}{hs:List Addr}{its:List It}{g:AH->Prop}{Obs:Nat->Heap->Prop}(S:Xy W A target I hs its g Obs){i:Nat}(Y:Ac W env c h₀)(hid:Eb h₀ env H hs)(st:Obs i s.heap){names':List Str}(R':Ak W (Mine.Internal.prot env h₀.fs H s.heap) env names' H' ρ' s') :
 Obs i s'.heap/\Eb h₀ env H' hs:=by
 refine⟨S.frame i _ _ st fun b hb o e=>Mine.Internal.stays e (hid b hb).1 (hid b hb).2.2.1 (hid b hb).2.2.2 (fun m=>Y.fsok b m (hid b hb).2.1) R',fun b hb=>⟨?_,(hid b hb).2⟩⟩
 obtain⟨o,e⟩:=S.live i _ st b hb
 cases q:H' b with
 | none=>rfl
 | some z=>
   have:=(R'.sep b z q).1
   rw[Cf e (hid b hb).1 (hid b hb).2.2.1 (hid b hb).2.2.2]at this
   cases this
theorem Lq{α:Type}{l:List α}{i:Nat}{x:α}{r:List α}(h:l.drop i=x::r):l[i]? = some x/\l.drop (i+1)=r:=by
 constructor
 ·have:=congrArg List.head? h
  simpa using this
 ·have:=congrArg List.tail h
  simpa using this
noncomputable abbrev Acm(W:Wd)(h₀:HB)(env:Env)(names:List Str)(hs:List Addr)(Obs:Nat->Heap->Prop)(its:List It)(lp:List It->Ao->AH->Prop)(k:Nat)(s:Shared):Prop:=
 (Rm fun i H ρ=>Z0 (Ak W h₀ env names H ρ s) (Eb h₀ env H hs) (Obs i s.heap) (lp (its.drop i) ρ H) (i<=its.length) (k=its.length-i+1))
theorem Aam(hf:c.hnd=false)(hcm:c.cmp=false){target iter:Expr}{body:List Stmt}{pos:Pos}{t:P8}{x:X}{xs:List S}(hs:SS W G n c iter x (Kq target))(ht:Vs c target=some t)(hb:Gu W G n c body xs)(hset:∀env v,foldedSetIterable iter env v=pure v) :
 Op W G n c (.For target iter body [] pos) (.for t x xs):=by
 intro A env h₀ H ρ₀ s N Rt E ok Y R q
 simp only[Jy,Cg,Bk,Jz,Ja,J0,J1,Bm,Eg,J2,J3,Bo]at q
 refine wpAny_For (hs rfl ok Y R q (fun _ _ e=>e.st) fun I hss its g Obs H' s' S hid st R' q'=>?_) (hset env)
 refine codeAny_forLoop_any (Acm W h₀ env c.names hss Obs its (Lk g t (fun ρ H K=>Bt G (Ab G n) xs ρ H K Rt E) N)) ?_ (its.length+1)
  ⟨0,H',ρ₀,R',hid,st,q',Nat.zero_le _,by simp⟩
 rintro k s ⟨i,H,ρ,R,hid,st,q,hi,rfl⟩
 cases hd:its.drop i with
 | nil=>
   rw[hd]at q
   obtain⟨g1,q⟩:=q
   have:i=its.length:=by
    have:=congrArg List.length hd
    simp at this;(first|lia|omega)
   subst this
   refine wpAny_mono (S.done Y R hid g1 st) (fun r s₁ h₁=>?_) fun _ _ e=>e
   obtain⟨rfl,R1,_⟩:=h₁
   exact wpAny_pure ⟨ρ,H,R1,q⟩
 | cons y r=>
   rw[hd]at q
   obtain⟨g1,q⟩:=q
   obtain⟨hx,hd'⟩:=Lq hd
   have hlt:i<its.length:=(List.getElem?_eq_some_iff.mp hx).1
   refine wpAny_mono (S.turn (E':=notedBy W.M A env fun e s'=>cameBackBy W.M A env (EMs W h₀ env c.names (Of (.for t x xs)) ρ₀ E) e s') Y R hid g1 st hx) (fun r s₁ h₁=>?_) fun _ _ e=>e
   obtain⟨v,rfl,h₁⟩:=h₁
   refine wpAny_mono h₁ (fun _ s₂ h₂=>?_) fun _ _ e=>e
   obtain⟨R2,st2,hit,_⟩:=h₂
   have YP:=Y.prot R2
   refine wpAny_mono (Ng YP R2.prot (ok.handled hf) ht hit q) (fun _ s₃ h₃=>?_) fun _ _ e=>e
   obtain⟨ρ3,R3,q3⟩:=h₃
   refine wpAny_mono (hb ok.prot YP R3 q3) (fun f s₄ h₄=>?_) fun _ _ e=>(let ⟨_,_,z⟩:=e;Wz ok hcm Y (EM.unprot R2 Y z))
   cases f with
   | next=>
     obtain⟨ρ4,H4,R4,q4⟩:=h₄
     obtain⟨st4,hid4⟩:=S.stays Y hid st2 R4
     refine⟨its.length-(i+1)+1,by(first|lia|omega),i+1,H4,ρ4,R2.unprot Y R4,hid4,st4,?_,hlt,rfl⟩
     rw[hd'];exact q4
   | ret v=>
     obtain⟨a,H4,ρ4,hv,R4,q4⟩:=h₄
     exact⟨a,H4,ρ4,hv,R2.unprot Y R4,q4⟩
   | brk=>exact h₄.elim
   | cont=>exact h₄.elim
end Mine.Internal
namespace Mine.Internal
open PySem PySem.W PyProof.Rows
variable {W:Wd} {G:Ap} {A:Around} {h₀:HB} {env:Env} {c:Cx} {names:List Str} {H H':AH} {ρ ρ':Ao} {s s':Shared} {E:Value->Shared->Prop} {n:Nat} {Q:Ad} {Er:EP}
/-! the cells of a comprehension -/
noncomputable def Fk(env:Env):List (Str×NameKind)->List (Str×Addr)->List (Str×Addr)
 | [],acc=>acc
 | (nm,k)::r,acc=>if k == .free then Fk env r ((nm,(env.cells.lookup nm).getD 0)::acc)else Fk env r acc
theorem Ni(env:Env):∀(l:List (Str×NameKind)) (acc:List (Str×Addr)),(∀p∈l,p.2 = .free->(env.cells.lookup p.1).isSome=true)->
 (forIn l acc fun(x:Str×NameKind) cs=>(match x with|(name,kind)=>if (kind == .free)=true then do let a <-cellOf env name;pure (ForInStep.yield ((name,a)::cs))else pure (ForInStep.yield cs):Sem (ForInStep (List (Str×Addr)))))=pure (Fk env l acc)
 | [],acc,_=>rfl
 | (nm,k)::r,acc,h=>by
   rw[List.forIn_cons]
   have ih:=fun acc=>Ni env r acc fun p hp=>h p (.tail _ hp)
   unfold Fk
   by_cases q:(k==NameKind.free)=true
   ·simp only[q,if_true]
    have hk:=beq_iff_eq.mp q
    obtain⟨a,ha⟩:=Option.isSome_iff_exists.mp (h (nm,k) (.head _) hk)
    simp only at ha
    unfold cellOf
    rw[ha]
    exact ih _
   ·simp only[q,if_false]
    exact ih _
theorem Mg{sc:Scope}(h:∀p∈sc.names,p.2 = .free->(env.cells.lookup p.1).isSome=true):closureFor sc env=pure (Fk env sc.names []):=by
 have:=Ni env sc.names [] h
 unfold closureFor
 first
  | (rw[this];rfl)
  | (simp only[bind_pure];exact this)
  | (show (forIn sc.names [] _ >>= _)=_
     erw [this];rfl)
theorem Nj:∀ {l:List (Str×NameKind)} {acc:List (Str×Addr)} {p:Str×Addr},p∈Fk env l acc->p∈acc\/((p.1,NameKind.free)∈l/\p.2=(env.cells.lookup p.1).getD 0)
 | [],acc,p,h=> .inl h
 | (nm,k)::r,acc,p,h=>by
   unfold Fk at h
   split at h
   ·rename_i q
    have hk:=beq_iff_eq.mp q
    subst hk
    rcases Nj h with h | ⟨h1,h2⟩
    ·rcases List.mem_cons.mp h with rfl|h
     ·exact .inr ⟨.head _,rfl⟩
     ·exact .inl h
    ·exact .inr ⟨.tail _ h1,h2⟩
   ·rcases Nj h with h | ⟨h1,h2⟩
    ·exact .inl h
    ·exact .inr ⟨.tail _ h1,h2⟩
theorem Nk:∀ {l:List (Str×NameKind)} {acc:List (Str×Addr)} {p:Str×Addr},p∈acc->p∈Fk env l acc
 | [],acc,p,h=>h
 | (nm,k)::r,acc,p,h=>by
   unfold Fk
   split
   ·exact Nk (.tail _ h)
   ·exact Nk h
theorem Nl:∀ {l:List (Str×NameKind)} {acc:List (Str×Addr)} {x:Str},(x,NameKind.free)∈l->(x,(env.cells.lookup x).getD 0)∈Fk env l acc
 | (nm,k)::r,acc,x,h=>by
   unfold Fk
   rcases List.mem_cons.mp h with e|h
   ·cases e
    exact Nk (.head _)
   ·split
    ·exact Nl h
    ·exact Nl h
theorem A2{β:Type}{l:List (Str×β)}{x:Str}{b:β}(h:l.lookup x=some b):(x,b)∈l:=by
 induction l with
 | nil=>cases h
 | cons p r ih=>
   obtain⟨y,z⟩:=p
   rw[List.lookup_cons]at h
   split at h
   ·rename_i q
    cases h
    rw[beq_iff_eq.mp q];exact .head _
   ·exact .tail _ (ih h)
theorem I8{β:Type}{l:List (Str×β)}{x:Str}{b:β}(h:(x,b)∈l):∃b',l.lookup x=some b':=by
 induction l with
 | nil=>cases h
 | cons p r ih=>
   obtain⟨y,z⟩:=p
   rw[List.lookup_cons]
   split
   ·exact⟨_,rfl⟩
   ·rename_i q
    refine Aa fun nY=>?_
    rcases List.mem_cons.mp h with e|h
    ·cases e;simp at q
    ·refine nY ?_;clear nY
     exact ih h
structure Cb(c:Cx)(sc:Scope)(ts:List Str):Prop where
 kind:sc.kind = .function
 nocell:∀p∈sc.names,p.2≠ .cell
 locals:∀p∈sc.names,p.2 = .local->sc.names.lookup p.1=some .local
 own:∀p∈sc.names,p.2 = .local->p.1∈ts\/p.1∉c.names
 frees:∀p∈sc.names,p.2 = .free->c.sc.names.lookup p.1=some .cell/\sc.names.lookup p.1=some .free
 tsl:∀t∈ts,sc.names.lookup t=some .local
 shape:(∃x,ts = [x])\/(Gx fun x y=>ts = [x,y]/\x≠y)
theorem Un{sc:Scope}{ts:List Str}(h:Rw c.names c.sc sc ts=true)(hl:(∃x,ts = [x])\/(Gx fun x y=>ts = [x,y])):Cb c sc ts:=by
 delta Rw at h
 simp only[Bool.and_eq_true,List.all_eq_true,beq_iff_eq,bne_iff_ne,Bool.or_eq_true]at h
 obtain⟨⟨⟨⟨h1,h2⟩,h3⟩,h4⟩,h5⟩:=h
 refine⟨h2,fun p hp=>(h4 p hp).1.1,fun p hp q=>?_,fun p hp q=>?_,fun p hp q=>?_,fun t ht=>h5 t ht,?_⟩
 ·rcases(h4 p hp).1.2 with z|z
  ·exact absurd q z
  ·exact z
 ·rcases h3 p hp with(z|z)|z
  ·exact absurd q z
  ·exact .inl (by simpa using z)
  ·exact .inr (by simpa using z)
 ·rcases(h4 p hp).2 with z|z
  ·exact absurd q z
  ·exact z
 ·rcases hl with⟨x,rfl⟩ | ⟨x,y,rfl⟩
  ·exact .inl ⟨x,rfl⟩
  ·exact .inr ⟨x,y,rfl,by simpa using h1⟩
noncomputable def rl(env:Env)(p:Str×NameKind):Str×NameKind:=if (p.2 == .free&&env.scope.kind == .function&&env.kindOf p.1==some .cell)then(p.1,.cell)else p
theorem Aan(p:Str×NameKind):(rl env p).1=p.1:=by unfold rl;split<;>rfl
theorem Ir{sc:Scope}:(relabel sc env).names=sc.names.map (rl env):=by
 unfold relabel
 simp only
 congr 1
theorem Lr{x:Str}:∀ {l:List (Str×NameKind)},(l.map (rl env)).lookup x=(l.lookup x).map fun k=>(rl env (x,k)).2
 | []=>rfl
 | (y,z)::r=>by
   rw[List.map_cons,show rl env (y,z)=(y,(rl env (y,z)).2)from Prod.ext (Aan _) rfl,List.lookup_cons,List.lookup_cons]
   cases hx:x==y with
   | true=>rw[beq_iff_eq.mp hx];rfl
   | false=>exact Lr
theorem De{sc:Scope}{x:Str}{k:NameKind}(h:sc.names.lookup x=some k) :
 (k≠ .free->(relabel sc env).names.lookup x=some k)/\(k = .free->(relabel sc env).names.lookup x=some .cell\/(relabel sc env).names.lookup x=some .free):=by
 rw[Ir,Lr,h]
 simp only[Option.map_some,Option.some.injEq,rl]
 constructor
 ·intro hk
  rw[if_neg (by simp[hk])]
 ·rintro rfl
  split
  ·exact .inl rfl
  ·exact .inr rfl
theorem I9{sc:Scope}{x:Str}{k:NameKind}(h:(relabel sc env).names.lookup x=some k):sc.names.lookup x=some k\/(k = .cell/\sc.names.lookup x=some .free):=by
 rw[Ir,Lr]at h
 refine Aa fun nY=>?_
 obtain⟨z,h1,h2⟩:=Option.map_eq_some_iff.mp h
 unfold rl at h2
 split at h2
 ·rename_i q
  simp only[Bool.and_eq_true,beq_iff_eq]at q
  refine nY ?_;clear nY
  exact .inr ⟨h2.symm,by rw[h1,q.1.1]⟩
 ·refine nY ?_;clear nY
  exact .inl (by rw[h1];exact congrArg some h2)
noncomputable abbrev Dq(c:Cx)(sc:Scope)(ts:List Str):Cx:=⟨ts++c.names,sc,false,true⟩
noncomputable abbrev Ed(sc:Scope)(env:Env)(C:Addr):Env:=compEnvC sc (Fk env sc.names []) C env
section
variable {sc:Scope} {ts:List Str} {C:Addr}
theorem Os(K:Cb c sc ts)(Y:Ac W env c h₀){p:Str×NameKind}(hp:p∈sc.names)(hf:p.2 = .free):∃a,env.cells.lookup p.1=some a:=
 Y.cells p.1 (.inl (Y.kinds _ _ (K.frees p hp hf).1 (by simp)))
theorem Gh(K:Cb c sc ts)(Y:Ac W env c h₀){p:Str×Addr}(h:p∈Fk env sc.names []):env.cells.lookup p.1=some p.2/\sc.names.lookup p.1=some .free:=by
 refine Aa fun nY=>?_
 rcases Nj h with h | ⟨h1,h2⟩
 ·cases h
 ·obtain⟨a,ha⟩:=Os K Y h1 rfl
  simp only at ha
  rw[ha]at h2
  refine nY ?_;clear nY
  exact⟨by rw[ha,h2];rfl,(K.frees _ h1 rfl).2⟩
theorem B8(K:Cb c sc ts)(Y:Ac W env c h₀){x:Str}{a:Addr}(h:(Fk env sc.names []).lookup x=some a):env.cells.lookup x=some a/\sc.names.lookup x=some .free:=Gh K Y (A2 h)
theorem Ak.in_comp(K:Cb c sc ts)(Y:Ac W env c h₀)(R:Ak W h₀ env names H ρ s)(hC:Eb h₀ env H [C]):Fz W h₀ (Mine.Internal.prot (Ed sc env C) (env.locals::h₀.fs) H s.heap).h:=fun b o e=>
 let ⟨o',e1,z⟩:=R.keep b o e;⟨o',Cf e1 (by cases q:H b with
  | none=>rfl
  | some x=>rw[(R.sep b x q).1]at e;cases e) (fun q=>by have h1:=(hC C (.head _)).2.1;have h2:b=C:=q;rw[<-h2,e]at h1;cases h1)
  (fun p hp q=>by
    obtain⟨p',hp',hp2⟩:=A4 (Gh K Y hp).1
    have:=Y.newc p' hp'
    rw[hp2,q,e]at this;cases this),z⟩
theorem Hq(K:Cb c sc ts)(Y:Ac W env c h₀)(R:Ak W h₀ env names H ρ s)(hC:Eb h₀ env H [C]):∃o,(Mine.Internal.prot (Ed sc env C) (env.locals::h₀.fs) H s.heap).get? env.locals=some o/\s.heap.get? env.locals=some o:=by
 refine Aa fun nY=>?_
 obtain⟨m,⟨o,es,ep,h1,h2⟩,_⟩:=R.ns
 refine nY ?_;clear nY
 refine⟨o,Cf h1 ?_ (fun q=>(hC C (.head _)).2.2.1 (q:env.locals=C).symm) (fun p hp q=>Y.apart p.1 p.2 (Gh K Y hp).1 q),h1⟩
 cases q:H env.locals with
 | none=>rfl
 | some x=>exact absurd rfl (R.sep _ _ q).2.1
theorem Ac.comp(K:Cb c sc ts)(Y:Ac W env c h₀)(R:Ak W h₀ env names H ρ s)(hC:Eb h₀ env H [C])(hC':W.b₀.objs.size<=C):Ac W (Ed sc env C) (Dq c sc ts) (Mine.Internal.prot (Ed sc env C) (env.locals::h₀.fs) H s.heap) where
 kind:=K.kind
 globals:=Y.globals
 builtins:=Y.builtins
 kinds:=fun x k e hk=>(De (env:=env) e).1 hk
 frees:=fun x e=>(De (env:=env) e).2 rfl
 cells:=fun x e=>by
  have key:sc.names.lookup x=some .free:=by
   rcases e with e|e
   ·rcases I9 (env:=env) e with h | ⟨_,h⟩
    ·exact absurd rfl (K.nocell _ (A2 h))
    ·exact h
   ·rcases I9 (env:=env) e with h | ⟨h,_⟩
    ·exact h
    ·cases h
  exact I8 (Nl (acc:=[]) (A2 key))
 apart:=fun x a e=>by
  obtain⟨h1,_⟩:=B8 K Y e
  obtain⟨p,hp,hp2⟩:=A4 h1
  intro q
  exact(hC C (.head _)).2.2.2 p hp (hp2.trans q)
 inj:=fun x y a e1 e2=>Y.inj x y a (B8 K Y e1).1 (B8 K Y e2).1
 base:=fun b o e=>Cf (R.keepB Y b o e)
  (by cases q:H b with
      | none=>rfl
      | some x=>have:=(R.sep b x q).1;rw[Y.base b o e]at this;cases this)
  (fun q=>absurd (Heap.lt_size e) (Nat.not_lt.mpr (by rw[q];exact hC')))
  (fun p hp q=>by
    obtain⟨p',hp',hp2⟩:=A4 (Gh K Y hp).1
    have:=Y.newc p' hp'
    rw[hp2,q,Y.base b o e]at this;cases this)
 fsok:=fun L m q=>by
  rcases List.mem_cons.mp m with rfl|m
  ·obtain⟨o,h1,_⟩:=Hq K Y R hC
   rw[h1]at q;cases q
  ·exact Y.fsok L m ((Ak.in_comp K Y R hC).none q)
 fsd:=fun L m=>by
  rcases List.mem_cons.mp m with rfl|m
  ·refine⟨Qf R.above,fun o e vs q=>?_⟩
   obtain⟨m,⟨o',es,ep,h1,h2,_⟩,_⟩:=R.ns
   rw[Fc e]at h1;cases h1
   rw[h2]at q;cases q
  ·exact⟨(Y.fsd L m).1,fun o e=>by obtain⟨o',e1,z⟩:=R.fsd Y m;rw[Fc e]at e1;cases e1;exact z⟩
 new:=Cq (.inr (.inl rfl))
 newc:=fun p hp=>Cq (.inr (.inr ⟨p,hp,rfl⟩))
 look:=fun p hp=>by
  obtain⟨a,ha⟩:=I8 hp
  have h1:=(B8 K Y ha).1
  have h2:=(Gh K Y hp).1
  rw[h1]at h2;cases h2
  exact ha
 lo:=Y.lo
end
end Mine.Internal
namespace Mine.Internal
open PySem PySem.W PyProof.Rows
variable {W:Wd} {G:Ap} {A:Around} {h₀:HB} {env:Env} {c:Cx} {names:List Str} {H H':AH} {ρ ρ' ρt:Ao} {s s':Shared} {E:Value->Shared->Prop} {n:Nat} {Q:Ad} {sc:Scope} {ts:List Str} {C:Addr} {Er:EP}
theorem Gi{l l':List Str}{x:Str}:x∉l->(l++l').idxOf? x=(l'.idxOf? x).map (· + l.length):=by
 induction l with
 | nil=>intro _;simp
 | cons a l ih=>
   intro h
   rw[List.cons_append,List.idxOf?_cons]
   have:(a==x)=false:=by simpa using fun q:a=x=>h (by simp[q])
   rw[this,ih (fun q=>h (.tail _ q))]
   cases l'.idxOf? x with
   | none=>rfl
   | some k=>simp;(first|lia|omega)
theorem Dy{l l':List Str}{x:Str}:x∈l->(l++l').idxOf? x=l.idxOf? x/\∃i,l.idxOf? x=some i/\i<l.length:=by
 induction l with
 | nil=>intro h;cases h
 | cons a l ih=>
   intro h
   rw[List.cons_append,List.idxOf?_cons,List.idxOf?_cons]
   cases q:a==x with
   | true=>exact⟨rfl,0,rfl,by simp⟩
   | false=>
     have:x∈l:=by
      refine Aa fun nY=>?_
      rcases List.mem_cons.mp h with rfl|h
      ·simp at q
      ·refine nY ?_;clear nY
       exact h
     refine Aa fun nY=>?_
     obtain⟨h1,i,h2,h3⟩:=ih this
     refine nY ?_;clear nY
     simp only[Bool.false_eq_true,if_false]
     rw[h1]
     exact⟨rfl,i+1,by rw[h2];rfl,by simp;omega⟩
theorem K6{l:List Str}{x:Str}{i:Nat}(h:l.idxOf? x=some i):x∈l:=by
 cases Classical.em (x∈l)with
 | inl h=>exact h
 | inr q=>rw[List.idxOf?_eq_none_iff.mpr q]at h;cases h
noncomputable def Ka(W:Wd)(ts:List Str)(C:Addr)(ρt:Ao)(h:Heap):Prop:=∃m,h.Ns C m/\∀x i v,ts.idxOf? x=some i->ρt[i]? = some (some v)->∃u,m x=some u/\VR W v u
theorem Ak.toComp(K:Cb c sc ts)(Y:Ac W env c h₀)(R:Ak W h₀ env c.names H ρ s)(hC:Eb h₀ env H [C])(hC':W.b₀.objs.size<=C)(hl:ρt.length=ts.length)(hn:Ka W ts C ρt s.heap) :
 Ak W (Mine.Internal.prot (Ed sc env C) (env.locals::h₀.fs) H s.heap) (Ed sc env C) (Dq c sc ts).names H (ρt++ρ) s where
 ns:=by
  refine Aa fun nY=>?_
  obtain⟨m,h1,h2⟩:=hn
  refine nY ?_;clear nY
  refine⟨m,h1,fun x i v e1 e2 e3=>?_⟩
  have hx:sc.names.lookup x=some .local:=by
   refine Aa fun nY=>?_
   rcases I9 (env:=env) e2 with h | ⟨h,_⟩
   ·refine nY ?_;clear nY
    exact h
   ·cases h
  have hmem:x∈ts:=by
   refine Aa fun nY=>?_
   rcases K.own _ (A2 hx) rfl with h|h
   ·refine nY ?_;clear nY
    exact h
   ·have:x∈ts++c.names:=K6 e1
    rcases List.mem_append.mp this with h'|h'
    ·refine nY ?_;clear nY
     exact h'
    ·exact absurd h' h
  refine Aa fun nY=>?_
  obtain⟨h3,j,h4,h5⟩:=Dy (l':=c.names) hmem
  have e1':(ts++c.names).idxOf? x=some i:=e1
  rw[h3,h4]at e1'
  cases e1'
  refine nY ?_;clear nY
  refine h2 x _ v h4 ?_
  rwa[List.getElem?_append_left (by(first|lia|omega))]at e3
 cell:=fun x a e=>by
  refine Aa fun nY=>?_
  obtain⟨e1,e2⟩:=B8 K Y e
  obtain⟨w,hw,hr⟩:=R.cell x a e1
  refine nY ?_;clear nY
  refine⟨w,hw,fun i v f1 f2 f3=>?_⟩
  refine Aa fun nY=>?_
  have hx:x∉ts:=fun q=>by have:=K.tsl x q;rw[e2]at this;cases this
  have f1':(ts++c.names).idxOf? x=some i:=f1
  rw[Gi hx]at f1'
  obtain⟨j,h1,h2⟩:=Option.map_eq_some_iff.mp f1'
  subst h2
  refine nY ?_;clear nY
  refine hr j v h1 (.inl (Y.kinds x _ (K.frees _ (A2 e2) rfl).1 (by simp))) ?_
  rw[List.getElem?_append_right (by(first|lia|omega))]at f3
  rwa[show j+ts.length-ρt.length=j by(first|lia|omega)]at f3
 keep:= .of fun _ _ e=>Fc e
 objs:=R.objs
 sep:=fun a o e=>by
  refine⟨Cq (.inl ⟨o,e⟩),fun q=>?_,fun x q=>(R.sep a o e).2.2 x (B8 K Y q).1⟩
  have h1:=(hC C (.head _)).1
  have h2:a=C:=q
  rw[<-h2,e]at h1;cases h1
 gens:=R.gens
 os:=R.os
 above:=hC'
 low:=R.low
theorem Ak.ofComp(K:Cb c sc ts)(Y:Ac W env c h₀)(R:Ak W h₀ env c.names H ρ s)(hC:Eb h₀ env H [C])(hl:ρt.length=ts.length)
 (R':Ak W (Mine.Internal.prot (Ed sc env C) (env.locals::h₀.fs) H s.heap) (Ed sc env C) (Dq c sc ts).names H' (ρt++ρ) s'):Ak W h₀ env c.names H' ρ s':=by
 have hCC:=hC C (.head _)
 have hsub:Fz W h₀ (Mine.Internal.prot (Ed sc env C) (env.locals::h₀.fs) H s.heap).h:=Ak.in_comp K Y R hC
 have hcl:∀x a,env.cells.lookup x=some a->(∃p∈Fk env sc.names [],p.2=a)->(Fk env sc.names []).lookup x=some a:=by
  rintro x a e hP3
  refine Aa fun nY=>?_
  obtain⟨p,hp,rfl⟩:=hP3
  have h1:=(Gh K Y hp).1
  have h2:=Y.inj x p.1 p.2 e h1
  subst h2
  obtain⟨a',ha'⟩:=I8 hp
  rw[(B8 K Y ha').1]at h1;cases h1
  refine nY ?_;clear nY
  exact ha'
 have hloc:=Hq K Y R hC
 have hcell:∀x a,env.cells.lookup x=some a->(¬∃p∈Fk env sc.names [],p.2=a)->∀o,s.heap.get? a=some o->(Mine.Internal.prot (Ed sc env C) (env.locals::h₀.fs) H s.heap).get? a=some o:=by
  intro x a e hno o ho
  refine Aa fun nY=>?_
  obtain⟨p,hp,hp2⟩:=A4 e
  refine nY ?_;clear nY
  refine Cf ho ?_ (fun q=>hCC.2.2.2 p hp (hp2.trans q)) (fun p' hp' q=>hno ⟨p',hp',q⟩)
  cases q:H a with
  | none=>rfl
  | some z=>exact absurd e ((R.sep _ _ q).2.2 x)
 refine⟨?_,?_,hsub.trans (fun b o e m=>(List.mem_cons.mp m).resolve_left fun q=>by rw[q,Y.new]at e;cases e) R'.keep,R'.objs,?_,R'.gens,R'.os,R.above,R'.low⟩
 ·refine Aa fun nY=>?_
  obtain⟨m,⟨o,es,ep,h1,h2⟩,h3⟩:=R.ns
  obtain⟨o',g1,g2⟩:=hloc
  rw[h1]at g2;cases g2
  refine nY ?_;clear nY
  exact⟨m,R'.keep.ns ⟨o,es,ep,g1,h2⟩,h3⟩
 ·intro x a e
  refine Aa fun nY=>?_
  cases Classical.em (∃p∈Fk env sc.names [],p.2=a)with
  | inl q=>
    have hx:=hcl x a e q
    obtain⟨e1,e2⟩:=B8 K Y hx
    obtain⟨w,hw,hr⟩:=R'.cell x a hx
    refine nY ?_;clear nY
    refine⟨w,hw,fun i v f1 f2 f3=>hr (i+ts.length) v ?_ ((De (env:=env) e2).2 rfl) ?_⟩
    ·have hx':x∉ts:=fun q=>by have:=K.tsl x q;rw[e2]at this;cases this
     show (ts++c.names).idxOf? x=_
     rw[Gi hx',f1];rfl
    ·rw[List.getElem?_append_right (by(first|lia|omega))]
     rwa[show i+ts.length-ρt.length=i by(first|lia|omega)]
  | inr q=>
    obtain⟨w,⟨o,ho,hd⟩,hr⟩:=R.cell x a e
    refine nY ?_;clear nY
    exact⟨w,⟨o,R'.keep.exact (hcell x a e q o ho) (.inl fun m=>(by obtain⟨p,hp,hp2⟩:=A4 e;exact Y.fsok a ((List.mem_cons.mp m).resolve_left (Y.apart x a e)) (hp2▸Y.newc p hp))),hd⟩,hr⟩
 ·intro a o e
  refine Aa fun nY=>?_
  obtain⟨q1,q2,q3⟩:=R'.sep a o e
  refine nY ?_;clear nY
  refine⟨?_,?_,?_⟩
  ·exact hsub.none q1
  ·rintro rfl
   refine Aa fun nY=>?_
   obtain⟨o',g1,_⟩:=hloc
   rw[q1]at g1;cases g1
  ·intro x hx
   refine Aa fun nY=>?_
   cases Classical.em (∃p∈Fk env sc.names [],p.2=a)with
   | inl q=>(refine nY ?_;clear nY;exact q3 x (hcl x a hx q))
   | inr q=>
     obtain⟨w,⟨o,ho,hd⟩,hr⟩:=R.cell x a hx
     have:=hcell x a hx q o ho
     rw[q1]at this;cases this
theorem Gj(K:Cb c sc ts)(Y:Ac W env c h₀){hs:List Addr}(hid:Eb h₀ env H hs)(hCn:C∉hs){b:Addr}(hb:b∈hs){o:Obj}(e:s.heap.get? b=some o):(Mine.Internal.prot (Ed sc env C) (env.locals::h₀.fs) H s.heap).get? b=some o:=by
 refine Aa fun nY=>?_
 obtain⟨h1,h2,h3,h4⟩:=hid b hb
 refine nY ?_;clear nY
 refine Cf e h1 (fun q=>hCn (by have h2:b=C:=q;rw[<-h2];exact hb)) fun p hp q=>?_
 refine Aa fun nY=>?_
 obtain⟨p',hp',hp2⟩:=A4 (Gh K Y hp).1
 refine nY ?_;clear nY
 exact h4 p' hp' (hp2.trans q)
theorem Uo(K:Cb c sc ts){target:Expr}(ht:Co target=some ts):Vs (Dq c sc ts) target=some (D8 ts.length):=by
 rcases Hg ht with⟨x,p,rfl,rfl⟩ | ⟨x,p,y,p',k,tp,rfl,rfl⟩
 ·clear ht
  have h1:=K.tsl x (.head _)
  show (Cx.own (Dq c sc [x]) x).map P8.one=_
  simp only[Cx.own,h1,S9,if_true,Dq,List.cons_append,List.nil_append,List.idxOf?_cons,beq_self_eq_true]
  rfl
 ·clear ht
  have h1:=K.tsl x (.head _)
  have h2:=K.tsl y (.tail _ (.head _))
  have hne:x≠y:=by
   rcases K.shape with⟨z,hz⟩ | ⟨a,b,hz,hne⟩
   ·cases hz
   ·cases hz;exact hne
  have hb:(x==y)=false:=by simpa using hne
  show ((Cx.own (Dq c sc [x,y]) x) >>= fun i=>(Cx.own (Dq c sc [x,y]) y) >>= fun j=>pure (P8.two i j))=_
  simp only[Cx.own,h1,h2,S9,if_true,Dq,List.cons_append,List.nil_append,List.idxOf?_cons,beq_self_eq_true,hb]
  rfl
end Mine.Internal
namespace Mine.Internal
open PySem PySem.W PyProof.Rows
variable {W:Wd} {G:Ap} {A:Around} {h₀:HB} {env:Env} {c:Cx} {names:List Str} {H H':AH} {ρ ρ' ρt:Ao} {s s':Shared} {E:Value->Shared->Prop} {n:Nat} {Q:Ad} {sc:Scope} {ts:List Str} {C:Addr} {Er:EP}
theorem Q2{R:Result->Shared->Prop}{elt target iter:Expr}{ifs:List Expr}{scope:Scope}{pos:Pos}{it acc:Value}{env:Env}(I:Nat->Shared->Prop)
 (turn:∀n s,I n s->wpAny W.M A (pyNext it) (fun r s₁=>match r with
   | none=>R (.ok .next) s₁
   | some v=>wpAny W.M A (letOwnedTupleGo target it v) (fun _ s₁'=>wpAny W.M A (assign target env v) (fun _ s₂=>
      wpAny W.M A (forIn ifs true fun c r=>if r=true then do let ok <-isTrue c env (eval c env);pure (ForInStep.yield ok)else pure (ForInStep.yield r)) (fun ok s₃=>
       if ok=true then wpAny W.M A (eval elt env) (fun x s₄=>
        wpAny W.M A (call (.builtin "list.append") [acc,x]) (fun _ s₅=>∃m,m<n/\I m s₅) (notedBy W.M A env fun e s'=>R (.error e) s') s₄) (notedBy W.M A env fun e s'=>R (.error e) s') s₃
       else ∃m,m<n/\I m s₃) (notedBy W.M A env fun e s'=>R (.error e) s') s₂) (notedBy W.M A env fun e s'=>R (.error e) s') s₁') (notedBy W.M A env fun e s'=>R (.error e) s') s₁) (notedBy W.M A env fun e s'=>R (.error e) s') s)
 (n:Nat) (h:I n s):codeAny W.M A (.compLoop (.ListComp elt [⟨target,iter,ifs,0⟩] scope pos) 0 it acc env) R s:=by
 refine codeAny_loop rfl I (fun n s hI=>?_) n h
 show wpAny _ A ((compTurn (.ListComp elt [⟨target,iter,ifs,0⟩] scope pos) 0 it acc env).onRaise (fun x=>do noteFrame x env;theTreesLotGoes x)) _ _ s
 refine wpAny_noted ?_
 rw[compTurn_list]
 refine wpAny_bind (wpAny_standAt (wpAny_bind (wpAny_mono (turn n s hI) (fun r s₁ h₁=>?_) fun _ _ h'=>h')))
 cases r with
 | none=>exact wpAny_pure h₁
 | some v=>
   refine wpAny_bind (wpAny_mono h₁ (fun _ s₁' h₁'=>?_) fun _ _ h'=>h')
   refine wpAny_bind (wpAny_mono h₁' (fun _ s₂ h₂=>wpAny_bind (wpAny_mono h₂ (fun ok s₃ h₃=>?_) fun _ _ h'=>h')) fun _ _ h'=>h')
   cases ok with
   | false=>exact wpAny_pure ⟨rfl,h₃⟩
   | true=>
     exact wpAny_bind (wpAny_bind (wpAny_mono h₃ (fun x s₄ h₄=>wpAny_bind (wpAny_mono h₄ (fun _ s₅ h₅=>wpAny_pure (wpAny_pure ⟨rfl,h₅⟩)) fun _ _ h'=>h')) fun _ _ h'=>h'))
theorem Sk{it:It}{k:Nat}{N:Ao->Prop}(hk:ρt.length=k)(hk':k=1\/k=2)(h:Kl (D8 k) it (ρt++ρ) H N):Kl (D8 k) it (ρt++ρ) H (fun ρ'=>(∃ρt':Ao,ρ'=ρt'++ρ/\ρt'.length=k)/\N ρ'):=by
 rcases hk' with rfl|rfl
 ·simp only[D8,if_true]at h ⊢
  delta Kl at h ⊢
  cases it with
  | v x=>exact⟨⟨ρt.set 0 (some x),by rw[List.set_append_left _ _ (by(first|lia|omega))],by simp[hk]⟩,h⟩
  | pair a b=>exact h.elim
 ·have e2:D8 2 = .two 0 1:=rfl
  rw[e2]at h ⊢
  have key:∀x y:V,∃ρt':Ao,((ρt++ρ).set 0 (some x)).set 1 (some y)=ρt'++ρ/\ρt'.length=2:=fun x y=>
   ⟨(ρt.set 0 (some x)).set 1 (some y),by rw[List.set_append_left _ _ (by(first|lia|omega)),List.set_append_left _ _ (by simp;(first|lia|omega))],by simp[hk]⟩
  cases it with
  | v x=>
    cases x with
    | ref a=>
      have h':(match H a with|some (.tuple [x,y])=>N (((ρt++ρ).set 0 (some x)).set 1 (some y))|_=>False):=h
      show (match H a with|some (.tuple [x,y])=>(∃ρt':Ao,((ρt++ρ).set 0 (some x)).set 1 (some y)=ρt'++ρ/\ρt'.length=2)/\N (((ρt++ρ).set 0 (some x)).set 1 (some y))|_=>False)
      clear h
      split at h'
      ·rename_i x y e
       exact⟨key _ _,h'⟩
      ·exact h'.elim
    | _=>exact h.elim
  | pair a b=>exact⟨key _ _,h⟩
noncomputable def SB(W:Wd)(G:Ap)(n:Nat)(c:Cx)(ifs:List Expr)(elt:Expr)(body:EP->Ao->AH->(Option V->AH->Prop)->Prop):Prop:=
 ∀ {A:Around} {env:Env} {h₀:HB} {H:AH} {ρ:Ao} {s:Shared} {Kk:Option V->AH->Prop} {E:EP},Ky A c h₀ env n->Ac W env c h₀->Ak W h₀ env c.names H ρ s->body E ρ H Kk->
  wpAny W.M A (forIn ifs true fun c r=>if r=true then do let ok <-isTrue c env (eval c env);pure (ForInStep.yield ok)else pure (ForInStep.yield r)) (fun ok s₃=>
   if ok=true then wpAny W.M A (eval elt env) (fun x s₄=>(Gx fun a H4=>Go (VR W a x) (Ak W h₀ env c.names H4 ρ s₄) (Kk (some a) H4))) (EM W h₀ env c.names ρ E) s₃
   else ∃H4,Ak W h₀ env c.names H4 ρ s₃/\Kk none H4) (EM W h₀ env c.names ρ E) s
theorem W0{elt:Expr}{x:X}(h:SE W G n c elt x):SB W G n c [] elt (fun E ρ H K=>Ay G (Ab G n) x ρ H (fun v H=>K (some v) H) E):=by
 intro A env h₀ H ρ s Kk E ok Y R q
 refine wpAny_pure ?_
 simp only[if_true]
 exact wpAny_mono (h ok Y R q) (fun v s' r=>r) fun _ _ e=>e
theorem Yu{cond elt:Expr}{x y:X}(hc:ST W G n c cond y)(h:SE W G n c elt x) :
 SB W G n c [cond] elt (fun E ρ H K=>Ay G (Ab G n) y ρ H (fun v H=>truthy v fun b=>if b then Ay G (Ab G n) x ρ H (fun v H=>K (some v) H) E else K none H) E):=by
 intro A env h₀ H ρ s Kk E ok Y R q
 rw[List.forIn_cons]
 refine wpAny_bind ?_
 simp only[if_true]
 refine wpAny_bind (wpAny_mono (hc (Q:=fun b H=>if b then Ay G (Ab G n) x ρ H (fun v H=>Kk (some v) H) E else Kk none H) ok Y R q) (fun b s' r=>wpAny_pure ?_) fun _ _ e=>e)
 obtain⟨H',R',q'⟩:=r
 refine wpAny_pure ?_
 cases b with
 | true=>
   simp only[if_true]at q' ⊢
   exact wpAny_mono (h ok Y R' q') (fun v s' r=>r) fun _ _ e=>e
 | false=>
   simp only[Bool.false_eq_true,if_false]at q' ⊢
   exact⟨H',R',q'⟩
theorem Ot(K:Cb c sc ts){hP:HB}(R:Ak W hP (Ed sc env C) (Dq c sc ts).names H (ρt++ρ) s)(hl:ρt.length=ts.length):Ka W ts C ρt s.heap:=by
 refine Aa fun nY=>?_
 obtain⟨m,h1,h2⟩:=R.ns
 refine nY ?_;clear nY
 refine⟨m,h1,fun x i v e1 e2=>?_⟩
 have hx:=K6 e1
 refine Aa fun nY=>?_
 obtain⟨h3,j,h4,h5⟩:=Dy (l':=c.names) hx
 rw[h4]at e1;cases e1
 refine nY ?_;clear nY
 refine h2 x _ v (h3.trans h4) ((De (env:=env) (K.tsl x hx)).1 (by simp)) ?_
 rw[List.getElem?_append_left (by(first|lia|omega))];exact e2
theorem Ka.at{h h':Heap}(x:Ka W ts C ρt h)(k:∀o,h.get? C=some o->h'.get? C=some o):Ka W ts C ρt h':=by
 refine Aa fun nY=>?_
 obtain⟨m,⟨o,es,ep,h1,h2⟩,h3⟩:=x
 refine nY ?_;clear nY
 exact⟨m,⟨o,es,ep,k _ h1,h2⟩,h3⟩
noncomputable abbrev Acn(W:Wd)(h₀:HB)(env:Env)(names:List Str)(ρ:Ao)(hs:List Addr)(ts:List Str)(C D:Addr)(Obs:Nat->Heap->Prop)(its:List It)(gt:List It->List V->Ao->AH->Prop)(k:Nat)(s:Shared):Prop:=
 (Zz fun i H acc items ρt nn=>Acg (Ak W h₀ env names H ρ s) (Eb h₀ env H hs) (Eb h₀ env H [C]) (Eb h₀ env H [D]) (Obs i s.heap) (s.heap.get? D=some {cls:= .type "list",data:= .seq (items:List Value).toArray nn}) (Dc W acc items) (acc.length<=i) (Ka W ts C ρt s.heap) (ρt.length=ts.length) (gt (its.drop i) acc (ρt++ρ) H) (i<=its.length) (k=its.length-i+1))
theorem Sl(K:Cb c sc ts)(hf:c.hnd=false)(ok:Ky A c h₀ env n)(Y:Ac W env c h₀)(R:Ak W h₀ env c.names H ρ s){elt target iter:Expr}{ifs:List Expr}{pos:Pos}{I:Addr}{hs:List Addr}{its:List It}{g:AH->Prop}{Obs:Nat->Heap->Prop}
 (S:Xy W A target I hs its g Obs) (hid:Eb h₀ env H hs) (st:Obs 0 s.heap) (ht:Co target=some ts) (hz:its.length<=B6) {body:EP->Ao->AH->(Option V->AH->Prop)->Prop} (hb:SB W G n (Dq c sc ts) ifs elt body)
 (q:B9 g (D8 ts.length) (body Er) (fun vs H=>A5 (.list vs) H Q) its [] (List.replicate ts.length none++ρ) H) {RR:Value->Addr->Result->Shared->Prop}
 (hfin:∀D C H' s',Ak W h₀ env c.names H' ρ s'->Eb h₀ env H' [C]->(∃m,s'.heap.Ns C m)->Q (.ref D) H'->RR (.ref D) C (.ok .next) s')
 (herr:∀D C ρt' H s₂ v s₄,Ak W h₀ env c.names H ρ s₂->Eb h₀ env H [C]->ρt'.length=ts.length->EM W (Mine.Internal.prot (Ed sc env C) (env.locals::h₀.fs) H s₂.heap) (Ed sc env C) (Dq c sc ts).names (ρt'++ρ) Er v s₄->notedBy W.M A (Ed sc env C) (fun e s'=>RR (.ref D) C (.error e) s') v s₄) :
 wpAny W.M A (newList []) (fun acc s₃=>wpAny W.M A (newFunctionEnv sc env.globals (Fk env sc.names []) [] env.qual none .none (some env)) (fun cenv s₄=>
  codeAny W.M A (.compStart (.ListComp elt [⟨target,iter,ifs,0⟩] sc pos) 0 (.ref I) acc {cenv with scope:=relabel sc env}) (RR acc cenv.locals) s₄) E s₃) E s:=by
 have hk12:ts.length=1\/ts.length=2:=by rcases K.shape with⟨x,rfl⟩ | ⟨x,y,rfl,_⟩<;>simp
 refine wpAny_newObj_type (wpAny_newFunctionEnv K.nocell (by intro y hy;simp at hy) (fun h₁ hns₁ hsb₁=>?_) K.kind)
 dsimp only at hns₁ hsb₁ ⊢
 generalize hH2:s.heap.push {cls:= .type "list",dict:=none,data:= .seq ([]:List Value).toArray} = H2 at hns₁ hsb₁ ⊢
 have hCs:H2.objs.size=s.heap.objs.size+1:=by rw[<-hH2,Heap.size_push]
 generalize hCd:H2.objs.size=C at *
 generalize hDd:s.heap.objs.size=D at *
 have hDC:D≠C:=by rw[hCs];exact(Nat.succ_ne_self _).symm
 have old:∀b o,s.heap.get? b=some o->h₁.get? b=some o:=fun b o e=>by
  have hlt:=Heap.lt_size e
  rw[hDd]at hlt
  exact hsb₁.extBut b o (by rw[hCs];exact Nat.ne_of_lt (Nat.lt_succ_of_lt hlt)) (Heap.get?_push_of_some _ (hH2▸Heap.get?_push_of_some _ e))
 have hD1:h₁.get? D=some {cls:= .type "list",dict:=none,data:= .seq ([]:List Value).toArray}:=
  hsb₁.extBut _ _ hDC (Heap.get?_push_of_some _ (by rw[<-hH2,<-hDd];exact Heap.get?_push_size _ rfl))
 have hb0:W.b₀.objs.size<=D:=by rw[<-hDd];exact R.up
 have hb0C:W.b₀.objs.size<=C:=by rw[hCs];exact Nat.le_succ_of_le hb0
 have hidD:Eb h₀ env H [D]:=Eb.one Y R (Qf (by rw[hDd];exact Nat.le_refl _)) hb0
 have hidC:Eb h₀ env H [C]:=Eb.one Y R (Qf (by rw[hDd,hCs];exact Nat.le_succ _)) hb0C
 have hslt:∀b∈hs,b<D:=fun b hb=>by obtain⟨o,e⟩:=S.live 0 _ st b hb;rw[<-hDd];exact Heap.lt_size e
 have hDhs:D∉hs:=fun h=>Nat.lt_irrefl _ (hslt D h)
 have hChs:C∉hs:=fun h=>by have:=hslt C h;rw[hCs]at this;exact Nat.lt_irrefl _ (Nat.lt_of_succ_lt this)
 have Lk:∀s₃:Shared,s₃ = {s with heap:=h₁,toks:=s.toks+([]:List (Str×Value)).length} ->
  codeAny W.M A (.compLoop (.ListComp elt [⟨target,iter,ifs,0⟩] sc pos) 0 (.ref I) (.ref D) (Ed sc env C)) (RR (.ref D) C) s₃:=by
  rintro s₃ rfl
  refine Q2 (Acn W h₀ env c.names ρ hs ts C D Obs its (B9 g (D8 ts.length) (body Er) fun vs H=>A5 (.list vs) H Q)) ?_ (its.length+1)
   ⟨0,H,[],[],List.replicate ts.length none,_,R.move _ old,hid,hidC,hidD,S.frame 0 _ _ st fun b _ o e=>old b o e,hD1,.nil,Nat.le_refl _,⟨_,hns₁,fun x i v e1 e2=>?_⟩,by simp,q,Nat.zero_le _,by simp⟩
  ·rintro k s ⟨i,H,acc,items,ρt,nn,R,hid,hidC,hidD,st,hD,hacc,hai,hn,hl,q,hi,rfl⟩
   have hclean:its.length<=1048576:=hz
   cases hd:its.drop i with
   | nil=>
     rw[hd]at q
     obtain⟨g1,q⟩:=q
     have:i=its.length:=by
      have:=congrArg List.length hd
      simp at this;(first|lia|omega)
     subst this
     refine wpAny_mono (S.done Y R hid g1 st) (fun r s₁ h₁=>?_) fun _ _ e=>e
     obtain⟨rfl,R1,hk1⟩:=h₁
     obtain⟨d1,d2,d3,d4⟩:=hidD D (.head _)
     have R2:=R1.add (a:=D) (o:= .list acc) (hk1 _ _ hDhs hD) (.list hacc (Nat.le_trans hai hz)) d1 d2 d3 (fun x e=>by obtain⟨p,hp,hp2⟩:=A4 e;exact d4 p hp hp2) hb0
     refine hfin D C _ _ R2 (fun b hb=>?_) ?_ (q D d1)
     ·obtain⟨c1,c2⟩:=hidC b hb
      refine⟨?_,c2⟩
      have:b=C:=by simpa using hb
      subst this
      simp[upd,Ne.symm hDC,c1]
     ·obtain⟨m,hm,_⟩:=hn.at fun o e=>hk1 C o hChs e
      exact⟨m,hm⟩
   | cons y r=>
     rw[hd]at q
     obtain⟨g1,q⟩:=q
     obtain⟨hx,hd'⟩:=Lq hd
     have hlt:i<its.length:=(List.getElem?_eq_some_iff.mp hx).1
     refine wpAny_mono (S.turn (E':=notedBy W.M A (Ed sc env C) fun e s'=>RR (.ref D) C (.error e) s') Y R hid g1 st hx) (fun r s₁ h₁=>?_) fun _ _ e=>e
     obtain⟨v,rfl,h₁⟩:=h₁
     refine wpAny_mono h₁ (fun _ s₂ h₂=>?_) fun _ _ e=>e
     obtain⟨R2,st2,hit,hk2⟩:=h₂
     have hn2:=hn.at fun o e=>hk2 C o hChs e
     have hD2:=hk2 _ _ hDhs hD
     have YP:=Y.comp K R2 hidC hb0C
     have RP:=R2.toComp K Y hidC hb0C hl hn2
     refine wpAny_mono (Ng YP RP (ok.handled hf) (Uo K ht) hit (Sk hl hk12 q)) (fun _ s₃ h₃=>?_) fun _ _ e=>e
     obtain⟨ρ3,R3,⟨ρt',rfl,hl'⟩,q3⟩:=h₃
     have fin:∀ {s₄:Shared} {H4:AH},Ak W (Mine.Internal.prot (Ed sc env C) (env.locals::h₀.fs) H s₂.heap) (Ed sc env C) (Dq c sc ts).names H4 (ρt'++ρ) s₄->
      Ak W h₀ env c.names H4 ρ s₄/\Eb h₀ env H4 hs/\Eb h₀ env H4 [C]/\Eb h₀ env H4 [D]/\Obs (i+1) s₄.heap/\s₄.heap.get? D=some {cls:= .type "list",data:= .seq (items:List Value).toArray nn} /\Ka W ts C ρt' s₄.heap:=by
      intro s₄ H4 R4
      have none_at:∀b o,(Mine.Internal.prot (Ed sc env C) (env.locals::h₀.fs) H s₂.heap).get? b=some o->H4 b=none:=fun b o e=>by
       cases z:H4 b with
       | none=>rfl
       | some w=>have:=(R4.sep b w z).1;rw[e]at this;cases this
      refine⟨R2.ofComp K Y hidC hl' R4,fun b hb=>⟨?_,(hid b hb).2⟩,fun b hb=>⟨?_,(hidC b hb).2⟩,fun b hb=>⟨?_,(hidD b hb).2⟩,?_,?_,Ot K R4 hl'⟩
      ·obtain⟨o,e⟩:=S.live _ _ st2 b hb
       exact none_at b o (Gj K Y hid hChs hb e)
      ·have:b=C:=by simpa using hb
       subst this
       cases z:H4 b with
       | none=>rfl
       | some w=>exact absurd rfl (R4.sep b w z).2.1
      ·have:b=D:=by simpa using hb
       subst this
       exact none_at b _ (Gj K Y hidD (by simpa using Ne.symm hDC) hb hD2)
      ·exact S.frame _ _ _ st2 fun b hb o e=>R4.keep.exact (Gj K Y hid hChs hb e) (.inl fun m=>Y.fsok b ((List.mem_cons.mp m).resolve_left (hid b hb).2.2.1) (hid b hb).2.1)
      ·exact R4.keep.exact (Gj K Y hidD (by simpa using Ne.symm hDC) (.head _) hD2) (.inl fun m=>Y.fsok D ((List.mem_cons.mp m).resolve_left (hidD D (.head _)).2.2.1) (hidD D (.head _)).2.1)
     refine wpAny_mono (hb ⟨fun _=>ok.handled hf,ok.room,ok.units,ok.stk.more fun L m=> .tail _ m,nofun⟩ YP R3 q3) (fun okb s₄ h₄=>?_) fun v s₅ x=>herr D C ρt' H s₂ v s₅ R2 hidC hl' x
     cases okb with
     | false=>
       simp only[Bool.false_eq_true,if_false]at h₄ ⊢
       obtain⟨H4,R4,q4⟩:=h₄
       obtain⟨f1,f2,f3,f4,f5,f6,f7⟩:=fin R4
       exact⟨its.length-(i+1)+1,by(first|lia|omega),i+1,H4,acc,items,ρt',nn,f1,f2,f3,f4,f5,f6,hacc,by(first|lia|omega),f7,hl',by rw[hd'];exact q4,hlt,rfl⟩
     | true=>
       simp only[if_true]at h₄ ⊢
       refine wpAny_mono h₄ (fun u s₅ h₅=>?_) fun v s₅ x=>herr D C ρt' H s₂ v s₅ R2 hidC hl' x
       obtain⟨a,H4,hv,R4,q4⟩:=h₅
       obtain⟨f1,f2,f3,f4,f5,f6,f7⟩:=fin R4
       have hsz:items.length<=sizeLine:=by rw[<-hacc.length];exact Nat.le_trans hai (Nat.le_trans hi (Nat.le_trans hz Cw))
       refine call_meets F.slot_list_append ⟨_,f6,rfl⟩ F.entry_list_append (F.args_list_append_2 _ _) (list_append _ items.toArray nn u (by simpa using hsz)) ⟨f6,?_⟩
       have hsame:Heap.SameBut D s₅.heap (s₅.heap.update D (Obj.mapSeq (·.push u))):=Heap.SameBut.update ..
       obtain⟨d1,d2,d3,d4⟩:=f4 D (.head _)
       have R6:=f1.swap s₅.toks hsame d1 d2 d3 fun x e=>by obtain⟨p,hp,hp2⟩:=A4 e;exact d4 p hp hp2
       have hD6:∃n',(s₅.heap.update D (Obj.mapSeq (·.push u))).get? D=some {cls:= .type "list",data:= .seq (items ++ [u]).toArray n'}:=
        ⟨_,(Heap.get?_update_self _ f6 rfl).trans (by simp only[Obj.mapSeq,List.push_toArray];rfl)⟩
       obtain⟨n',hD6⟩:=hD6
       refine⟨its.length-(i+1)+1,by(first|lia|omega),i+1,H4,acc ++ [a],items ++ [u],ρt',n',R6,f2,f3,f4,?_,hD6,hacc.append (.cons hv .nil),by simp;(first|lia|omega),?_,hl',by rw[hd'];exact q4,hlt,rfl⟩
       ·exact S.frame _ _ _ f5 fun b hb o e=>(hsame.2 b (fun z=>hDhs (z▸hb))).trans e
       ·exact f7.at fun o e=>(hsame.2 C (Ne.symm hDC)).trans e
  ·simp[List.getElem?_replicate]at e2
 exact codeAny_compStart_list (Lk _ rfl) (S.self (S.frame 0 _ _ st fun b _ o e=>old b o e) (Lk _ rfl))
end Mine.Internal
namespace Mine.Internal
open PySem PySem.W PyProof.Rows
variable {W:Wd} {G:Ap} {A:Around} {h₀:HB} {env:Env} {c:Cx} {names:List Str} {H H':AH} {ρ ρ' ρt:Ao} {s s':Shared} {E:Value->Shared->Prop} {n:Nat} {Q:Ad} {sc:Scope} {ts:List Str} {C:Addr} {Er:EP}
theorem Pc.imp{Er':EP}{fl:Option Value}{v:Value}(x:Pc W h₀ env names ρ Er fl v s)(h:∀v H,Er v H->Er' v H):Pc W h₀ env names ρ Er' fl v s:=
 let ⟨e,H,cc,a,b,d,f,q⟩:=x;⟨e,H,cc,a,b,d,f,h _ _ q⟩
theorem Eb.ofComp(K:Cb c sc ts)(Y:Ac W env c h₀)(R:Ak W h₀ env c.names H ρ s)(hC:Eb h₀ env H [C]){T:Addr}(x:Eb (Mine.Internal.prot (Ed sc env C) (env.locals::h₀.fs) H s.heap) (Ed sc env C) H' [T]):Eb h₀ env H' [T]:=fun b hb=>by
 obtain⟨x1,x2,x3,x4⟩:=x b hb
 refine⟨x1,(Ak.in_comp K Y R hC).none x2,?_,fun p hp q=>?_⟩
 ·rintro rfl
  obtain⟨o,g1,_⟩:=Hq K Y R hC
  rw[x2]at g1;cases g1
 ·cases Classical.em (∃p'∈Fk env sc.names [],p'.2=b)with
  | inl z=>obtain⟨p',hp',hp2⟩:=z;exact x4 p' hp' hp2
  | inr z=>
    obtain⟨w,⟨o,ho,_⟩,_⟩:=R.cell p.1 p.2 (Y.look p hp)
    rw[q]at ho
    have hn:H b=none:=by
     cases y:H b with
     | none=>rfl
     | some u=>exact absurd (q▸Y.look p hp) ((R.sep _ _ y).2.2 p.1)
    rw[Cf ho hn (fun y=>(hC C (.head _)).2.2.2 p hp (q.trans y)) fun p' hp' y=>z ⟨p',hp',y⟩]at x2
    cases x2
theorem Sm(K:Cb c sc ts)(hcm:c.cmp=false)(ok:Ky A c h₀ env n)(Y:Ac W env c h₀)(R:Ak W h₀ env c.names H ρ s)(hC:Eb h₀ env H [C])(hl:ρt.length=ts.length){v acc:Value}
 (x:EM W (Mine.Internal.prot (Ed sc env C) (env.locals::h₀.fs) H s.heap) (Ed sc env C) (Dq c sc ts).names (ρt++ρ) Er v s') {use:Option (Value->Sem Unit)} {Q':Value->Shared->Prop} (hE:∀v s',EM W h₀ env c.names ρ Er v s'->E v s') :
 notedBy W.M A (Ed sc env C) (fun e s'=>compPost W.M A E use Q' acc C (.error e) s') v s':=by
 obtain⟨fl,e,H4,cc,rfl,R4,he,⟨oe,vs,a0,t1,t2,t3,t4⟩,q⟩:=x
 have hC4:H4 C=none:=by
  cases z:H4 C with
  | none=>rfl
  | some w=>exact absurd rfl (R4.sep C w z).2.1
 obtain⟨m,hm,_⟩:=Ot K R4 hl
 obtain⟨outer,k1,k2,k3⟩:=ok.tops hcm
 have x2:EM W h₀ env c.names ρ (fun v H=>Er v H/\H C=none) (.ref e) s':=by
  refine⟨fl,e,H4,cc,rfl,R.ofComp K Y hC hl R4,he,⟨oe,vs,a0,t1,t2,t3,?_⟩,q,hC4⟩
  cases fl with
  | none=>exact t4
  | some f=>obtain⟨T,oT,ts,g1,g2,g3,g4,g5,g6⟩:=t4;exact⟨T,oT,ts,g1,g2,g3,g4,g5,Eb.ofComp K Y R hC g6⟩
 show wpAny W.M A (noteFrame (.ref e) env) (fun _ s''=>compPost W.M A E use Q' acc C (.error (.ref e)) s'') _ s'
 refine F1 k1 k2 k3 Y x2 fun s2 up y=>?_
 have key:∃m,s2.heap.Ns C m/\∀h',Heap.SameBut C s2.heap h'->∀cenv:Env,cenv.locals=C->wpAny W.M A (PySem.passOn "comprehension.variables-let-go" (.ref e) cenv:Sem Value) (fun _ _=>False) E {s2 with heap:=h'}:=by
  refine⟨m,up.ns hm,fun h' hk cenv _=>?_⟩
  obtain⟨o,es,ep,c1,c2,_⟩:=up.ns hm
  obtain⟨e',H5,cc',w1,R5,he5,⟨oe',vs',a0',u1,u2,u3,T,oT,ts,g1,g2,g3,g4,g5,g6⟩,q5,hC5⟩:=y
  cases w1
  have ne:∀b ob ws,s2.heap.get? b=some ob->ob.data = .fields ws->b≠C:=fun b ob ws z1 z2 z=>by rw[z,c1]at z1;cases z1;rw[c2]at z2;cases z2
  have d1:=(hk.2 e (ne e _ _ u1 u2)).trans u1
  obtain⟨_,h2,h3,h4⟩:=hC C (.head _)
  have y2:Pc W h₀ env c.names ρ Er (some (rawInt env.locals)) (.ref e) {s2 with heap:=h'}:=
   ⟨e,H5,cc',rfl,R5.swap s2.toks hk hC5 h2 h3 (fun x z=>by obtain⟨p,hp,hp2⟩:=A4 z;exact h4 p hp hp2),he5,⟨oe',vs',a0',d1,u2,u3,T,oT,ts,g1,g2,(hk.2 T (ne T _ _ g3 g4)).trans g3,g4,g5,g6⟩,q5⟩
  unfold PySem.passOn
  refine wpAny_bind (wpAny_field d1 u2 g1 ?_)
  rw[if_neg (show ¬(Value.ref T==Value.none)=true from by simp)]
  exact wpAny_bind (Sj Y y2 fun s3 z=>wpAny_throw (hE _ _ ⟨_,z⟩))
 cases use<;>exact key
theorem Ou(K:Cb c sc ts)(hf:c.hnd=false)(hcm:c.cmp=false){elt target iter:Expr}{ifs:List Expr}{pos pos':Pos}{x:X}{body:EP->Ao->AH->(Option V->AH->Prop)->Prop}(ht:Co target=some ts)(hsrc:SS W G n c iter x (Kq target))(hb:SB W G n (Dq c sc ts) ifs elt body)
 (hset:∀env v,foldedSetIterable iter env v=pure v) (ok:Ky A c h₀ env n) (Y:Ac W env c h₀) (R:Ak W h₀ env c.names H ρ s)
 (q:Et G (Ab G n) x ρ H (fun its g H=>its.length<=B6/\B9 g (D8 ts.length) (body Er) (fun vs H=>A5 (.list vs) H Q) its [] (List.replicate ts.length none++ρ) H) Er) {use:Option (Value->Sem Unit)} {Q':Value->Shared->Prop}
 (hE:∀v s',EM W h₀ env c.names ρ Er v s'->E v s') (hfin:∀D C H' s',Ak W h₀ env c.names H' ρ s'->Eb h₀ env H' [C]->(∃m,s'.heap.Ns C m)->Q (.ref D) H'->compPost W.M A E use Q' (.ref D) C (.ok .next) s') :
 wpAny W.M A (comprehension (.ListComp elt [⟨target,iter,ifs,0⟩] sc pos) sc env pos' (newList []) false (eval iter env) use) Q' E s:=by
 refine wpAny_comprehension_free (g:=⟨target,iter,ifs,0⟩) (gs:=[]) rfl (hset env) (Mg fun p hp hq=>?_) K.kind K.locals ?_
 ·obtain⟨a,ha⟩:=Os K Y hp hq
  rw[ha];rfl
 ·exact hsrc (target:=target) rfl ok Y R q hE fun I hs its g Obs H' s' S hid st R' q'=>Sl (G:=G) K hf ok Y R' S hid st ht q'.1 hb q'.2 (RR:=fun acc C=>compPost W.M A E use Q' acc C) hfin fun D C ρt' H s₂ v s₄ R2 hidC hl x=>Sm K hcm ok Y R2 hidC hl x hE
theorem L8(K:Cb c sc ts)(hf:c.hnd=false)(hcm:c.cmp=false){elt target iter:Expr}{ifs:List Expr}{pos:Pos}{x:X}{body:EP->Ao->AH->(Option V->AH->Prop)->Prop}(ht:Co target=some ts)(hsrc:SS W G n c iter x (Kq target))(hb:SB W G n (Dq c sc ts) ifs elt body)
 (hset:∀env v,foldedSetIterable iter env v=pure v) {e:X}
 (he:∀ρ H Q E,Ay G (Ab G n) e ρ H Q E->Et G (Ab G n) x ρ H (fun its g H=>its.length<=B6/\B9 g (D8 ts.length) (body E) (fun vs H=>A5 (.list vs) H Q) its [] (List.replicate ts.length none++ρ) H) E) :
 SE W G n c (.ListComp elt [⟨target,iter,ifs,0⟩] sc pos) e:=by
 intro A env h₀ H ρ s Q E ok Y R q
 rw[eval_ListComp]
 refine Ou (use:=none) K hf hcm ht hsrc hb hset ok Y R (he ρ H Q E q) (fun _ _ e=>e) fun D C H' s' R' hid hm q'=>?_
 refine Aa fun nY=>?_
 obtain⟨m,hm⟩:=hm
 obtain⟨c1,c2,c3,c4⟩:=hid C (.head _)
 refine nY ?_;clear nY
 exact⟨m,hm,fun h' hk=>A7.mk (.ref D) (R'.swap s'.toks hk c1 c2 c3 fun x e=>by obtain⟨p,hp,hp2⟩:=A4 e;exact c4 p hp hp2) q'⟩
theorem Nm(K:Cb c sc ts)(hf:c.hnd=false)(hcm:c.cmp=false){elt target iter:Expr}{ifs:List Expr}{pos spos py:Pos}{x:X}{y:Str}{i:Nat}{body:EP->Ao->AH->(Option V->AH->Prop)->Prop}(ht:Co target=some ts)(hsrc:SS W G n c iter x (Kq target))(hb:SB W G n (Dq c sc ts) ifs elt body)
 (hset:∀env v,foldedSetIterable iter env v=pure v) {e:X}
 (he:∀ρ H Q E,Ay G (Ab G n) e ρ H Q E->Et G (Ab G n) x ρ H (fun its g H=>its.length<=B6/\B9 g (D8 ts.length) (body E) (fun vs H=>A5 (.list vs) H Q) its [] (List.replicate ts.length none++ρ) H) E)
 (hi:c.own y=some i):Op W G n c (.Assign [.Name y py] (.ListComp elt [⟨target,iter,ifs,0⟩] sc pos) spos) (.assign i e):=by
 intro A env h₀ H ρ s N Rt E ok Y R q
 simp only[Jy,Cg,Bk,Jz,Ja,J0,J1,Bm,Eg,J2,J3,Bo]at q
 have hsw:∃b,swapsWith (.ListComp elt [⟨target,iter,ifs,0⟩] sc pos) (some (.Name y py)) spos.line env=pure b:=⟨_,rfl⟩
 refine Aa fun nY=>?_
 obtain⟨b,hsw⟩:=hsw
 cases b with
 | false=>
   refine nY ?_;clear nY
   refine wpAny_Assign_Name (wpAny_mono (L8 K hf hcm ht hsrc hb hset he ok Y R q) (fun v s' r=>?_) fun _ _ e=>e.st) hsw
   refine Aa fun nY=>?_
   obtain⟨a,H',hv,R',q'⟩:=r
   refine nY ?_;clear nY
   exact wpAny_mono (Nd Y R' hi hv) (fun _ s2 R2=>⟨_,_,R2,q'⟩) fun _ _ e=>e
 | true=>
   refine nY ?_;clear nY
   rw[exec_Assign_Name_used _ _ _ _ hsw]
   refine wpAny_bind (wpAny_standAt (wpAny_bind ?_))
   refine wpAny_bind ?_
   refine wpAny_mono (Q:=fun _ s'=>Hp W h₀ env c.names N Rt .next s') ?_ (fun _ s' r=>wpAny_pure (wpAny_pure r)) fun _ _ e=>e
   refine Ou (use:=some (assign (.Name y py) env)) (Q':=fun _ s'=>Hp W h₀ env c.names N Rt .next s') K hf hcm ht hsrc hb hset ok Y R (he ρ H _ E q) (fun _ _ e=>e.st) fun D C H' s' R' hid hm q'=>?_
   refine Aa fun nY=>?_
   obtain⟨m,hm⟩:=hm
   obtain⟨c1,c2,c3,c4⟩:=hid C (.head _)
   refine nY ?_;clear nY
   show wpAny _ A (assign (.Name y py) env (.ref D)) _ _ _
   refine wpAny_assign_Name (wpAny_mono (Nd (Y.prot R') R'.prot hi (.ref D)) (fun _ s2 R2=>?_) fun _ _ e=>e)
   refine Aa fun nY=>?_
   obtain⟨o,es,ep,h1,h2⟩:=hm
   refine nY ?_;clear nY
   refine⟨m,R2.keep.ns ⟨o,es,ep,Cf h1 c1 c3 c4,h2⟩,fun h' hk=>?_⟩
   have R3:=R'.unprot Y R2
   exact⟨_,_,R3.swap s2.toks hk c1 c2 c3 fun x e=>by obtain⟨p,hp,hp2⟩:=A4 e;exact c4 p hp hp2,q'⟩
theorem L9{e:Expr}{t:Option Expr}{l:Nat}(h:Kt e=true):swapsWith e t l env=pure false:=by
 cases e<;>first|rfl|cases h
theorem Up{e:Expr}{x:X}{y:Str}{i:Nat}{py pos:Pos}(h:SE W G n c e x)(hp:Kt e=true)(hi:c.own y=some i):Op W G n c (.Assign [.Name y py] e pos) (.assign i x):=by
 intro A env h₀ H ρ s N Rt E ok Y R q
 simp only[Jy,Cg,Bk,Jz,Ja,J0,J1,Bm,Eg,J2,J3,Bo]at q
 refine wpAny_Assign_Name (wpAny_mono (h ok Y R q) (fun v s' r=>?_) fun _ _ e=>e.st) (L9 hp)
 refine Aa fun nY=>?_
 obtain⟨a,H',hv,R',q'⟩:=r
 refine nY ?_;clear nY
 exact wpAny_mono (Nd Y R' hi hv) (fun _ s2 R2=>⟨_,_,R2,q'⟩) fun _ _ e=>e
theorem Uq{e o:Expr}{x:Str}{p:Pos}{l:Nat}:swapsWith e (some (.Attribute o x p)) l env=pure false:=by
 unfold swapsWith
 cases e<;>rfl
theorem Ur{e o i:Expr}{p:Pos}{l:Nat}:swapsWith e (some (.Subscript o i p)) l env=pure false:=by
 unfold swapsWith
 cases e<;>rfl
theorem W1{an:Str}{a:C6}(ha:L3 an=some a):an=Ax a:=by
 delta L3 at ha
 repeat' split at ha
 all_goals first
  | (rename_i z;simp only[beq_iff_eq]at z;cases ha;exact z)
  | cases ha
theorem Sn(g:F0 W G){o e:Expr}{x y:X}{an:Str}{a:C6}{pa pos:Pos}(h:SE W G n c e x)(ho:SE W G n c o y)(ha:L3 an=some a):Op W G n c (.Assign [.Attribute o an pa] e pos) (.setattr y a x):=by
 intro A env h₀ H ρ s N Rt E ok Y R q
 simp only[Jy,Cg,Bk,Jz,Ja,J0,J1,Bm,Eg,J2,J3,Bo]at q
 have:=W1 ha
 subst this
 refine plainObj_wpAny_Assign_Attribute (wpAny_mono (h ok Y R q) (fun v s' r=>?_) fun _ _ e=>e.st) Uq
 refine Aa fun nY=>?_
 obtain⟨av,H',hv,R',q'⟩:=r
 refine nY ?_;clear nY
 refine wpAny_mono (ho ok Y R' q') (fun v2 s2 r=>?_) fun _ _ e=>e.st
 refine Aa fun nY=>?_
 obtain⟨ao,H2,hv2,R2,q2⟩:=r
 refine nY ?_;clear nY
 refine wpAny_mono (N3 Y g.X g.inst R2 hv2 hv q2) (fun _ s3 r=>?_) fun _ _ e=>e
 refine Aa fun nY=>?_
 obtain⟨H3,R3,q3⟩:=r
 refine nY ?_;clear nY
 exact⟨_,_,R3,q3⟩
theorem So{o i e:Expr}{x y z:X}{pa pos:Pos}(h:SE W G n c e x)(ho:SE W G n c o y)(hi:SE W G n c i z):Op W G n c (.Assign [.Subscript o i pa] e pos) (.setitem y z x):=by
 intro A env h₀ H ρ s N Rt E ok Y R q
 simp only[Jy,Cg,Bk,Jz,Ja,J0,J1,Bm,Eg,J2,J3,Bo]at q
 refine wpAny_Assign_Subscript (wpAny_mono (h ok Y R q) (fun v s' r=>?_) fun _ _ e=>e.st) Ur
 refine Aa fun nY=>?_
 obtain⟨av,H',hv,R',q'⟩:=r
 refine nY ?_;clear nY
 refine wpAny_mono (ho ok Y R' q') (fun v2 s2 r=>?_) fun _ _ e=>e.st
 refine Aa fun nY=>?_
 obtain⟨ao,H2,hv2,R2,q2⟩:=r
 refine nY ?_;clear nY
 refine wpAny_mono (hi ok Y R2 q2) (fun v3 s3 r=>?_) fun _ _ e=>e.st
 refine Aa fun nY=>?_
 obtain⟨ai,H3,hv3,R3,q3⟩:=r
 refine nY ?_;clear nY
 refine wpAny_mono (N0 Y R3 hv2 hv3 hv q3) (fun _ s4 r=>?_) fun _ _ e=>e
 refine Aa fun nY=>?_
 obtain⟨H4,R4,q4⟩:=r
 refine nY ?_;clear nY
 exact⟨_,_,R4,q4⟩
theorem Yv{e:Expr}{x:X}{pos:Pos}(h:SE W G n c e x)(hp:Kt e=true):Op W G n c (.Expr e pos) (.expr x):=by
 intro A env h₀ H ρ s N Rt E ok Y R q
 simp only[Jy,Cg,Bk,Jz,Ja,J0,J1,Bm,Eg,J2,J3,Bo]at q
 rw[arm_exec_Expr]
 have hi:interactive env=false:=by unfold interactive;rw[Y.kind];rfl
 refine wpAny_bind (wpAny_standAt ?_)
 simp only[hi,Bool.false_eq_true,if_false]
 refine wpAny_bind (wpAny_of_eq (L9 hp) ?_)
 simp only[Bool.false_eq_true,if_false]
 refine wpAny_bind (wpAny_mono (h ok Y R q) (fun v s' r=>?_) fun _ _ e=>e.st)
 refine Aa fun nY=>?_
 obtain⟨a,H',hv,R',q'⟩:=r
 refine nY ?_;clear nY
 exact wpAny_dropValue ⟨_,_,R',q'⟩
theorem Ov{x:X}{a b:List S}(h:Of (.ite x a b)=true):Hk a=true/\Hk b=true:=by
 match a,b,h with
 | [a],[b],h=>exact Bool.and_eq_true_iff.mp h
theorem Ab3{t:Expr}{a b:List Stmt}{x:X}{xa xb:List S}{pos:Pos}(h:ST W G n c t x)(ha:Gu W G n c a xa)(hb:Gu W G n c b xb):Op W G n c (.If t a b pos) (.ite x xa xb):=by
 intro A env h₀ H ρ s N Rt E ok Y R q
 simp only[Jy,Cg,Bk,Jz,Ja,J0,J1,Bm,Eg,J2,J3,Bo]at q
 refine wpAny_If (wpAny_mono (h (Q:=fun d H=>if d then Bt G (Ab G n) xa ρ H N Rt E else Bt G (Ab G n) xb ρ H N Rt E) ok Y R q) (fun d s' r=>?_) fun _ _ e=>e.st)
 obtain⟨H',R',q'⟩:=r
 cases d with
 | true=>simp only[if_true]at q' ⊢;exact wpAny_mono (ha ok Y R' q') (fun _ _ r=>r) fun _ _ e=>(let ⟨ρ',z,w⟩:=e;⟨ρ',fun p=>z (Ov p).1,w⟩)
 | false=>simp only[Bool.false_eq_true,if_false]at q' ⊢;exact wpAny_mono (hb ok Y R' q') (fun _ _ r=>r) fun _ _ e=>(let ⟨ρ',z,w⟩:=e;⟨ρ',fun p=>z (Ov p).2,w⟩)
theorem Aao{e:Expr}{x:X}{pos:Pos}(h:SE W G n c e x):Op W G n c (.Return (some e) pos) (.ret x):=by
 intro A env h₀ H ρ s N Rt E ok Y R q
 simp only[Jy,Cg,Bk,Jz,Ja,J0,J1,Bm,Eg,J2,J3,Bo]at q
 refine wpAny_Return_some (wpAny_mono (h ok Y R q) (fun v s' r=>?_) fun _ _ e=>e.st)
 refine Aa fun nY=>?_
 obtain⟨a,H',hv,R',q'⟩:=r
 refine nY ?_;clear nY
 exact⟨a,H',ρ,hv,R',q'⟩
theorem Yw{pos:Pos}:Op W G n c (.Pass pos) .pass:=by
 intro A env h₀ H ρ s N Rt E ok Y R q
 simp only[Jy,Cg,Bk,Jz,Ja,J0,J1,Bm,Eg,J2,J3,Bo]at q
 exact wpAny_Pass ⟨_,_,R,q⟩
end Mine.Internal
namespace Mine.Internal
open PySem PySem.W PyProof.Rows
variable {W:Wd} {G:Ap} {c:Cx} {n:Nat} {Er:EP}
set_option backward.match.sparseCases false in
noncomputable def Ls:Expr->Bool
 | .Starred .. =>false
 | .Set .. =>false
 | _=>true
structure Dk(W:Wd)(G:Ap)(n:Nat)(c:Cx)(e:Expr)(x:X):Prop where
 se:SE W G n c e x
 st:ST W G n c e x
 px:Ls e=true
theorem K7{e:Expr}(h:Ls e=true):∀v p,e≠ .Starred v p:=fun v p q=>by subst q;cases h
theorem Aap{e:Expr}(h:Ls e=true):∀env v,foldedSetIterable e env v=pure v:=fun env v=>by
 cases e<;>first|rfl|cases h
theorem Pp{e:Expr}(h:Ls e=true)(op:CmpOp):behindInMarks op e=false:=by
 cases e<;>first|rfl|cases h
theorem Bn{f:Expr->Option X}(ih:∀e x,f e=some x->Dk W G n c e x){es:List Expr}:∀ {xs:List X},Fx f es=some xs->Rp W G n c es xs/\NS es:=by
 induction es with
 | nil=>intro xs h;cases h;exact⟨Ti,fun e he=>by cases he⟩
 | cons e es ih2=>
   intro xs h
   obtain⟨x,hx,ys,hy,rfl⟩:=b2 (o:=f e) (o':=Fx f es) (k:=List.cons) h
   have g:=ih e x hx
   obtain⟨h1,h2⟩:=ih2 hy
   refine⟨Qw g.se h1 (K7 g.px),fun e' he'=>?_⟩
   rcases List.mem_cons.mp he' with rfl|he'
   ·exact K7 g.px
   ·exact h2 e' he'
theorem Hr{f:Expr->Option X}(ih:∀e x,f e=some x->Dk W G n c e x){op:BoolOp}{p:Pos}:∀ {es:List Expr} {x:X},Mz f op es=some x->SE W G n c (.BoolOp op es p) x/\ST W G n c (.BoolOp op es p) x
 | [],x,h=>by cases h
 | [e],x,h=>by
   simp only[Mz]at h
   have g:=ih e x h
   refine⟨?_,Aae g.st⟩
   intro A env h₀ H ρ s Q E ok Y R q
   exact BoolOp_one (g.se ok Y R q)
 | e::e2::es,x,h=>by
   unfold Mz at h
   cases op with
   | And=>
     obtain⟨y,hy,z,hz,rfl⟩:=b2 h
     have g:=ih e y hy
     obtain⟨h1,h2⟩:=Hr ih (p:=p) hz
     exact⟨Aac g.se h1,Aad g.st h2⟩
   | Or=>
     obtain⟨y,hy,z,hz,rfl⟩:=b2 h
     have g:=ih e y hy
     obtain⟨h1,h2⟩:=Hr ih (p:=p) hz
     exact⟨Abu g.se h1,Abv g.st h2⟩
theorem Kb(gd:F0 W G)(hf:c.hnd=false){f:Expr->Option X}(ih:∀e x,f e=some x->Dk W G n c e x){two:Bool}{e:Expr}{x:X}(h:Vr f c two e=some x):SS W G n c e x two/\∀env v,foldedSetIterable e env v=pure v:=by
 have val:∀ {x},(do return X.val (<-f e):Option X)=some x->SS W G n c e x two/\∀env v,foldedSetIterable e env v=pure v:=by
  intro x h
  obtain⟨y,hy,rfl⟩:=b1 h
  have g:=ih e y hy
  exact⟨Aal hf g.se,Aap g.px⟩
 delta Vr at h
 refine Aa fun nY=>?_
 split at h
 ·rename_i x' args hcn
  obtain⟨p,pos,rfl⟩:=Hh hcn
  split at h
  ·rename_i q
   simp only[Bool.and_eq_true,beq_iff_eq]at q
   obtain⟨hg,rfl⟩:=q
   split at h
   ·obtain⟨ys,hy,rfl⟩:=b1 h
    obtain⟨h1,h2⟩:=Bn ih hy
    refine nY ?_;clear nY
    exact⟨Wu gd hf hg h1 h2,fun _ _=>rfl⟩
   ·cases h
  ·refine nY ?_;clear nY
   exact val h
 ·refine nY ?_;clear nY
  exact val h
theorem Kc{f:Expr->Option X}(ih:∀e x,f e=some x->Dk W G n c e x):∀ {e:Option Expr} {x:X},Ry f e=some x->SO W G n c e x
 | none,x,h=>by cases h;exact Yp
 | some e,x,h=>Yq (ih e x h).se
theorem Us{x:Str}{k:Nat}(hb:X4 x k=some .list):x = "list" :=(by decide:∀p∈Vp,p.2.2 = .list->p.1 = "list") (x,(k,.list)) (Qc hb) rfl
theorem Q3(gd:F0 W G)(hc:SC W G n){x:Str}{f:Expr->Option X}(ih:∀e x,f e=some x->Dk W G n c e x){p pos:Pos}{args:List Expr}{y:X}(hg:c.global x=true)(h:Td f c x args=some y):SE W G n c (.Call (.Name x p) args [] pos) y:=by
 delta Td at h
 split at h
 ·rename_i q
  have hx:=beq_iff_eq.mp q
  subst hx
  split at h
  ·rename_i e t hta
   obtain⟨tp,rfl⟩:=Rz hta
   split at h
   ·rename_i hgt
    split at h
    ·rename_i ty ht
     obtain⟨z,hz,rfl⟩:=b1 h
     have g:=ih e z hz
     exact @Uf W G c n gd ty t p tp pos e z ht hg hgt g.se (K7 g.px)
    ·split at h
     ·rename_i ht
      have ht:=beq_iff_eq.mp ht
      subst ht
      obtain⟨z,hz,rfl⟩:=b1 h
      have g:=ih e z hz
      exact @Ym W G c n gd p tp pos e z hg hgt g.se (K7 g.px)
     ·obtain⟨cc,ht,z,hz,rfl⟩:=b2 h
      have g:=ih e z hz
      exact @Wm W G c n gd cc t p tp pos e z ht hg hgt g.se (K7 g.px)
   ·cases h
  ·cases h
 ·split at h
  ·split at h
   ·rename_i y hy
    obtain⟨ys,hys,rfl⟩:=b1 h
    obtain⟨h1,h2⟩:=Bn ih hys
    exact @Wc W G c n gd hc x y p pos args ys hg hy h1 h2
   ·cases h
  rename_i hnf
  have hf:c.hnd=false:=by simpa using hnf
  split at h
  ·rename_i b hb
   have plain:∀ {y},(do return X.bi b (<-Fx f args):Option X)=some y->SE W G n c (.Call (.Name x p) args [] pos) y:=by
    intro y h
    obtain⟨ys,hy,rfl⟩:=b1 h
    obtain⟨h1,h2⟩:=Bn ih hy
    exact @Abx W G c n gd hf b x p pos args ys hb hg h1 h2
   split at h
   ·split at h
    ·rename_i as hi
     obtain⟨sp,sp',rfl,hgs⟩:=O9 hi
     split at h
     ·obtain⟨zs,hz,rfl⟩:=b1 h
      obtain⟨h1,h2⟩:=Bn ih hz
      have hx:=Us hb
      subst hx
      exact @Pn W G c n gd hf p sp pos sp' as zs hg hgs h1 h2
     ·cases h
    ·exact @plain _ h
   ·exact @plain _ h
  ·split at h
   ·cases h
   ·rename_i q
    simp only[Bool.or_eq_true,not_or,Bool.not_eq_true]at q
    obtain⟨⟨⟨q1,q2⟩,q3⟩,q4⟩:=q
    have q2':Ef x=none:=by simpa using q2
    split at h
    ·rename_i z
     have hx:=beq_iff_eq.mp z
     obtain⟨ys,hy,rfl⟩:=b1 h
     obtain⟨h1,h2⟩:=Bn ih hy
     exact @Zt W G c n gd hf hc .web x p pos args ys (.inl ⟨rfl,hx⟩) hg h1 h2
    ·split at h
     ·rename_i z
      have hx:=beq_iff_eq.mp z
      obtain⟨ys,hy,rfl⟩:=b1 h
      obtain⟨h1,h2⟩:=Bn ih hy
      exact @Zt W G c n gd hf hc .verdict x p pos args ys (.inr ⟨rfl,hx⟩) hg h1 h2
     ·obtain⟨ys,hy,rfl⟩:=b1 h
      obtain⟨h1,h2⟩:=Bn ih hy
      exact @Yk W G c n gd hf hc x p pos args ys hg q3 q4 q2' h1 h2
theorem W2{m f:Str}(h:Mj m=some f):Ef f=some (.web,m):=by
 unfold Mj at h
 repeat' split at h
 all_goals first
  | (rename_i q;have hx:=beq_iff_eq.mp q;subst hx;cases h;decide)
  | (cases h;done)
theorem Nn(gd:F0 W G)(hf:c.hnd=false){r:Cx->Expr->Option X}(ih:∀c e x,r c e=some x->Dk W G n c e x){elt t it:Expr}{ifs:List Expr}{a:Int}{sc:Scope}{p:Pos}{x:X}(h:Fj r c (.ListComp elt [⟨t,it,ifs,a⟩] sc p)=some x) :
 ∃(x':X) (ts:List Str) (K:Cb c sc ts) (src:X) (body:EP->Ao->AH->(Option V->AH->Prop)->Prop),Co t=some ts/\SS W G n c it src (Kq t)/\(∀env v,foldedSetIterable it env v=pure v)/\SB W G n (Dq c sc ts) ifs elt body/\
  (∀ρ H Q E,Ay G (Ab G n) x' ρ H Q E->Et G (Ab G n) src ρ H (fun its g H=>its.length<=B6/\B9 g (D8 ts.length) (body E) (fun vs H=>A5 (.list vs) H Q) its [] (List.replicate ts.length none++ρ) H) E)/\x=x'/\a=0/\c.cmp=false:=by
 (delta Fj at h;dsimp only at h)
 refine Aa fun nY=>?_
 split at h
 ·rename_i ts hts
  split at h
  ·rename_i q
   simp only[Bool.and_eq_true,beq_iff_eq,Bool.not_eq_true']at q
   obtain⟨⟨rfl,hok⟩,hcm⟩:=q
   have hsh:(∃x,ts = [x])\/(Gx fun x y=>ts = [x,y]):=by
    refine Aa fun nY=>?_
    rcases Hg hts with⟨x,_,_,rfl⟩ | ⟨x,_,y,_,_,_,_,rfl⟩
    ·refine nY ?_;clear nY
     exact .inl ⟨x,rfl⟩
    ·refine nY ?_;clear nY
     exact .inr ⟨x,y,rfl⟩
   have K:=Un hok hsh
   split at h
   ·obtain⟨y,hy,z,hz,rfl⟩:=b2 h
    obtain⟨h1,h2⟩:=Kb gd hf (ih c) hy
    refine nY ?_;clear nY
    exact⟨_,ts,K,y,_,hts,h1,h2,W0 (ih _ _ _ hz).se,fun ρ H Q E q=>by simp only[Jb,Jc,Jd,Je,Jf,Jg,Jh,Ji,Jj,Jk,Jl,Jm,Jn,Jo,Jp,Jq,Bq,Jr,Js,Jt,Ju,Jv,Aq,C9,Ar,An,Jw,Jx,Aw,Bw,Az,A9]at q;exact q,rfl,rfl,hcm⟩
   ·obtain⟨y,hy,w,hw,z,hz,rfl⟩:=b3 h
    obtain⟨h1,h2⟩:=Kb gd hf (ih c) hy
    refine nY ?_;clear nY
    exact⟨_,ts,K,y,_,hts,h1,h2,Yu (ih _ _ _ hw).st (ih _ _ _ hz).se,fun ρ H Q E q=>by simp only[Jb,Jc,Jd,Je,Jf,Jg,Jh,Ji,Jj,Jk,Jl,Jm,Jn,Jo,Jp,Jq,Bq,Jr,Js,Jt,Ju,Jv,Aq,C9,Ar,An,Jw,Jx,Aw,Bw,Az,A9]at q;exact q,rfl,rfl,hcm⟩
   ·cases h
  ·cases h
 ·cases h
theorem Mh(gd:F0 W G)(hc:SC W G n){r:Cx->Expr->Option X}(ih:∀c e x,r c e=some x->Dk W G n c e x){f:Expr}{args:List Expr}{kws:List Keyword}{p:Pos}{x:X}(hm:c.hnd=false\/Qd (.Call f args kws p)=true)(h:Fj r c (.Call f args kws p)=some x):Dk W G n c (.Call f args kws p) x:=by
 have toGood:∀ {e x},Ls e=true->SE W G n c e x->(∀env whole,isTrue e env whole=(do let v <-whole;standAt e.pos;holding [v] (PySem.truthy v)))->Dk W G n c e x:=fun hp hse hi=>⟨hse,hse.toST hi,hp⟩
 refine Aa fun no=>?_
 rcases kws with _ | ⟨kw,kws⟩
 ·cases f with
  | Name y p'=>
    replace h:(if c.global y=true then Td (r c) c y args else none)=some x:=h
    split at h
    ·rename_i hg
     exact no<|toGood rfl (Q3 gd hc (ih c) hg h) fun _ _=>rfl
    ·cases h
  | Attribute o m ap=>
    replace h:(if (ap.endLine==p.line&&decide (args.length<3)&&Hj o)=true then(match Mj m with
     | some g=>(r c o >>= fun y=>Fx (r c) args >>= fun z=>pure (X.meth g y z))
     | none=>(X2 m >>= fun l=>r c o >>= fun y=>Fx (r c) args >>= fun z=>pure (X.lm l y z)))else none)=some x:=h
    split at h
    ·rename_i q
     simp only[Bool.and_eq_true,decide_eq_true_eq]at q
     obtain⟨⟨q1,q2⟩,q3⟩:=q
     split at h
     ·rename_i f hfm
      obtain⟨y,hy,zs,hz,rfl⟩:=b2 h
      obtain⟨h1,h2⟩:=Bn (ih c) hz
      exact no<|toGood rfl (Yl gd (hm.resolve_right nofun) hc q3 q1 q2 (W2 hfm) (ih c _ _ hy).se h1 h2) fun _ _=>rfl
     ·obtain⟨lm,hlm,y,hy,zs,hz,rfl⟩:=b3 h
      obtain⟨h1,h2⟩:=Bn (ih c) hz
      exact no<|toGood rfl (Ab0 q3 q1 q2 hlm (ih c _ _ hy).se h1 h2) fun _ _=>rfl
    ·cases h
  | _=>exact @nn _ _ _ h
 ·cases f<;>exact @nn _ _ _ h
theorem Sp(gd:F0 W G)(hc:SC W G n){r:Cx->Expr->Option X}(ih:∀c e x,r c e=some x->Dk W G n c e x){e:Expr}{x:X}(hm:c.hnd=false\/Qd e=true)(h:Fj r c e=some x):Dk W G n c e x:=by
 have toGood:∀ {e x},Ls e=true->SE W G n c e x->(∀env whole,isTrue e env whole=(do let v <-whole;standAt e.pos;holding [v] (PySem.truthy v)))->Dk W G n c e x:=fun hp hse hi=>⟨hse,hse.toST hi,hp⟩
 cases e with
 | Constant k u p=>
   cases k<;>first|exact @nn _ _ _ h|(obtain rfl:=Option.some.inj h)
   ·exact toGood rfl Yi fun _ _=>rfl
   ·exact toGood rfl V9 fun _ _=>rfl
   ·exact toGood rfl Yj fun _ _=>rfl
   ·exact toGood rfl Tj fun _ _=>rfl
 | Name y p=>
   (delta Fj at h;dsimp only at h)
   split at h
   ·cases h
   ·rename_i q
    simp only[Bool.or_eq_true,not_or,Bool.not_eq_true]at q
    split at h
    ·rename_i i hs
     cases h
     exact toGood rfl (V8 hs q.1 q.2) fun _ _=>rfl
    ·split at h
     ·rename_i hg
      split at h
      ·cases h;exact toGood rfl (Yh gd hg q.1) fun _ _=>rfl
      ·cases h
     ·cases h
 | UnaryOp op e p=>
   cases op<;>first|exact @nn _ _ _ h|skip
   ·obtain⟨y,hy,rfl⟩:=b1 (o:=r c e) (k:=X.not) h
    have g:=ih c e y hy
    exact⟨Z9 g.se,Aaa g.st,rfl⟩
   ·obtain⟨y,hy,rfl⟩:=b1 (o:=r c e) (k:=X.neg) h
    have g:=ih c e y hy
    exact toGood rfl (Aab g.se) fun _ _=>rfl
 | BoolOp op es p=>
   obtain⟨h1,h2⟩:=Hr (ih c) (p:=p) (show Mz (r c) op es=some x from h)
   exact⟨h1,h2,rfl⟩
 | BinOp l op e p=>
   obtain⟨y,hy,z,hz,rfl⟩:=b2 (o:=r c l) (o':=r c e) (k:=X.bin op) h
   exact toGood rfl (Aaf (ih c _ _ hy).se (ih c _ _ hz).se) fun _ _=>rfl
 | Compare l ops es p=>
   rcases ops with _ | ⟨o,_ | ⟨o',_ | ⟨o3,ops⟩⟩⟩
   ·exact @nn _ _ _ h
   ·rcases es with _ | ⟨e,_ | ⟨e',es⟩⟩
    ·exact @nn _ _ _ h
    ·obtain⟨y,hy,z,hz,rfl⟩:=b2 (o:=r c l) (o':=r c e) (k:=X.cmp o) h
     have g1:=ih c _ _ hy
     have g2:=ih c _ _ hz
     exact⟨Aag g1.se g2.se (Pp g2.px _),Aah g1.se g2.se (Pp g2.px _),rfl⟩
    ·exact @nn _ _ _ h
   ·rcases es with _ | ⟨m,_ | ⟨e,_ | ⟨e',es⟩⟩⟩
    ·exact @nn _ _ _ h
    ·exact @nn _ _ _ h
    ·obtain⟨y,hy,z,hz,w,hw,rfl⟩:=b3 (o:=r c l) (o':=r c m) (p:=r c e) (k:=fun a b d=>X.chain a o b o' d) h
     have g1:=ih c _ _ hy
     have g2:=ih c _ _ hz
     have g3:=ih c _ _ hw
     have hm:lastMarks [o,o'] [m,e]=false:=Pp g3.px o'
     exact⟨Wa g1.se g2.se g3.se hm,Wb g1.se g2.se g3.se hm,rfl⟩
    ·exact @nn _ _ _ h
   ·exact @nn _ _ _ h
 | Attribute o a p=>
   replace h:(if Hj o=true then(r c o >>= fun y=>L3 a >>= fun z=>pure (X.attr y z))else none)=some x:=h
   split at h
   ·rename_i hb
    obtain⟨y,hy,at',ha,rfl⟩:=b2 h
    exact toGood rfl (Yo gd hb ha (ih c _ _ hy).se) fun _ _=>rfl
   ·cases h
 | List es p=>
   replace h:(if es.length<100 then(Fx (r c) es >>= fun y=>pure (X.list y))else none)=some x:=h
   split at h
   ·rename_i hl
    obtain⟨ys,hy,rfl⟩:=b1 h
    exact toGood rfl (Yn (Bn (ih c) hy).1 hl) fun _ _=>rfl
   ·cases h
 | Tuple es k p=>
   replace h:(if es.length<100 then(Fx (r c) es >>= fun y=>pure (X.tuple y))else none)=some x:=h
   split at h
   ·rename_i hl
    obtain⟨ys,hy,rfl⟩:=b1 h
    exact toGood rfl (Wn (Bn (ih c) hy).1 hl) fun _ _=>rfl
   ·cases h
 | Dict ks vs p=>
   rcases ks with _ | ⟨k,_ | ⟨k',ks⟩⟩
   ·rcases vs with _ | ⟨v,vs⟩
    ·obtain rfl:=Option.some.inj (show some (X.dict [] [])=some x from h)
     exact toGood rfl Wq fun _ _=>rfl
    ·exact @nn _ _ _ h
   ·rcases k with _|k
    ·exact @nn _ _ _ h
    ·rcases vs with _ | ⟨v,_ | ⟨v',vs⟩⟩
     ·exact @nn _ _ _ h
     ·exact nomatch (show (none:Option X)=some x from h)
     ·exact @nn _ _ _ h
   ·rcases k with _|k<;>exact @nn _ _ _ h
 | Subscript o i p=>
   cases hi:Nb i with
   | true=>
     have e:Fj r c (.Subscript o i p)=(do return .sub (<-r c o) (<-r c i)):=by cases i<;>first|rfl|cases hi
     rw[e]at h
     obtain⟨y,hy,z,hz,rfl⟩:=b2 h
     exact toGood rfl (Aaj hi (ih c _ _ hy).se (ih c _ _ hz).se) fun _ _=>rfl
   | false=>
     cases i with
     | Slice l u st p2=>
       obtain⟨y,hy,a,ha,b,hb,d,hd,rfl⟩:=b4 (o:=r c o) (o':=Ry (r c) l) (p:=Ry (r c) u) (p':=Ry (r c) st) (k:=X.slice) h
       exact toGood rfl (Wp (ih c _ _ hy).se (Kc (ih c) ha) (Kc (ih c) hb) (Kc (ih c) hd)) fun _ _=>rfl
     | _=>cases hi
 | Call f args kws p=>exact Mh gd hc (fun c e x h=>ih c e x h) hm h
 | ListComp elt gens sc p=>
   rcases gens with _ | ⟨⟨t,it,ifs,a⟩,_ | ⟨g2,gs⟩⟩
   ·exact @nn _ _ _ h
   ·obtain⟨x',ts,K,src,body,ht,hsrc,hset,hb,he,rfl,rfl,hcm⟩:=Nn gd (hm.resolve_right nofun) ih h
    exact toGood rfl (L8 K (hm.resolve_right nofun) hcm ht hsrc hb hset he) fun _ _=>rfl
   ·exact @nn _ _ _ h
 | _=>exact @nn _ _ _ h
theorem Tq{a b:Bool}(q:¬(a && !b)=true):a=false\/b=true:=by cases a<;>cases b<;>simp_all
theorem Mk(gd:F0 W G)(hc:SC W G n):∀(k:Nat) (c:Cx) (e:Expr) (x:X),Rn k c e=some x->Dk W G n c e x
 | 0,_,_,_,h=>by cases h
 | k+1,c,e,x,h=>by
   replace h:(if (c.hnd && !Qd e)=true then none else Fj (Rn k) c e)=some x:=h
   split at h
   ·cases h
   ·rename_i q
    exact Sp gd hc (Mk gd hc k) (Tq q) h
theorem Cc{f:Stmt->Option S}(ih:∀e x,f e=some x->Op W G n c e x){es:List Stmt}:∀ {xs:List S},Ks f es=some xs->Gu W G n c es xs:=by
 induction es with
 | nil=>intro xs h;cases h;exact Wv
 | cons e es ih2=>
   intro xs h
   cases es with
   | nil=>
     obtain⟨x,hx,rfl⟩:=b1 (o:=f e) (k:=fun x=>[x]) h
     exact Ww (ih e x hx)
   | cons e' es=>
     obtain⟨x,hx,ys,hy,rfl⟩:=b2 (o:=f e) (o':=Ks f (e'::es)) (k:=List.cons) h
     cases ys with
     | nil=>obtain⟨_,_,_,_,q⟩:=b2 (o:=f e') (o':=Ks f es) (k:=List.cons) hy;cases q
     | cons y ys=>exact Um (ih e x hx) (ih2 hy)
end Mine.Internal
namespace Mine.Internal
open PySem PySem.W PyProof.Rows
variable {W:Wd} {G:Ap} {c:Cx} {n:Nat} {Er:EP}
theorem Pq(gd:F0 W G)(hf:c.hnd=false)(hc:SC W G n){k:Nat}{y:Str}{py pos:Pos}{e:Expr}{i:Nat}{x:X}(hi:c.own y=some i)(h:Rn k c e=some x):Op W G n c (.Assign [.Name y py] e pos) (.assign i x):=by
 cases hn:Kt e with
 | true=>intro A env h₀ H ρ s N Rt E ok Y R q;exact Up (Mk gd hc k c e x h).se hn hi ok Y R q
 | false=>
   cases k with
   | zero=>cases h
   | succ k=>
     have h':Fj (Rn k) c e=some x:=by
      have z:(if (c.hnd && !Qd e)=true then none else Fj (Rn k) c e)=some x:=h
      rw[if_neg (by rw[hf];exact nofun)]at z
      exact z
     cases e with
     | ListComp elt gens sc p=>
       rcases gens with _ | ⟨⟨t,it,ifs,a⟩,_ | ⟨g2,gs⟩⟩
       ·exact @nn _ _ _ h'
       ·obtain⟨x',ts,K,src,body,ht,hsrc,hset,hb,he,rfl,rfl,hcm⟩:=Nn gd hf (Mk gd hc k) h'
        intro A env h₀ H ρ s N Rt E ok Y R q;exact Nm K hf hcm ht hsrc hb hset he hi ok Y R q
       ·exact @nn _ _ _ h'
     | SetComp _ _ _ _=>exact @nn _ _ _ h'
     | DictComp _ _ _ _ _=>exact @nn _ _ _ h'
     | _=>cases hn
/-! raise and try -/
theorem W3{e:Option Expr}{cc:Cp}(h:Fy c e=some cc):(Zz fun x np sv k1 k2 cpos=>Go (e=some (.Call (.Name x np) [.Constant (.str sv) k1 k2] [] cpos)) (c.global x=true) (Gs x=some cc)):=by
 refine Aa fun nY=>?_
 cases e with
 | none=>cases h
 | some e=>
   replace h:(match Db e with|some (x,args)=>(match args with | [a]=>if (Vt a&&c.global x)=true then Gs x else none|_=>none)|none=>none)=some cc:=h
   refine nY ?_;clear nY
   cases q:Db e with
   | none=>rw[q]at h;cases h
   | some r=>
     refine Aa fun nY=>?_
     obtain⟨x,args⟩:=r
     rw[q]at h
     rcases args with _ | ⟨a,_ | ⟨b,r⟩⟩<;>try exact @nn _ _ _ h
     replace h:(if (Vt a&&c.global x)=true then Gs x else none)=some cc:=h
     by_cases z:(Vt a&&c.global x)=true
     ·rw[if_pos z]at h
      obtain⟨z1,z2⟩:=Bool.and_eq_true_iff.mp z
      obtain⟨sv,k1,k2,rfl⟩:=X7 z1
      obtain⟨np,cpos,rfl⟩:=Hh q
      refine nY ?_;clear nY
      exact⟨x,np,sv,k1,k2,cpos,rfl,z2,h⟩
     ·rw[if_neg z]at h;cases h
section
variable {nm q:Str} {C N:Addr} {bs bm:List Value} {hdct:Bool} {sn:List Str} {sub:List Value} {ab:Bool} {col:Option Bool} {dd:Option Addr} {k0 k1 k2 k3 k5:Option Value} {newId:String}
theorem Sq{M:Model}{A:Around}{env:Env}{s:Shared}{E:Value->Shared->Prop}{x:Sem Value}{Q:Flow->Shared->Prop}(hb:bm.contains (.type "BaseException")=true)
 (h:wpAny M A x (fun v s₁=>(Gx fun e t=>Rq (v = .ref e) (s₁.heap.get? C=some (excClassObj nm q C N bs bm hdct sn sub ab col dd k0 k1 k2 k3 k5 newId)) (s₁.heap.get? e=some {cls:= .ref C,data:= .fields #[.ref t,.none,.none,.none,.bool false,.none]}) (wpAny M A (raiseNew (.ref e):Sem Flow) Q E s₁))) E s) :
 wpAny M A (raiseStmt env (some x) none) Q E s:=by
 have hc:(Value.ref C::bm).contains (.type "BaseException")=true:=by rw[List.contains_cons,hb,Bool.or_true]
 unfold raiseStmt
 refine wpAny_bind (wpAny_mono h (fun v s₁ h₁=>?_) fun _ _ x=>x)
 obtain⟨e,t,rfl,hC,he,hE⟩:=h₁
 obtain⟨hp,g,d,tk,os⟩:=s₁
 repeat (first|with_reducible exact hE|with_reducible refine wpAny_loadPart_at he ?_|with_reducible refine wpAny_loadPart_at hC ?_|(with_reducible refine wpAny_isSubtype_exc hC ?_;rw[hc])|wp_step)
end
theorem Ow(gd:F0 W G){A:Around}{h₀:HB}{env:Env}{H:AH}{ρ:Ao}{s:Shared}{Q:Flow->Shared->Prop}{Em:Value->Shared->Prop}{e:Option Expr}{cc:Cp}{pos:Pos}(h:Fy c e=some cc)(xo:Kx W cc)(ok:Ky A c h₀ env n)(Y:Ac W env c h₀)(R:Ak W h₀ env c.names H ρ s)
 (fin:∀h' e s₂ us,Ak W h₀ env c.names H ρ s₂->Heap.MadeExcOf s₂.heap h' e (.ref (W.cl cc)) us->wpAny W.M A (raiseNew (.ref e):Sem Flow) Q Em {s₂ with heap:=h'}):wpAny W.M A (exec (.Raise e none pos) env) Q Em s:=by
 obtain⟨x,np,sv,j1,j2,cpos,rfl,hg,ht⟩:=W3 h
 have hd:(x==("__debug__" :Str))=false:=(by decide:∀p∈Ll,(p.1==("__debug__" :Str))=false) (x,cc) (E8 ht)
 have hns:NS [Expr.Constant (.str sv) j1 j2]:=ns1 fun _ _ q=>by cases q
 obtain⟨nm,qq,N',bs,bm,hdct,sn,sub,ab,col,dd,k0,k1,k2,k3,k5,mN,K⟩:=Ho gd xo
 have hs:Rp W G n c [Expr.Constant (.str sv) j1 j2] [.cstr sv]:=Qw Tj Ti fun _ _ q=>by cases q
 rw[arm_exec_Raise]
 refine wpAny_bind (wpAny_standAt (Sq (C:=W.cl cc) (nm:=nm) (q:=qq) (N:=N') (bs:=bs) (bm:=bm) (hdct:=hdct) (sn:=sn) (sub:=sub) (ab:=ab) (col:=col) (dd:=dd) (k0:=k0) (k1:=k1) (k2:=k2) (k3:=k3) (k5:=k5) (newId:= "ValueError.__new__") (K.tail.hasType (by decide)) (wpAny_bind (wpAny_mono (wpAny_Call_ofName (C4 gd Y R hg hd (Kv ht▸xo.name) ?_)) (fun v s₃ h₃=>wpAny_bind (wpAny_standAt (wpAny_pure h₃))) fun _ _ x=>x))))
 unfold callWith
 refine wpAny_bind (wpAny_holding (wpAny_mono (Ei (Er:=EF) (Q':=fun a s₂=>a.kw = []/\a.pos.length<=1/\Ak W h₀ env c.names H ρ s₂) hs hns ok Y R (Q:=fun as H'=>as.length=1/\H'=H) ⟨rfl,rfl⟩ fun as us H' s' hv R' q'=>⟨rfl,?_,?_⟩) (fun a s₂ r=>wpAny_bind (wpAny_standAt ?_)) fun _ _ e=>e.ef))
 ·show us.length<=1
  rw[<-hv.length,q'.1];exact Nat.le_refl _
 ·rw[<-q'.2];exact R'
 ·obtain⟨apos,akw⟩:=a
  obtain⟨r1,r2,R2⟩:=r
  obtain rfl:akw = []:=r1
  have K2:=K.keeps (R2.keepB Y)
  simp only[hns.plain]
  obtain⟨hp,g,d,tk,os⟩:=s₂
  refine wpAny_bind (wpAny_keeperOf_exc K2.at_ ?_)
  refine wpAny_bind (wpAny_call_exc_subT (hrest:=Nat.le_trans r2 (by decide)) PySem.F.excBase_ValueError K2.tail K2.at_ K2.ns K.ini fun h' e hm=>wpAny_bind (wpAny_holding (wpAny_point (wpAny_pure ?_))))
  obtain⟨t,ht,_,_⟩:=hm.there
  exact⟨e,t,rfl,hm.keeps _ _ K2.at_,ht,fin h' e _ _ R2 hm⟩
theorem Q4{h₀:HB}{env:Env}{names:List Str}{H:AH}{ρ:Ao}{s:Shared}(R:Ak W h₀ env names H ρ s){h':Heap}{e:Addr}{C:Value}{us:List Value}(hm:Heap.MadeExcOf s.heap h' e C us):H e=none:=by
 cases z:H e with
 | none=>rfl
 | some o=>obtain⟨ob,z1,_⟩:=R.objs e o z;rw[hm.new]at z1;cases z1
theorem W4(gd:F0 W G)(hf:c.hnd=false){e:Option Expr}{cc:Cp}{pos:Pos}(h:Fy c e=some cc):Op W G n c (.Raise e none pos) (.raise cc):=by
 intro A env h₀ H ρ s N Rt E ok Y R q
 rw[Bo]at q
 obtain⟨hG,q⟩:=q
 have xo:=gd.exc cc hG
 refine Ow gd h xo ok Y R fun h' e s₂ us R2 hm=>wpAny_raiseNew_none (ok.handled hf) ?_
 obtain⟨t,he,_,_⟩:=hm.there
 have R3:=R2.put s₂.toks hm.keeps he (.exc (c:=cc) xo rfl rfl (.inr rfl)) hm.new nofun
 exact⟨ρ,fun _=>rfl,none,e,_,cc,rfl,R3,(by simp[upd]),⟨_,_,_,he,rfl,rfl,rfl⟩,q e (Q4 R2 hm)⟩
theorem N6:entryFor table "proto.unchain" = some Builtin.«proto.unchain» :=entryFor_of_fast (by kernel_rfl)
theorem Sr{A:Around}{s:Shared}{e e2:Addr}{oe o2:Obj}{vs ws:Array Value}{Q:Flow->Shared->Prop}{Em:Value->Shared->Prop}(hh:A.handled=some (.ref e))(hne:e≠e2)(he:s.heap.get? e=some oe)(hd:oe.data = .fields vs)(hv:vs[2]? = some .none)(he2:s.heap.get? e2=some o2)(hd2:o2.data = .fields ws)(hz:2<ws.size)
 (q:Em (.ref e2) {s with heap:=s.heap.update e2 (Obj.mapFields (·.setIfInBounds 2 (.ref e)))}):wpAny W.M A (raiseNew (.ref e2):Sem Flow) Q Em s:=by
 unfold raiseNew
 refine wpAny_bind (wpAny_handled ?_)
 rw[hh]
 show wpAny W.M A (if (Value.ref e != Value.ref e2)=true then(do
  let _ <-holding [Value.ref e2] (runValue (.builtin "proto.unchain" ⟨[.ref e2,.ref e,.ref e,.bool false],[]⟩))
  let _ <-updateField e2 2 (.ref e)
  throw (.ref e2))else throw (.ref e2)) Q Em s
 rw[if_pos (by simp[hne])]
 refine wpAny_bind (wpAny_holding (runValue_entry N6 ?_))
 show wpAny W.M _ (do
  let context <-field (.ref e) 2
  if context == .none then return <-PySem.ret .none
  if context == .ref e2 then
   rule "raise.context-cycle-cut"
   setField (.ref e) 2 .none
   return <-PySem.ret .none
  if context == .ref e then rule "raise.context-old-cycle";return <-PySem.ret .none
  let slow <-if false then field (.ref e) 2 else pure (.ref e)
  PySem.again (.builtin "proto.unchain" ⟨[.ref e2,context,slow,.bool !false],[]⟩)) _ _ _
 refine wpAny_bind (wpAny_field he hd hv ?_)
 rw[if_pos (by decide)]
 refine wpAny_bind (wpAny_pure (wpAny_pure ⟨_,rfl,?_⟩))
 exact wpAny_bind (wpAny_setField (x:= .ref e) he2 hd2 hz (wpAny_throw q))
theorem Ak.forget{h₀:HB}{env:Env}{names:List Str}{H:AH}{ρ:Ao}{s:Shared}(R:Ak W h₀ env names H ρ s)(Y:Ac W env c h₀){h':Heap}{m':Str->Option Value}(hm:h'.Ns env.locals m')(hb:Heap.SameBut env.locals s.heap h')(t:Nat):Ak W h₀ env names H [] {s with heap:=h',toks:=t} where
 ns:=⟨m',hm,fun x i v _ _ e=>by simp at e⟩
 cell:=fun x a e=>let ⟨w,⟨o,ho,hd⟩,_⟩:=R.cell x a e;⟨w,⟨o,(hb.2 a (Y.apart x a e)).trans ho,hd⟩,fun i v _ _ e=>by simp at e⟩
 keep:=fun b o e=>let ⟨o',e1,z⟩:=R.keep b o e;⟨o',(hb.2 b (fun q=>by rw[q,Y.new]at e;cases e)).trans e1,z⟩
 objs:=fun a o e=>let ⟨ob,h1,h2⟩:=R.objs a o e;⟨ob,(hb.2 a (R.sep a o e).2.1).trans h1,h2⟩
 sep:=R.sep
 gens:=R.gens
 os:=R.os
 above:=R.above
 low:=R.low
theorem Ac.inH{h₀:HB}{env:Env}(Y:Ac W env c h₀):Ac W env {c with hnd:=true} h₀:=⟨Y.kind,Y.globals,Y.builtins,Y.kinds,Y.frees,Y.cells,Y.apart,Y.inj,Y.base,Y.new,Y.fsok,Y.fsd,Y.newc,Y.look,Y.lo⟩
theorem Tr{h:ExceptHandler}{cc:Cp}{as:Option Nat}(e:Gb c h=some (cc,as)):(Zz fun x np a b₀ sb p=>Rq (h = .ExceptHandler (some (.Name x np)) a (b₀::sb) p) (c.global x=true) (Gs x=some cc) (asO c a=some as)):=by
 refine Aa fun nY=>?_
 cases h with
 | ExceptHandler t a suite p=>
   replace e:(match Zp t with|some x=>if (c.global x && !suite.isEmpty)=true then(Gs x >>= fun k=>asO c a >>= fun i=>pure (k,i))else none|none=>none)=some (cc,as):=e
   cases t with
   | none=>cases e
   | some t=>
     replace e:(match Ew t with|some x=>if (c.global x && !suite.isEmpty)=true then(Gs x >>= fun k=>asO c a >>= fun i=>pure (k,i))else none|none=>none)=some (cc,as):=e
     refine nY ?_;clear nY
     cases q:Ew t with
     | none=>rw[q]at e;cases e
     | some x=>
       refine Aa fun nY=>?_
       obtain⟨np,rfl⟩:=Hf q
       rw[q]at e
       replace e:(if (c.global x && !suite.isEmpty)=true then(Gs x >>= fun k=>asO c a >>= fun i=>pure (k,i))else none)=some (cc,as):=e
       split at e
       ·rename_i z
        obtain⟨k,hk,i,hi,q⟩:=b2 e
        cases q
        cases suite with
        | nil=>simp at z
        | cons b₀ sb=>(refine nY ?_;clear nY;exact⟨x,np,a,b₀,sb,p,rfl,by simp at z;exact z,hk,hi⟩)
       ·cases e
theorem Zu{x:Str}{as:Option Nat}(h:asO c (some x)=some as):(Li fun i=>Go (as=some i) (c.own x=some i) (c.sc.names.lookup x=some .local)):=by
 replace h:(if (c.sc.names.lookup x==some .local)=true then(c.own x).map some else none)=some as:=h
 refine Aa fun nY=>?_
 split at h
 ·rename_i z
  obtain⟨i,hi,rfl⟩:=Option.map_eq_some_iff.mp h
  refine nY ?_;clear nY
  exact⟨i,rfl,hi,by simpa using z⟩
 ·cases h
theorem Hs(gd:F0 W G){A:Around}{h₀:HB}{env:Env}{ρ:Ao}{s:Shared}{Er:EP}{N:Ao->AH->Prop}{Rt:Ad}{Em:Value->Shared->Prop}(ok:Ky A c h₀ env n)(Y:Ac W env c h₀){h:ExceptHandler}{rest:List ExceptHandler}{cc:Cp}{as:Option Nat}{xs:List S}
 (hk:Gb c h=some (cc,as)) (hs:Gu W G n {c with hnd:=true} (D5 h) xs) (xo:Kx W cc) {v:Value} (x:Pc W h₀ env c.names ρ Er (some .none) v s)
 (yes:∀v H',Er v H'->Ct cc v H'=some true->Bt G (Ab G n) xs (T9 as (some v) ρ) H' (fun ρ H=>N (T8 as ρ) H) Rt EF)
 (no:∀s',Pc W h₀ env c.names ρ (fun v H=>Er v H/\Ct cc v H=some false) (some .none) v s'->wpAny W.M A (handleBy v env rest) (Hp W h₀ env c.names N Rt) Em s') :
 wpAny W.M A (handleBy v env (h::rest)) (Hp W h₀ env c.names N Rt) Em s:=by
 refine Aa fun nY=>?_
 obtain⟨xn,np,a,b₀,sb,p,rfl,hg,ht,ha⟩:=Tr hk
 obtain⟨e,H,c',rfl,R,he,trc,q⟩:=x
 have hd:(xn==("__debug__" :Str))=false:=(by decide:∀p∈Ll,(p.1==("__debug__" :Str))=false) (xn,cc) (E8 ht)
 obtain⟨ob,h1,h2⟩:=R.objs e _ he
 cases h2 with
 | exc z1 z2 z3 z4=>
 obtain⟨nm,qq,N1,bs,bm,hdct,sn,sub,ab,col,dd,k0,k1,k2,k3,k5,mN,K⟩:=Ho gd z1
 obtain⟨nm',qq',N',bs',bm',hdct',sn',sub',ab',col',dd',k0',k1',k2',k3',k5',mN',K'⟩:=Ho gd xo
 replace K:=K.keeps (R.keepB Y)
 replace K':=K'.keeps (R.keepB Y)
 have hb:=gd.sub c' cc z1 xo
 rw[K.mro]at hb
 have hi:Ct cc (.ref e) H=some (c'==cc||cc == .webError):=Km he
 have ok':Ky (A.mark (some (.ref e))) {c with hnd:=true} h₀ env n:=⟨nofun,ok.room,ok.units,ok.stk,ok.top⟩
 refine nY ?_;clear nY
 refine wpAny_handleBy_cons (codeAny_handlers_test (C4 gd Y R hg hd (Kv ht▸xo.name) ?_)) (by intro q;cases q)
 refine Aa fun nY=>?_
 obtain⟨hh,gg,d,tk,os⟩:=s
 refine nY ?_;clear nY
 refine L7 K.at_ h1 z2 K'.at_ (K'.tail.hasType (by decide)) hb ?_
 cases hr:(c'==cc||cc == .webError)with
 | false=>
   rw[hr]at hi
   exact no _ ⟨e,H,c',rfl,R,he,trc,q,hi⟩
 | true=>
   rw[hr]at hi
   have x2:Pc W h₀ env c.names ρ (fun v H=>Er v H/\Ct cc v H=some true) (some .none) (.ref e) ⟨hh,gg,d,tk,os⟩:=⟨e,H,c',rfl,R,he,trc,q,hi⟩
   refine Aa fun nY=>?_
   cases a with
   | none=>
     cases ha
     refine nY ?_;clear nY
     refine codeAny_handlers_suite (F2 Y x2 fun s1 y=>?_)
     refine Aa fun nY=>?_
     obtain⟨e1,H1,c1,w1,R1,_,_,q1,i1⟩:=y
     cases w1
     refine nY ?_;clear nY
     exact wpAny_mono (hs ok' Y.inH R1 (yes _ _ q1 i1)) (fun f s2 r=>r) fun _ _ z=>(let ⟨_,_,w⟩:=z;w.ef)
   | some nmx=>
     obtain⟨i,rfl,ho,hl⟩:=Zu ha
     have hlo:env.kindOf nmx=some .local:=Y.kinds nmx _ hl (by simp)
     refine nY ?_;clear nY
     refine codeAny_handlers_suite_as (F2 Y x2 fun s1 y=>?_)
     refine Aa fun nY=>?_
     obtain⟨e1,H1,c1,w1,R1,_,_,q1,i1⟩:=y
     cases w1
     refine nY ?_;clear nY
     refine wpAny_mono (Nd Y R1 ho (.ref e)) (fun _ s2 R2=>?_) fun _ _ e=>e
     refine wpAny_mono (hs ok' Y.inH R2 (yes _ _ q1 i1)) (fun f s3 r=>?_) fun _ _ z=>(let ⟨_,_,w⟩:=z;w.ef)
     have hp:(env.scope.kind == .class||(env.scope.kind == .module&&env.locals != env.globals))=false:=by rw[Y.kind];rfl
     refine Aa fun nY=>?_
     cases f with
     | next=>
       obtain⟨ρ3,H3,R3,q3⟩:=r
       obtain⟨m,hm,_⟩:=R3.ns
       refine nY ?_;clear nY
       exact wpAny_nameGoes hlo hm hp fun h' m' hm' hsb=>⟨[],H3,Ak.forget R3 Y hm' hsb _,q3⟩
     | ret w=>
       obtain⟨a,H3,ρ3,hv,R3,q3⟩:=r
       obtain⟨m,hm,_⟩:=R3.ns
       refine nY ?_;clear nY
       exact wpAny_nameGoes hlo hm hp fun h' m' hm' hsb=>⟨a,H3,[],hv,Ak.forget R3 Y hm' hsb _,q3⟩
     | brk=>exact r.elim
     | cont=>exact r.elim
theorem Np{A:Around}{h₀:HB}{env:Env}{H:AH}{ρ:Ao}{s:Shared}{E':EP}{N:Ao->AH->Prop}{Rt:Ad}{Em:Value->Shared->Prop}(hcm:c.cmp=false){body:List Stmt}{b:List S}{h:ExceptHandler}{hs:List ExceptHandler}{pos:Pos}(hbody:Gu W G n c body b)(hst:Hk b=true)
 (ok:Ky A c h₀ env n) (Y:Ac W env c h₀) (R:Ak W h₀ env c.names H ρ s) (q:Bt G (Ab G n) b ρ H N Rt E')
 (hh:∀v s',Pc W h₀ env c.names ρ E' (some .none) v s'->wpAny W.M A (handleBy v env (h::hs)) (Hp W h₀ env c.names N Rt) Em s') :
 wpAny W.M A (exec (.Try body (h::hs) [] [] pos) env) (Hp W h₀ env c.names N Rt) Em s:=by
 refine Aa fun nY=>?_
 obtain⟨outer,h1,h2,h3⟩:=ok.tops hcm
 refine nY ?_;clear nY
 refine wpAny_Try_except (wpAny_mono (hbody ok Y R q) (fun f s₁ r=>?_) fun v s₁ x=>?_)
 ·refine Aa fun nY=>?_
  cases f with
  | next=>(refine nY ?_;clear nY;exact wpAny_pure r)
  | ret v=>(refine nY ?_;clear nY;exact r)
  | brk=>exact r.elim
  | cont=>exact r.elim
 ·refine Aa fun nY=>?_
  obtain⟨ρ',hρ,x⟩:=x
  have:=hρ hst
  subst this
  refine nY ?_;clear nY
  exact F1 h1 h2 h3 Y x fun s2 _ y=>F2 Y y fun s3 z=>hh v s3 z
theorem Ts(gd:F0 W G)(hcm:c.cmp=false){body:List Stmt}{b xs:List S}{h:ExceptHandler}{rest:List ExceptHandler}{k:Cp×Option Nat}{pos:Pos}(hbody:Gu W G n c body b)(hst:Hk b=true)(hk:Gb c h=some k)(hs:Gu W G n {c with hnd:=true} (D5 h) xs):Op W G n c (.Try body (h::rest) [] [] pos) (mk1 b k xs):=by
 intro A env h₀ H ρ s N Rt E ok Y R q
 obtain⟨cc,as⟩:=k
 replace q:Ny G (Ab G n) (.try1 b cc as xs) ρ H N Rt E:=q
 rw[Rv]at q
 obtain⟨hG,q⟩:=q
 refine Np hcm hbody hst ok Y R q fun v s' x=>?_
 refine Hs gd ok Y hk hs (gd.exc cc hG) x (fun v H' q i=>by rw[i]at q;exact q) fun s2 y=>?_
 obtain⟨e1,H1,c1,w1,R1,_,_,q1,i1⟩:=y
 cases w1
 rw[i1]at q1
 exact q1.elim
theorem Q5{h:ExceptHandler}{cc:Cp}(e:H0 c h=some cc):Gb c h=some (cc,none):=by
 unfold H0 at e
 refine Aa fun nY=>?_
 split at e
 ·refine nY ?_;clear nY
  rename_i z;cases e;exact z
 ·cases e
theorem Ut{b:List Stmt}{cc:Cp}(h:R0 c b=some cc):(Gx fun e p=>b = [.Raise e none p]/\Fy c e=some cc):=by
 rcases b with _ | ⟨s,_ | ⟨s',r⟩⟩<;>try exact @nn _ _ _ h
 replace h:Vu c s=some cc:=h
 cases s<;>try exact @nn _ _ _ h
 case Raise e z p=>
  cases z with
  | none=>exact⟨e,p,rfl,h⟩
  | some z=>exact @nn _ _ _ h
theorem Yx(gd:F0 W G)(hcm:c.cmp=false){body:List Stmt}{b:List S}{h:ExceptHandler}{k k':Cp}{pos:Pos}(hbody:Gu W G n c body b)(hst:Hk b=true)(hk:H0 c h=some k)(hr:R0 c (D5 h)=some k'):Op W G n c (.Try body [h] [] [] pos) (.tryR b k k'):=by
 intro A env h₀ H ρ s N Rt E ok Y R q
 rw[Vk]at q
 obtain⟨⟨hG,hG',rfl,rfl⟩,q⟩:=q
 have xo:=gd.exc _ hG
 have xo':=gd.exc _ hG'
 obtain⟨xn,np,a,b₀,sb,p,rfl,hg,ht,ha⟩:=Tr (Q5 hk)
 obtain⟨re,rp,hb,hrc⟩:=Ut hr
 cases hb
 refine Np hcm hbody hst ok Y R q fun v s' x=>?_
 obtain⟨e,H,c',rfl,R,he,trc,q⟩:=x
 have hd:(xn==("__debug__" :Str))=false:=(by decide:∀p∈Ll,(p.1==("__debug__" :Str))=false) (xn,Cp.badWeb) (E8 ht)
 obtain⟨ob,h1,h2⟩:=R.objs e _ he
 have hi:Ct .badWeb (.ref e) H=some (c' == .badWeb||Cp.badWeb == .webError):=Km he
 cases h2 with
 | exc z1 z2 z3 z4=>
 obtain⟨nm,qq,N1,bs,bm,hdct,sn,sub,ab,col,dd,k0,k1,k2,k3,k5,mN,K⟩:=Ho gd z1
 obtain⟨nm',qq',N',bs',bm',hdct',sn',sub',ab',col',dd',k0',k1',k2',k3',k5',mN',K'⟩:=Ho gd xo
 replace K:=K.keeps (R.keepB Y)
 replace K':=K'.keeps (R.keepB Y)
 have hb:=gd.sub c' .badWeb z1 xo
 rw[K.mro]at hb
 cases a with
 | some y=>obtain⟨i,hi,_⟩:=Zu ha;cases hi
 | none=>
 refine wpAny_handleBy_cons (codeAny_handlers_test (C4 gd Y R hg hd (Kv ht▸xo.name) ?_)) (by intro q;cases q)
 obtain⟨hh,gg,d,tk,os⟩:=s'
 refine L7 K.at_ h1 z2 K'.at_ (K'.tail.hasType (by decide)) hb ?_
 cases hr:(c' == .badWeb||Cp.badWeb == .webError)with
 | false=>
   rw[hr]at hi
   rw[hi]at q
   exact q.elim
 | true=>
   rw[hr]at hi
   rw[hi]at q
   have hc':c' = .badWeb:=by cases c'<;>first|rfl|cases hr
   subst hc'
   have ok':Ky (A.mark (some (.ref e))) {c with hnd:=true} h₀ env n:=⟨nofun,ok.room,ok.units,ok.stk,ok.top⟩
   have x2:Pc W h₀ env c.names ρ (fun v H=>(∀a,H a=none->E (.ref a) (upd H a (.exc .badText)))/\H e=some (.exc .badWeb)) (some .none) (.ref e) ⟨hh,gg,d,tk,os⟩:=⟨e,H,_,rfl,R,he,trc,q,he⟩
   refine codeAny_handlers_suite (F2 Y x2 fun s1 y=>?_)
   obtain⟨e1,H1,c1,w1,R1,_,_,q1,he1⟩:=y
   cases w1
   refine wpAny_execs_cons (Ow (c:={c with hnd:=true}) gd hrc xo' ok' Y.inH R1 fun h' e2 s₂ us R2 hm=>?_)
   obtain⟨t,he2,_,_⟩:=hm.there
   obtain⟨ob1,o1,o2⟩:=R2.objs e _ he1
   cases o2 with
   | exc y1 y2 y3 y4=>
   have hne:e≠e2:=fun z=>by rw[z,hm.new]at o1;cases o1
   refine Sr (A:=A.mark (some (.ref e))) rfl hne (hm.keeps _ _ o1) y3 (y4.resolve_left nofun) he2 rfl (show 2<6 by decide) ?_
   have ho:=Heap.get?_update_self (Obj.mapFields (·.setIfInBounds 2 (.ref e))) he2 rfl
   have R3:=R2.put (o:= .exc .badText) s₂.toks (fun b o z=>(Heap.get?_update_other _ _ (fun w=>by rw[<-w,hm.new]at z;cases z)).trans (hm.keeps b o z)) ho (.exc xo' rfl rfl (.inl rfl)) hm.new nofun
   obtain⟨outer,t1,t2,t3⟩:=ok.tops hcm
   exact F1 (A:=A.mark (some (.ref e))) t1 t2 t3 Y ⟨none,e2,_,.badText,rfl,R3,if_pos rfl,⟨_,_,_,ho,rfl,rfl,rfl⟩,q1 e2 (Q4 R2 hm)⟩ fun s3 _ z=>Oq Y z fun s4 w=>⟨ρ,fun _=>rfl,w⟩
theorem Yy(gd:F0 W G)(hcm:c.cmp=false){body:List Stmt}{b xs ys:List S}{h h':ExceptHandler}{k:Cp×Option Nat}{k':Cp}{pos:Pos}(hbody:Gu W G n c body b)(hst:Hk b=true)(hk:Gb c h=some k)(hs:Gu W G n {c with hnd:=true} (D5 h) xs)
 (hk':H0 c h'=some k') (hs':Gu W G n {c with hnd:=true} (D5 h') ys):Op W G n c (.Try body [h,h'] [] [] pos) (mk2 b k xs k' ys):=by
 intro A env h₀ H ρ s N Rt E ok Y R q
 refine Aa fun nY=>?_
 obtain⟨cc,as⟩:=k
 replace q:Ny G (Ab G n) (.try2 b cc as xs k' ys) ρ H N Rt E:=q
 rw[Vl]at q
 obtain⟨hG,hG',q⟩:=q
 refine nY ?_;clear nY
 refine Np hcm hbody hst ok Y R q fun v s' x=>?_
 refine Hs gd ok Y hk hs (gd.exc cc hG) x (fun v H' q i=>by rw[i]at q;exact q) fun s2 y=>?_
 refine Hs gd ok Y (Q5 hk') hs' (gd.exc k' hG') y (fun v H' q i=>by have q1:=q.1;rw[q.2]at q1;dsimp only at q1;rw[i]at q1;exact q1) fun s3 z=>?_
 refine Aa fun nY=>?_
 obtain⟨e1,H1,c1,w1,R1,_,_,⟨q1,i1⟩,i2⟩:=z
 cases w1
 rw[i1]at q1
 dsimp only at q1
 rw[i2]at q1
 exact q1.elim
theorem Q6(gd:F0 W G)(hc:SC W G n){k:Nat}{r:Cx->Stmt->Option S}(ih:∀c s x,r c s=some x->Op W G n c s x){s:Stmt}{x:S}(hm:c.hnd=false\/Te s=true)(hcm:c.cmp=false)(h:D6 k r c s=some x):Op W G n c s x:=by
 have sE:=Mk gd hc k c
 cases s<;>try exact @nn _ _ _ h
 case Return e p=>
  cases e with
  | none=>exact @nn _ _ _ h
  | some e=>
    delta D6 at h
    (try dsimp only at h)
    obtain⟨y,hy,rfl⟩:=b1 h
    intro A env h₀ H ρ s N Rt E ok Y R q;exact Aao (sE _ _ hy).se ok Y R q
 case Assign ts e p=>
  cases ts with
  | nil=>exact @nn _ _ _ h
  | cons t ts=>
    cases ts with
    | cons t' ts=>exact @nn _ _ _ h
    | nil=>
      delta D6 at h
      dsimp only at h
      delta Qe at h
      cases t<;>try exact @nn _ _ _ h
      case Attribute o a p=>
       (try dsimp only at h)
       obtain⟨y,hy,a,ha,z,hz,rfl⟩:=b3 h
       intro A env h₀ H ρ s N Rt E ok Y R q;exact Sn gd (sE _ _ hz).se (sE _ _ hy).se ha ok Y R q
      case Subscript o i p=>
       dsimp only at h
       split at h
       ·cases h
       ·obtain⟨y,hy,a,ha,z,hz,rfl⟩:=b3 h
        intro A env h₀ H ρ s N Rt E ok Y R q;exact So (sE _ _ hz).se (sE _ _ hy).se (sE _ _ ha).se ok Y R q
      case Name y p=>
       (try dsimp only at h)
       obtain⟨i,hi,y,hy,rfl⟩:=b2 h
       intro A env h₀ H ρ s N Rt E ok Y R q;exact Pq gd (hm.resolve_right nofun) hc hi hy ok Y R q
 case For t it body els p=>
  cases els with
  | cons a b=>exact @nn _ _ _ h
  | nil=>
    delta D6 at h
    (try dsimp only at h)
    obtain⟨t,ht,y,hy,z,hz,rfl⟩:=b3 h
    obtain⟨h1,h2⟩:=Kb gd (hm.resolve_right nofun) sE hy
    intro A env h₀ H ρ s N Rt E ok Y R q;exact Aam (hm.resolve_right nofun) hcm h1 ht (Cc (ih c) hz) h2 ok Y R q
 case If t a b p=>
  delta D6 at h
  (try dsimp only at h)
  obtain⟨y,hy,a,ha,z,hz,rfl⟩:=b3 h
  intro A env h₀ H ρ s N Rt E ok Y R q;exact Ab3 (sE _ _ hy).st (Cc (ih c) ha) (Cc (ih c) hz) ok Y R q
 case Raise e z p=>
  cases z with
  | some z=>exact @nn _ _ _ h
  | none=>
    delta D6 at h
    (try dsimp only at h)
    obtain⟨y,hy,rfl⟩:=b1 h
    intro A env h₀ H ρ s N Rt E ok Y R q;exact W4 gd (hm.resolve_right nofun) hy ok Y R q
 case Expr e p=>
  delta D6 at h
  dsimp only at h
  split at h
  ·rename_i hn
   obtain⟨y,hy,rfl⟩:=b1 h
   intro A env h₀ H ρ s N Rt E ok Y R q;exact Yv (sE _ _ hy).se hn ok Y R q
  ·cases h
 case Try body hs els fin p=>
  delta D6 at h
  dsimp only at h
  split at h
  ·split at h
   ·rename_i b hb
    split at h
    ·rename_i hst
     have hbody:Gu W G n c body b:=Cc (ih c) hb
     split at h
     ·split at h
      ·rename_i k' hr
       obtain⟨k,hk,rfl⟩:=b1 h
       intro A env h₀ H ρ s N Rt E ok Y R q;exact Yx gd hcm hbody hst hk hr ok Y R q
      ·obtain⟨k,hk,xs,hx,rfl⟩:=b2 h
       intro A env h₀ H ρ s N Rt E ok Y R q;exact Ts gd hcm hbody hst hk (Cc (ih _) hx) ok Y R q
     ·obtain⟨k,hk,xs,hx,k',hk',ys,hy,rfl⟩:=b4 h
      intro A env h₀ H ρ s N Rt E ok Y R q;exact Yy gd hcm hbody hst hk (Cc (ih _) hx) hk' (Cc (ih _) hy) ok Y R q
     ·obtain⟨k,hk,xs,hx,rfl⟩:=b2 h
      intro A env h₀ H ρ s N Rt E ok Y R q;exact Ts gd hcm hbody hst hk (Cc (ih _) hx) ok Y R q
     ·cases h
    ·cases h
   ·cases h
  ·cases h
 case Pass p=>
  cases h;intro A env h₀ H ρ s N Rt E ok Y R q;exact Yw ok Y R q
theorem Tt(gd:F0 W G)(hc:SC W G n):∀(k:Nat) (c:Cx) (s:Stmt) (x:S),erS k c s=some x->Op W G n c s x
 | 0,_,_,_,h=>by cases h
 | k+1,c,s,x,h=>by
   replace h:(if ((c.hnd && !Te s)||c.cmp)=true then none else D6 (k+1) (erS k) c s)=some x:=h
   split at h
   ·cases h
   ·rename_i q
    have q2:¬(c.hnd && !Te s)=true/\c.cmp=false:=by simpa using q
    exact Q6 (k:=k+1) gd hc (Tt gd hc k) (Tq q2.1) q2.2 h
/-! calls of functions -/
theorem Ox{kindOf:Str->Option NameKind}{x:Str}:∀ {ns:List Str} {vs:List Value} {m:Str->Option Value},x∉ns->bindL kindOf (ns.zip vs) m x=m x
 | [],_,_,_=>rfl
 | a::ns,[],_,_=>rfl
 | a::ns,u::vs,m,h=>by
   rw[List.zip_cons_cons]
   unfold bindL
   rw[Ox (fun q=>h (.tail _ q))]
   split
   ·simp only[show x≠a from fun q=>h (by simp[q]),if_false]
   ·rfl
theorem Oy{kindOf:Str->Option NameKind}{x:Str}:∀ {ns:List Str} {vs:List Value} {m:Str->Option Value},x∉ns->bindC kindOf (ns.zip vs) m x=m x
 | [],_,_,_=>rfl
 | a::ns,[],_,_=>rfl
 | a::ns,u::vs,m,h=>by
   rw[List.zip_cons_cons]
   unfold bindC
   rw[Oy (fun q=>h (.tail _ q))]
   split
   ·rfl
   ·simp only[show x≠a from fun q=>h (by simp[q]),if_false]
theorem Uu{kindOf:Str->Option NameKind}{x:Str}{v:Value}:∀ {ns:List Str} {vs:List Value} {m:Str->Option Value},ns.Nodup->kindOf x=some .local->
 (∀i,ns.idxOf? x=some i->vs[i]? = some v->bindL kindOf (ns.zip vs) m x=some v):=by
 intro ns
 induction ns with
 | nil=>intro vs m hn hk i h;simp at h
 | cons a ns ih=>
   intro vs m hn hk i h1 h2
   obtain⟨hn1,hn2⟩:=List.nodup_cons.mp hn
   cases vs with
   | nil=>simp at h2
   | cons u vs=>
     rw[List.zip_cons_cons]
     unfold bindL
     rw[List.idxOf?_cons]at h1
     cases q:a==x with
     | true=>
       rw[q]at h1
       simp only[if_true,Option.some.injEq]at h1
       subst h1
       have hx:=beq_iff_eq.mp q
       subst hx
       simp only[List.getElem?_cons_zero,Option.some.injEq]at h2
       subst h2
       rw[if_pos hk,Ox hn1]
       simp
     | false=>
       rw[q]at h1
       simp only[Bool.false_eq_true,if_false]at h1
       obtain⟨j,hj,rfl⟩:=Option.map_eq_some_iff.mp h1
       simp only[List.getElem?_cons_succ]at h2
       exact ih hn2 hk j hj h2
theorem Uv{kindOf:Str->Option NameKind}{x:Str}{v:Value}:∀ {ns:List Str} {vs:List Value} {m:Str->Option Value},ns.Nodup->kindOf x≠some .local->
 (∀i,ns.idxOf? x=some i->vs[i]? = some v->bindC kindOf (ns.zip vs) m x=some v):=by
 intro ns
 induction ns with
 | nil=>intro vs m hn hk i h;simp at h
 | cons a ns ih=>
   intro vs m hn hk i h1 h2
   obtain⟨hn1,hn2⟩:=List.nodup_cons.mp hn
   cases vs with
   | nil=>simp at h2
   | cons u vs=>
     rw[List.zip_cons_cons]
     unfold bindC
     rw[List.idxOf?_cons]at h1
     cases q:a==x with
     | true=>
       rw[q]at h1
       simp only[if_true,Option.some.injEq]at h1
       subst h1
       have hx:=beq_iff_eq.mp q
       subst hx
       simp only[List.getElem?_cons_zero,Option.some.injEq]at h2
       subst h2
       rw[if_neg hk,Oy hn1]
       simp
     | false=>
       rw[q]at h1
       simp only[Bool.false_eq_true,if_false]at h1
       obtain⟨j,hj,rfl⟩:=Option.map_eq_some_iff.mp h1
       simp only[List.getElem?_cons_succ]at h2
       exact ih hn2 hk j hj h2
theorem K8{β:Type}:∀ {l:List (Str×β)},(l.map (·.1)).Nodup->∀p∈l,l.lookup p.1=some p.2
 | [],_,p,hp=>by cases hp
 | (y,z)::r,h,p,hp=>by
   rw[List.map_cons,List.nodup_cons]at h
   rw[List.lookup_cons]
   rcases List.mem_cons.mp hp with rfl|hp'
   ·simp
   ·have:(p.1==y)=false:=by
     simpa using fun q:p.1=y=>h.1 (by rw[<-q];exact List.mem_map.mpr ⟨p,hp',rfl⟩)
    rw[this]
    exact K8 h.2 p hp'
theorem Pr{l:List (Str×Addr)}(h:l.Pairwise fun x y=>x.2≠y.2){p q:Str×Addr}(hp:p∈l)(hq:q∈l)(e:p.2=q.2):p=q:=by
 induction l with
 | nil=>cases hp
 | cons a l ih=>
   obtain⟨h1,h2⟩:=List.pairwise_cons.mp h
   rcases List.mem_cons.mp hp with e1|hp'
   ·rcases List.mem_cons.mp hq with e2|hq'
    ·rw[e1,e2]
    ·exact absurd (e1▸e) (h1 q hq')
   ·rcases List.mem_cons.mp hq with e2|hq'
    ·exact absurd (e2▸e).symm (h1 p hp')
    ·exact ih h2 hp' hq'
theorem W5{hb:Bool}{params:Arguments}{body:List Stmt}{sc:Scope}{d:Fn}(h:X8 hb params body sc=some d):E9 params=true/\sc.kind = .function/\sc.isGenerator=false/\sc.isCoroutine=false/\d.slots=(Bp params sc).length/\d.arity=params.args.length/\Ks (erS 40 ⟨Bp params sc,sc,hb,false⟩) body=some d.body:=by
 unfold X8 at h
 refine Aa fun nY=>?_
 split at h
 ·rename_i q
  simp only[Bool.and_eq_true,beq_iff_eq,Bool.not_eq_true']at q
  obtain⟨b,hb,rfl⟩:=b1 h
  refine nY ?_;clear nY
  exact⟨q.1.1.1,q.1.1.2,q.1.2,q.2,rfl,rfl,hb⟩
 ·cases h
theorem Ak.back{h₀:HB}{env env':Env}{c:Cx}{names':List Str}{H H':AH}{ρ ρ':Ao}{s s':Shared}(Y:Ac W env c h₀)(R:Ak W h₀ env c.names H ρ s){h₁:HB}(hk:∀b o,s.heap.get? b=some o->H b=none->h₁.get? b=some o)(hf:∀b∈h₁.fs,b≠env.locals->b∈h₀.fs)(R':Ak W h₁ env' names' H' ρ' s'):Ak W h₀ env c.names H' ρ s':=by
 have noneL:H env.locals=none:=by
  cases q:H env.locals with
  | none=>rfl
  | some x=>exact absurd rfl (R.sep _ _ q).2.1
 have noneC:∀x a,env.cells.lookup x=some a->H a=none:=fun x a e=>by
  cases q:H a with
  | none=>rfl
  | some z=>exact absurd e ((R.sep _ _ q).2.2 x)
 have none0:∀b o,h₀.get? b=some o->H b=none:=fun b o e=>by
  cases q:H b with
  | none=>rfl
  | some z=>have:=(R.sep b z q).1;rw[e]at this;cases this
 refine⟨?_,?_,fun b o e=>(let ⟨o1,e1,z1⟩:=R.keep b o e;let ⟨o2,e2,z2⟩:=R'.keep b o1 (hk b o1 e1 (none0 b o e));⟨o2,e2,z1.trans (z2.imp id fun⟨⟨m,n⟩,z⟩=>⟨⟨hf b m (fun q=>by rw[q,Y.new]at e;cases e),n⟩,z⟩)⟩),R'.objs,?_,R'.gens,R'.os,R.above,R'.low⟩
 ·refine Aa fun nY=>?_
  obtain⟨m,⟨o,es,ep,h1,h2⟩,h3⟩:=R.ns
  refine nY ?_;clear nY
  exact⟨m,R'.keep.ns ⟨o,es,ep,hk _ _ h1 noneL,h2⟩,h3⟩
 ·intro x a e
  refine Aa fun nY=>?_
  obtain⟨w,⟨o,ho,hd⟩,hr⟩:=R.cell x a e
  refine nY ?_;clear nY
  exact⟨w,⟨o,R'.keep.exact (hk _ _ ho (noneC x a e)) (.inl fun m=>(by obtain⟨p,hp,hp2⟩:=A4 e;exact Y.fsok a (hf a m (Y.apart x a e)) (hp2▸Y.newc p hp))),hd⟩,hr⟩
 ·intro a o e
  refine Aa fun nY=>?_
  obtain⟨q1,q2,q3⟩:=R'.sep a o e
  refine nY ?_;clear nY
  refine⟨?_,?_,?_⟩
  ·cases q:h₀.get? a with
   | none=>rfl
   | some z=>obtain⟨z',e1,_⟩:=R.keep a z q;have:=hk a z' e1 (none0 a z q);rw[q1]at this;cases this
  ·rintro rfl
   refine Aa fun nY=>?_
   obtain⟨m,⟨o,es,ep,h1,h2⟩,h3⟩:=R.ns
   have:=hk _ _ h1 noneL;rw[q1]at this;cases this
  ·intro x hx
   refine Aa fun nY=>?_
   obtain⟨w,⟨o,ho,hd⟩,hr⟩:=R.cell x a hx
   have:=hk _ _ ho (noneC x a hx);rw[q1]at this;cases this
end Mine.Internal
namespace Mine.Internal
open PySem PySem.W PyProof.Rows
variable {W:Wd} {G:Ap} {n:Nat} {Er:EP}
theorem Ss{params:Arguments}{sc:Scope}{x:Str}{i:Nat}(h:(Bp params sc).idxOf? x=some i)(hi:i<params.args.length):(params.args.map (·.arg)).idxOf? x=some i:=by
 unfold Bp at h
 cases Classical.em (x∈params.args.map (·.arg))with
 | inl q=>rw[(Dy q).1]at h;exact h
 | inr q=>
   rw[Gi q]at h
   obtain⟨j,_,rfl⟩:=Option.map_eq_some_iff.mp h
   simp at hi
   (first|lia|omega)
structure Ht(W:Wd)(H:AH)(s:Shared):Prop where
 base:∀b o,W.b₀.get? b=some o->s.heap.get? b=some o
 objs:∀a o,H a=some o->∃ob,s.heap.get? a=some ob/\OR W o ob
 low:∀a es,H a=some (.dict es)->W.b₀.objs.size<=a
 bn:∀a o,H a=some o->W.b₀.get? a=none
 gens:s.gens = #[]
 os:s.os=W.os
 up:W.b₀.objs.size<=s.heap.objs.size
 lo:sysModules<W.b₀.objs.size
noncomputable def Ab4(W:Wd)(FS:List Addr)(H:AH)(s:Shared)(Q:Ad)(v:Value)(s':Shared):Prop:=
 (Zz fun(a:V) (H':AH) (env':Env) (names':List Str) (ρ':Ao) (h₁:HB)=>Xx (h₁.fs=FS) (VR W a v) (Ak W h₁ env' names' H' ρ' s') (Q a H') (∀b o,s.heap.get? b=some o->H b=none->h₁.get? b=some o))
noncomputable def Ab5(W:Wd)(FS:List Addr)(H:AH)(s:Shared)(E:EP)(v:Value)(s':Shared):Prop:=
 (Ex4 fun(env':Env) (names':List Str) (ρ':Ao) (h₁:HB)=>Go (h₁.fs=FS) (Pc W h₁ env' names' ρ' E (some .none) v s') (∀b o,s.heap.get? b=some o->H b=none->h₁.get? b=some o))
theorem Oz(g:F0 W G)(hc:SC W G n){A:Around}{H:AH}{s:Shared}{Q:Ad}{E:EP}{f:Str}{fa:Addr}{vs:List V}{us:List Value}(hh:Kr f=false->A.handled=none)(hroom:A.depth+4*(n+1)+2<recursionLimit)(hunits:A.units+30*(n+1)+40<cLine)
 (FS:List Addr) (hFS:∀L∈FS,H L=none/\W.b₀.get? L=none/\∃o,s.heap.get? L=some o/\∀vs,o.data≠ .fields vs) (stk:Stk A FS) (B:Ht W H s) (hfa:Ex W f=some fa) (hv:Dc W vs us) (q:Ab G (n+1) f vs H Q E) :
 codeAny W.M A (.call (.ref fa) ⟨us,[]⟩) (fun r s'=>match r with | .ok (.ret v)=>Ab4 W FS H s Q v s' | .ok _=>False | .error e=>Ab5 W FS H s E e s') s:=by
 unfold Ab at q
 split at q
 ·rename_i d hd
  obtain⟨fa',h1,name,qual,params,body,scope,doc,pm,cdv,ct,oc,an,od,osl,F⟩:=g.fn f d hd
  rw[hfa]at h1
  cases h1
  obtain⟨p1,p2,p3,p4,p5,p6,p7⟩:=W5 F.er
  obtain⟨har,q⟩:=q
  have X:W.K.In s.heap:=fun a o e=>B.base a o (g.X a o e)
  have hlen:params.args.length=us.length:=by rw[<-p6,har,hv.length]
  refine codeAny_call_function (fd:=fnOf name qual params body scope .none .none doc pm an cdv ct) (body:=body) (by(first|lia|omega)) (X _ _ F.at_) rfl p4 p3 rfl (codeRec_of X F.code) ?_
  rw[Sh (fd:=fnOf name qual params body scope .none .none doc pm an cdv ct) p1 rfl hlen F.nodup]
  refine wpAny_pure ?_
  refine wpAny_newFunctionEnv_cells p2 (fun x hx=>?_) fun env' he' s₂ I=>?_
  ·have hx':x.1∈params.args.map (·.arg):=(List.of_mem_zip (a:=x.1) (b:=x.2) hx).1
   rcases F.kinds x.1 hx' with h|h
   ·exact .inl h
   ·exact .inr ⟨h,cellsFrom_some _ _ _ (.inl h)⟩
  ·obtain⟨pp,loose,mg,mb,T⟩:=g.top
   obtain⟨h2,tk2,es2⟩:=I.toInCall.same
   have keep2:=I.toInCall.keep
   have hL:env'.locals=s.heap.objs.size:=by rw[he'];rfl
   have hcells:env'.cells=cellsFrom (s.heap.objs.size+1) scope.names []:=by rw[he'];rfl
   have hkindOf:∀x,env'.kindOf x=scope.names.lookup x:=fun x=>by rw[he'];rfl
   have hkeysnd:(env'.cells.map (·.1)).Nodup:=by
    rw[hcells,cellsFrom_names scope.names (s.heap.objs.size+1) 0 [] [] rfl];exact F.cells
   refine⟨T.nolimit.keeps fun b o e=>keep2 b o (B.base b o e),codeAny_func ?_⟩
   have hlow:∀b o,s.heap.get? b=some o->b≠env'.locals/\∀p∈env'.cells,p.2≠b:=fun b o e=>by
    have hlt:=Heap.lt_size e
    refine⟨by rw[hL];exact Nat.ne_of_lt hlt,fun p hp q=>?_⟩
    have:=I.above p.1 p.2 hp
    rw[hL,q]at this
    exact Nat.lt_asymm this hlt
   have hprot:∀b o,s.heap.get? b=some o->H b=none->(Mine.Internal.prot env' FS H s₂.heap).get? b=some o:=fun b o e hb=>Cf (keep2 b o e) hb (hlow b o e).1 (hlow b o e).2
   have Y':Ac W env' ⟨Bp params scope,scope,Kr f,false⟩ (Mine.Internal.prot env' FS H s₂.heap):=by
    refine⟨by rw[he'];exact p2,by rw[he'];rfl,by rw[he'];rfl,fun x k e _=>(hkindOf x).trans e,fun x e=>absurd rfl (F.nofree _ (A2 e)),?_,?_,?_,?_,Cq (.inr (.inl rfl)),(fun L m q=>by obtain⟨z,_,o,e,_⟩:=hFS L m;rw[hprot L o e z]at q;cases q),(fun L m=>by obtain⟨z,z2,o,e,z3⟩:=hFS L m;refine⟨z2,fun o' e'=>?_⟩;have e2:=Fc e';rw[keep2 L o e]at e2;cases e2;exact z3),fun p hp=>Cq (.inr (.inr ⟨p,hp,rfl⟩)),K8 hkeysnd,B.lo⟩
    ·intro x e
     rw[hkindOf]at e
     rcases e with e|e
     ·have:=cellsFrom_some (x:=x) scope.names (s.heap.objs.size+1) [] (.inl e)
      rw[<-hcells]at this
      exact Option.isSome_iff_exists.mp this
     ·exact absurd rfl (F.nofree _ (A2 e))
    ·intro x a e q
     have:=I.above x a (A2 e)
     rw[q]at this
     exact Nat.lt_irrefl _ this
    ·intro x y a e1 e2
     have:=Pr I.apart (A2 e1) (A2 e2) rfl
     exact congrArg Prod.fst this
    ·intro b o e
     refine hprot b o (B.base b o e) ?_
     cases q:H b with
     | none=>rfl
     | some z=>have:=B.bn b z q;rw[e]at this;cases this
   have R':Ak W (Mine.Internal.prot env' FS H s₂.heap) env' (Bp params scope) H (vs.map some++List.replicate (d.slots-d.arity) none) s₂:=by
    have key:∀x i v,(Bp params scope).idxOf? x=some i->(vs.map some++List.replicate (d.slots-d.arity) none)[i]? = some (some v)->(Li fun u=>Go ((params.args.map (·.arg)).idxOf? x=some i) (us[i]? = some u) (VR W v u)):=by
     intro x i v e1 e2
     have hi:i<vs.length:=by
      cases Nat.lt_or_ge i vs.length with
      | inl h=>exact h
      | inr h=>
        rw[List.getElem?_append_right (by simpa using h)]at e2
        obtain⟨_,z⟩:=List.getElem?_eq_some_iff.mp e2
        simp at z
     rw[List.getElem?_append_left (by simpa using hi),List.getElem?_map]at e2
     obtain⟨v',h1,h2⟩:=Option.map_eq_some_iff.mp e2
     cases h2
     obtain⟨u,h3,h4⟩:=hv.get i h1
     exact⟨u,Ss e1 (by(first|lia|omega)),h3,h4⟩
    refine⟨⟨_,I.toInCall.ns,?_⟩,?_,.of fun _ _ e=>Fc e,?_,?_,?_,?_,by rw[hL];exact B.up,B.low⟩
    ·intro x i v e1 e2 e3
     obtain⟨u,h1,h2,h3⟩:=key x i v e1 e3
     exact⟨u,Uu F.nodup e2 i h1 h2,h3⟩
    ·intro x a e
     refine⟨_,I.cell x a e,fun i v e1 e2 e3=>?_⟩
     obtain⟨u,h1,h2,h3⟩:=key x i v e1 e3
     exact⟨u,Uv F.nodup (by rcases e2 with e2|e2<;>rw[e2]<;>simp) i h1 h2,h3⟩
    ·intro a o e
     obtain⟨ob,g1,g2⟩:=B.objs a o e
     exact⟨ob,keep2 _ _ g1,g2⟩
    ·intro a o e
     obtain⟨ob,g1,g2⟩:=B.objs a o e
     exact⟨Cq (.inl ⟨o,e⟩),(hlow a ob g1).1,fun x q=>by obtain⟨p,hp,hp2⟩:=A4 q;exact(hlow a ob g1).2 p hp hp2⟩
    ·rw[es2];exact B.gens
    ·rw[es2];exact B.os
   have hframe:env'.frame=some env'.locals:=by rw[he'];rfl
   have hkind:env'.scope.kind≠ .module:=by rw[he'];show scope.kind≠_;rw[p2];nofun
   have ok':Ky (A.deeper env') ⟨Bp params scope,scope,Kr f,false⟩ (Mine.Internal.prot env' FS H s₂.heap) env' n:=by
    obtain⟨l,hl,hl2⟩:=stk
    refine⟨hh,by show A.depth+1+4*n+4<_;(first|lia|omega),by show A.units+3+30*n+60<_;(first|lia|omega),⟨env'::l,Around.frames_deeper hl,fun x m=>?_⟩,fun _=>⟨l,Around.frames_deeper hl,hframe⟩⟩
    rcases List.mem_cons.mp m with rfl|m
    ·exact⟨hkind,_,hframe,.head _⟩
    ·obtain⟨a,L,b,d⟩:=hl2 x m
     exact⟨a,L,b,.tail _ d⟩
   have hb:Gu W G n ⟨Bp params scope,scope,Kr f,false⟩ body d.body:=Cc (fun s x h=>Tt g hc 40 _ s x h) p7
   refine wpAny_mono (hb ok' Y' R' q) (fun fl s' r=>?_) fun v s' x=>?_
   rotate_left
   ·obtain⟨ρ',_,x⟩:=x
    obtain⟨outer,t1,t2,t3⟩:=ok'.tops rfl
    unfold leaving
    exact wpAny_bind (F1 t1 t2 t3 Y' x fun s2 _ y=>F2 Y' y fun s3 z=>⟨env',_,ρ',_,rfl,z,hprot⟩)
   cases fl with
   | next=>
     obtain⟨ρ',H',R3,q3⟩:=r
     exact⟨.none,H',env',_,ρ',_,rfl,.none,R3,q3,hprot⟩
   | ret v=>
     obtain⟨a,H',ρ',hv',R3,q3⟩:=r
     exact⟨a,H',env',_,ρ',_,rfl,hv',R3,q3,hprot⟩
   | brk=>exact r.elim
   | cont=>exact r.elim
 ·exact q.elim
theorem Ak.frames{env:Env}{c:Cx}{h₀:HB}{names:List Str}{H:AH}{ρ:Ao}{s:Shared}(R:Ak W h₀ env names H ρ s)(Y:Ac W env c h₀):∀L∈env.locals::h₀.fs,H L=none/\W.b₀.get? L=none/\∃o,s.heap.get? L=some o/\∀vs,o.data≠ .fields vs:=fun L m=>by
 rcases List.mem_cons.mp m with rfl|m
 ·refine⟨?_,Qf R.above,?_⟩
  ·cases q:H env.locals with
   | none=>rfl
   | some x=>exact absurd rfl (R.sep _ _ q).2.1
  ·obtain⟨_,⟨o,_,_,h,h2,_⟩,_⟩:=R.ns
   exact⟨o,h,fun vs q=>by rw[h2]at q;cases q⟩
 ·refine⟨?_,(Y.fsd L m).1,R.fsd Y m⟩
  cases z:H L with
  | none=>rfl
  | some x=>exact absurd (R.sep L x z).1 (Y.fsok L m)
theorem Eb.back{h₀ h₁:HB}{env env':Env}{c:Cx}{H H':AH}{ρ:Ao}{s:Shared}{T:Addr}(Y:Ac W env c h₀)(R:Ak W h₀ env c.names H ρ s)(hk:∀b o,s.heap.get? b=some o->H b=none->h₁.get? b=some o)(x:Eb h₁ env' H' [T]):Eb h₀ env H' [T]:=fun b hb=>by
 obtain⟨x1,x2,_,_⟩:=x b hb
 refine⟨x1,?_,?_,?_⟩
 ·cases q:h₀.get? b with
  | none=>rfl
  | some o=>
    obtain⟨o',e1,_⟩:=R.keep b o q
    have:H b=none:=by
     cases z:H b with
     | none=>rfl
     | some y=>have:=(R.sep b y z).1;rw[q]at this;cases this
    rw[hk b o' e1 this]at x2;cases x2
 ·rintro rfl
  obtain⟨z,_,o,e,_⟩:=R.frames Y _ (.head _)
  rw[hk _ o e z]at x2;cases x2
 ·rintro p hp rfl
  obtain⟨w,⟨o,ho,_⟩,_⟩:=R.cell p.1 p.2 (Y.look p hp)
  have:H p.2=none:=by
   cases z:H p.2 with
   | none=>rfl
   | some y=>exact absurd (Y.look p hp) ((R.sep _ _ z).2.2 p.1)
  rw[hk _ o ho this]at x2;cases x2
theorem Su(g:F0 W G)(hc:SC W G n):SC W G (n+1):=by
 intro A env c h₀ H ρ s Q E f fa vs us hh hroom hunits stk Y R hfa hv q
 refine codeAny_mono (Oz (E:=E) g hc hh hroom hunits (env.locals::h₀.fs) (R.frames Y) stk ⟨R.keepB Y,R.objs,R.low,(fun a o e=>by cases z:W.b₀.get? a with|none=>rfl|some y=>have:=(R.sep a o e).1;rw[Y.base a y z]at this;cases this),R.gens,R.os,R.up,Y.lo⟩ hfa hv q) fun r s' z=>?_
 have hff:∀ {h₁:HB},h₁.fs=env.locals::h₀.fs->∀b∈h₁.fs,b≠env.locals->b∈h₀.fs:=fun hfs b m hb=>by rw[hfs]at m;exact(List.mem_cons.mp m).resolve_left hb
 rcases r with e|(v|_|_|_)<;>first|exact z.elim|skip
 ·obtain⟨env',names',ρ',h₁,hfs,⟨ea,H',cc,hv,R3,he,⟨oe,vs,a0,t1,t2,t3,T,oT,ts,g1,g2,g3,g4,g5,g6⟩,q3⟩,hp⟩:=z
  exact⟨some .none,ea,H',cc,hv,R.back Y hp (hff hfs) R3,he,⟨oe,vs,a0,t1,t2,t3,T,oT,ts,g1,g2,g3,g4,g5,Eb.back Y R hp g6⟩,q3⟩
 obtain⟨a,H',env',names',ρ',h₁,hfs,hv',R3,q3,hp⟩:=z
 exact⟨a,H',hv',R.back Y hp (hff hfs) R3,q3⟩
theorem Yz(g:F0 W G):∀n,SC W G n:=by
 intro n
 induction n with
 | zero=>
   intro A env c h₀ H ρ s Q E f fa vs us hh hroom hunits stk Y R hfa hv q
   exact False.elim q
 | succ n ih=>exact Su g ih
theorem Y0(g:F0 W G){A:Around}{s:Shared}{Q:Ad}{E:Value->Shared->Prop}{f:Str}{fa:Addr}(hh:A.handled=none)(hfr:A.frames=some [])(hroom:A.depth+4*(n+1)+2<recursionLimit)(hunits:A.units+30*(n+1)+40<cLine)
 (hb:s.heap=W.b₀) (hg:s.gens = #[]) (ho:s.os=W.os) (lo:sysModules<W.b₀.objs.size) (hfa:Ex W f=some fa) (q:Ab G (n+1) f [.script W.sn] (fun _=>none) Q EF) :
 codeAny W.M A (.call (.ref fa) ⟨[.ref W.sa],[]⟩) (fun r s'=>match r with
  | .ok (.ret v)=>((Gx fun a H'=>VR W a v/\Q a H'))/\(∀b o,s.heap.get? b=some o->s'.heap.get? b=some o)/\s'.os=s.os/\s'.gens = #[]
  | .ok _=>False | .error e=>E e s') s:=by
 refine codeAny_mono (Oz (E:=EF) (H:=fun _=>none) (vs:=[.script W.sn]) (us:=[.ref W.sa]) g (Yz g n) (fun _=>hh) hroom hunits [] (fun _ m=>nomatch m) ⟨[],hfr,fun _ m=>absurd m List.not_mem_nil⟩ ⟨fun b o e=>hb▸e,(fun _ _ e=>nomatch e),(fun _ _ e=>nomatch e),(fun _ _ e=>nomatch e),hg,ho,(by rw[hb];exact Nat.le_refl _),lo⟩ hfa (.cons .script .nil) q) fun r s' z=>?_
 refine Aa fun nY=>?_
 rcases r with e|(v|_|_|_)<;>first|exact z.elim|skip
 ·obtain⟨_,_,_,_,_,⟨_,_,_,_,_,_,_,f⟩,_⟩:=z
  exact f.elim
 obtain⟨a,H',env',names',ρ',h₁,hfs,hv',R3,q3,hp⟩:=z
 refine nY ?_;clear nY
 exact⟨⟨a,H',hv',q3⟩,fun b o e=>R3.keep.exact (hp b o e rfl) (.inr (by rw[<-hb,e];nofun)),R3.os.trans ho.symm,R3.gens⟩
end Mine.Internal
namespace Mine.Internal
open PySem PySem.W PyProof.Rows
/-! the ground of a program,by a check -/
noncomputable def Tu:Cp->Str
 | .web=> "Web"
 | .verdict=> "Verdict"
 | c=>Ku c
noncomputable def Gv(K:Frag)(cc:Cp):Addr:=match nsIn K mainGlobals (Tu cc)with
 | some (some (.ref a))=>a
 | _=>(match nsIn K mainGlobals "Web" with|some (some (.ref a))=>a|_=>0)
noncomputable def Aaq(K:Frag)(hb:Bool)(fa:Addr):Option Fn:=match K.lookup fa with
 | some ⟨.type "function",_,.func fd,_⟩=>(match fd.body with
   | .stmts body=>if codeIn K fd.code fd.qualname&&decide ((fd.params.args.map (·.arg)).Nodup)&&(fd.params.args.map (·.arg)).all (fun x=>fd.scope.names.lookup x==some .local||fd.scope.names.lookup x==some .cell)
      && decide (((cellsFrom 0 fd.scope.names []).map (·.1)).Nodup)&&decide ((Bp fd.params fd.scope).Nodup)&&fd.scope.names.all (fun p=>p.2 != .free)&&fd.globals==mainGlobals&&fd.closure.isEmpty
      && fd.defaults == .none&&fd.kwdefaults == .none&&fd.builtins==builtinsNs then X8 hb fd.params body fd.scope else none
   | _=>none)
 | _=>none
noncomputable def K9(K:Frag)(cl:Cp->Addr)(f:Str):Option Addr:=
 match Ef f with
 | some (cc,m)=>if nsIn K mainGlobals (Tu cc)==some (some (.ref (cl cc)))&&makesIn K (cl cc)then(match findIn K (.ref (cl cc)) m with|some (some (.ref a))=>some a|_=>none)else none
 | none=>(match nsIn K mainGlobals (Hi f)with|some (some (.ref a))=>some a|_=>none)
noncomputable def gFn(K:Frag)(cl:Cp->Addr)(f:Str):Option Fn:=(K9 K cl f).bind (Aaq K (Kr f))
noncomputable def Sv(K:Frag)(x:Str):Option V:=match nsIn K mainGlobals x with
 | some (some (.int i _))=>some (.int i)
 | some (some (.str s _))=>some (.str s.cps.toList)
 | _=>none
noncomputable def W6(K:Frag)(cc:Cp):Bool:=nsIn K mainGlobals (Ku cc)==some (some (.ref (Gv K cc)))&&excIn K (Gv K cc) VE "ValueError.__new__" && Kw K (M2 K (Gv K cc))
noncomputable def N7(K:Frag):Ap:=⟨gFn K (Gv K),Sv K,W6 K⟩
noncomputable def Sw:List Cp:=[.web,.verdict,.webError,.badWeb,.noPoint,.badText,.badOrder,.hasGap]
noncomputable def W7(K:Frag):Bool:=Sw.all fun a=> !W6 K a||Sw.all fun b=> !W6 K b||(M2 K (Gv K a)).contains (.ref (Gv K b))==(a==b||b == .webError)
theorem Y1{W:Wd}{hb:Bool}{fa:Addr}{d:Fn}(h:Aaq W.K hb fa=some d):∃name qual params body scope doc pm cdv ct oc an od osl,Yg W hb fa d name qual params body scope doc pm cdv ct oc an od osl:=by
 delta Aaq at h
 refine Aa fun nY=>?_
 split at h
 ·rename_i od fd osl e
  split at h
  ·rename_i body hb
   split at h
   ·rename_i q
    simp only[Bool.and_eq_true,decide_eq_true_eq,List.all_eq_true,Bool.or_eq_true,beq_iff_eq,bne_iff_ne,List.isEmpty_iff]at q
    obtain⟨⟨⟨⟨⟨⟨⟨⟨⟨⟨q1,q2⟩,q3⟩,q4⟩,q5⟩,q6⟩,q7⟩,q8⟩,q9⟩,q10⟩,q11⟩:=q
    obtain⟨f1,f2,f3,f4,f5,f6,f7,f8,f9,f10,f11,f12,f13,f14,f15⟩:=fd
    simp only at hb q1 q2 q3 q4 q5 q6 q7 q8 q9 q10 q11 h
    subst hb q7 q8 q9 q10 q11
    refine nY ?_;clear nY
    exact⟨f1,f2,f3,body,f5,_,_,_,_,_,_,_,_,⟨e,rfl,q1,h,q2,q3,q4,q5,q6⟩⟩
   ·cases h
  ·cases h
 ·cases h
theorem Q7{W:Wd}(hcl:W.cl=Gv W.K){f:Str}{fa:Addr}(h:K9 W.K (Gv W.K) f=some fa):Ex W f=some fa:=by
 delta K9 at h
 delta Ex
 rw[hcl]
 split at h
 ·rename_i cc m e
  try rw[e]
  split at h
  ·exact h
  ·cases h
 ·rename_i e
  try rw[e]
  exact h
noncomputable def La(K:Frag):Bool:=
 Ph K (Gv K .web)&&Ph K (Gv K .verdict)&&H9.all (fun x=>nsIn K mainGlobals x==some none)&&W7 K
theorem Aar{W:Wd}(hcl:W.cl=Gv W.K)(hX:W.K.In W.b₀)(hT:(Ex4 fun p loose mg mb=>TopRead p loose mg mb W.b₀))(hg:La W.K=true):F0 W (N7 W.K):=by
 unfold La at hg
 simp only[Bool.and_eq_true,List.all_eq_true,beq_iff_eq]at hg
 refine Aa fun nY=>?_
 obtain⟨⟨⟨h1,h2⟩,h3⟩,h4⟩:=hg
 have exq:∀cc,W6 W.K cc=true↔Kx W cc:=fun cc=>by
  unfold W6
  rw[Bool.and_eq_true,Bool.and_eq_true,beq_iff_eq,<-hcl]
  exact⟨fun h=>⟨h.1.1,h.1.2,h.2⟩,fun h=>⟨⟨h.1,h.2⟩,h.3⟩⟩
 refine nY ?_;clear nY
 have mem:∀cc:Cp,cc∈Sw:=fun cc=>by cases cc<;>decide
 refine⟨hX,hT,?_,h3,?_,?_,?_,fun cc h=>(exq cc).mp h,fun cc cc' x y=>?_,?_⟩
 rotate_left 4
 ·unfold W7 at h4
  have z1:=List.all_eq_true.mp h4 cc (mem cc)
  rw[(exq cc).mpr x]at z1
  have z2:=List.all_eq_true.mp z1 cc' (mem cc')
  rw[(exq cc').mpr y]at z2
  rw[hcl]
  simpa using z2
 rotate_right 4
 ·rintro cc (rfl|rfl)
  ·rw[hcl];exact Lp h1
  ·rw[hcl];exact Lp h2
 ·intro x v e
  have e':Sv W.K x=some v:=e
  delta Sv at e'
  refine Aa fun nY=>?_
  split at e'
  ·refine nY ?_;clear nY
   rename_i i t q;cases e';exact⟨_,q,.int _ _⟩
  ·refine nY ?_;clear nY
   rename_i i t q;cases e';exact⟨_,q,R7 i t⟩
  ·cases e'
 ·intro f d e
  have e':gFn W.K (Gv W.K) f=some d:=e
  unfold gFn at e'
  refine Aa fun nY=>?_
  obtain⟨fa,h4,h5⟩:=Option.bind_eq_some_iff.mp e'
  refine nY ?_;clear nY
  exact⟨fa,Q7 hcl h4,Y1 h5⟩
 ·intro cc hcc hs
  have hs':(gFn W.K (Gv W.K) (G0 cc)).isSome=true:=hs
  refine Aa fun nY=>?_
  obtain⟨d,hd⟩:=Option.isSome_iff_exists.mp hs'
  unfold gFn at hd
  obtain⟨fa,h4,h5⟩:=Option.bind_eq_some_iff.mp hd
  delta K9 at h4
  rw[Tk hcc]at h4
  simp only at h4
  split at h4
  ·rename_i q
   simp only[Bool.and_eq_true,beq_iff_eq]at q
   refine nY ?_;clear nY
   rw[hcl]
   refine Aa fun nY=>?_
   rcases hcc with rfl|rfl
   ·refine nY ?_;clear nY
    exact⟨q.1,q.2⟩
   ·refine nY ?_;clear nY
    exact⟨q.1,q.2⟩
  ·cases h4
 ·intro f m fa ho hfa
  refine⟨?_,?_⟩
  ·have:=(Lp h1).get .many
   rw[hcl]
   exact this
  ·intro a q
   have:m∈(["__init__","need","beside","tied","ties"]:List Str):=by
    delta Ef at ho
    repeat' split at ho
    all_goals first
     | (cases ho;decide)
     | (cases ho;done)
   subst q
   cases a<;>revert this<;>decide
theorem Uw{K:Frag}{cl:Cp->Addr}{f:Str}(ho:Ef f=none)(hb:Kr f=false)(h:(K9 K cl f).isSome=true):∃a,K9 K cl f=some a/\nsIn K mainGlobals f=some (some (.ref a)):=by
 obtain⟨a,ha⟩:=Option.isSome_iff_exists.mp h
 refine⟨a,ha,?_⟩
 delta K9 at ha
 rw[ho]at ha
 simp only[Oe hb]at ha
 split at ha
 ·rename_i e;cases ha;exact e
 ·cases ha
theorem Y2{prog:Program}{w:World}{K:Frag}{s₁:Shared}{p:Program}{loose:List Str}{mg mb:Str->Option Value}{fa L:Addr}{items:List Value}{nsL:List Int}{c:ClaimW}{cl:Str->Option Addr}{mean:ExcName->Option Value}{args:List WData}
 (KX:K.In s₁.heap) (T:TopRead p loose mg mb s₁.heap) (hgr:La K=true) (hf:(K9 K (Gv K) "law").isSome=true) (hmg:mg "law" = some (.ref fa)) (hg:s₁.gens = #[])
 (hL:s₁.heap.IsList L items.toArray) (hI:IntsAre items nsL) (hn:nsL.length<=63) (main:Ab (N7 K) 40 "law" [.script nsL] (fun _=>none) (fun v _=>v = .bool true) EF)
 (hr:∀cls,c.raises args cls=false) (hp:c.post args (.bool true) args=true) :
 wpAny (model prog w) callerA (call (.ref fa) [.ref L]) (fun v s'=>GoodWG c cl mean args s₁ (.ok (.ret v)) s') (fun e s'=>GoodWG c cl mean args s₁ (.error e) s') s₁:=by
 have hlen:items.length<=B6:=by
  have:=(Hl (W:=⟨prog,w,K,Gv K,s₁.heap,s₁.os,L,nsL,⟨items,hL,hI,by
   have:∀ {vs:List Value} {ns:List Int},IntsAre vs ns->vs.length=ns.length:=by
    intro vs ns h;induction h with
    | nil=>rfl
    | cons _ _ _ ih=>simp[ih]
   rw[this hI];simp only[B6];(first|lia|omega)⟩⟩) hI).length
  simp only[List.length_map]at this
  rw[<-this];simp only[B6];(first|lia|omega)
 let W:Wd:=⟨prog,w,K,Gv K,s₁.heap,s₁.os,L,nsL,⟨items,hL,hI,hlen⟩⟩
 refine Aa fun nY=>?_
 obtain⟨a,h1,h2⟩:=Uw (K:=K) (cl:=Gv K) (f:= "law") (by decide) (by decide) hf
 have h3:=mg_of KX T.g h2
 rw[hmg]at h3
 cases h3
 have gd:F0 W (N7 K):=Aar (W:=W) rfl KX ⟨p,loose,mg,mb,T⟩ hgr
 refine nY ?_;clear nY
 refine wpAny_call (codeAny_mono (Y0 (W:=W) (G:=N7 K) (n:=39) (E:=fun _ _=>False) (f:= "law") gd rfl rfl (by decide) (by decide) rfl hg rfl (modules_low T.nolimit) (Q7 (W:=W) rfl h1) main) fun r s' z=>?_)
 refine Aa fun nY=>?_
 rcases r with e|(v|_|_|_)<;>first|exact z.elim|skip
 obtain⟨⟨av,H',hv,q⟩,hk,ho,hgn⟩:=z
 subst q
 cases hv
 refine nY ?_;clear nY
 exact GoodW.toG ⟨.inl ⟨.bool true,.bool true,[],rfl,hr,.bool true,hp,fun _=>⟨List.nodup_nil,fun _ h=>by cases h⟩⟩,hk,ho,hgn⟩
end Mine.Internal
namespace Mine.Internal.Cl
open PySem
set_option linter.all false
variable {G:Ap} {n:Nat} {H:AH} {Q:Ad} {E:EP} {C:CS} {ρ:Ao} {N:Ao->AH->Prop} {R:Ad}
theorem Be{b:Bool}{Q:Bool->Prop}:truthy (.bool b) Q=Q b:=rfl
theorem Cu{i j:Int}:Bz .Lt (.int i) (.int j) H Q=Q (.bool (decide (i<j))) H:=rfl
theorem Cz{i j:Int}:Bz .LtE (.int i) (.int j) H Q=Q (.bool (decide (i<=j))) H:=rfl
theorem Cv{i j:Int}:Bz .Gt (.int i) (.int j) H Q=Q (.bool (decide (j<i))) H:=rfl
theorem Dl{i j:Int}:Bz .GtE (.int i) (.int j) H Q=Q (.bool (decide (j<=i))) H:=rfl
theorem Ck{i j:Int}:Bz .Eq (.int i) (.int j) H Q=Q (.bool (decide (i=j))) H:=rfl
theorem C0{i j:Int}:Bz .NotEq (.int i) (.int j) H Q=Q (.bool (!decide (i=j))) H:=rfl
theorem Dz{i j:Bool}:Bz .Eq (.bool i) (.bool j) H Q=Q (.bool (i==j)) H:=rfl
theorem Dm{i j:Bool}:Bz .NotEq (.bool i) (.bool j) H Q=Q (.bool (!(i==j))) H:=rfl
theorem Dr:Bz .Is .none .none H Q=Q (.bool true) H:=rfl
theorem Ds{a}:Bz .Is (.ref a) .none H Q=Q (.bool false) H:=rfl
theorem D0:Bz .IsNot .none .none H Q=Q (.bool false) H:=rfl
theorem D1{a}:Bz .IsNot (.ref a) .none H Q=Q (.bool true) H:=rfl
theorem J8{i j:Int}:Fp .Add (.int i) (.int j) H Q=Q (.int (i+j)) H:=rfl
theorem J9{i j:Int}:Fp .Sub (.int i) (.int j) H Q=Q (.int (i-j)) H:=rfl
theorem Zv{i j:Int}:Fp .Mult (.int i) (.int j) H Q=((i.natAbs<2 ^ 64\/j.natAbs<2 ^ 64)/\Q (.int (i*j)) H):=rfl
theorem J6{i j:Int}(h:0<j)(h':j<=10 ^ 30):Fp .Mod (.int i) (.int j) H Q=Q (.int (i%j)) H:=by
 show ((j≠0/\j.natAbs<=10 ^ 30)/\Q (.int (i.fmod j)) H)=_
 rw[Int.fmod_eq_emod_of_nonneg _ (by(first|lia|omega))]
 exact propext ⟨fun h=>h.2,fun q=>⟨⟨by(first|lia|omega),by(first|lia|omega)⟩,q⟩⟩
theorem J7{i j:Int}(h:0<j)(h':j<=10 ^ 30):Fp .FloorDiv (.int i) (.int j) H Q=Q (.int (i/j)) H:=by
 show ((j≠0/\j.natAbs<=10 ^ 30)/\Q (.int (i.fdiv j)) H)=_
 rw[Int.fdiv_eq_ediv_of_nonneg _ (by(first|lia|omega))]
 exact propext ⟨fun h=>h.2,fun q=>⟨⟨by(first|lia|omega),by(first|lia|omega)⟩,q⟩⟩
theorem Dt{ns:List Int}:D7 .len [.script ns] H Q=Q (.int ns.length) H:=rfl
theorem Dn{i j:Int}:D7 .max [.int i,.int j] H Q=Q (.int (max i j)) H:=rfl
theorem Du{i j:Int}:D7 .min [.int i,.int j] H Q=Q (.int (min i j)) H:=rfl
theorem J4:D8 1 = .one 0:=rfl
theorem J5:D8 2 = .two 0 1:=rfl
theorem Dv{i:Int}(h0: -1048576<=i)(h1:i<=1048576):D7 .listRange [.int i] H Q=A5 (.list ((List.range i.toNat).map fun(i:Nat)=>V.int i)) H Q:=
 propext ⟨fun h=>h.2,fun h=>⟨⟨h0,h1⟩,h⟩⟩
theorem Dp{i j:Int}(h0:0<=i)(h1:i<=1048576)(h2: -1048576<=j)(h3:j<=1048576):D7 .listRange [.int i,.int j] H Q=A5 (.list ((List.range (j-i).toNat).map fun(k:Nat)=>V.int (i+k))) H Q:=
 propext ⟨fun h=>h.2,fun h=>⟨⟨h0,h1,h2,h3⟩,h⟩⟩
theorem Cm{i:Int}{K:List It->(AH->Prop)->AH->Prop}(h0: -1048576<=i)(h1:i<=1048576):Kj [.int i] H K=K ((List.range i.toNat).map fun(i:Nat)=> .v (.int i)) (fun _=>True) H:=
 propext ⟨fun h=>h.2,fun h=>⟨⟨h0,h1⟩,h⟩⟩
theorem D2{i j:Int}{K:List It->(AH->Prop)->AH->Prop}(h0:0<=i)(h1:i<=1048576)(h2: -1048576<=j)(h3:j<=1048576):Kj [.int i,.int j] H K=K ((List.range (j-i).toNat).map fun(k:Nat)=> .v (.int (i+k))) (fun _=>True) H:=
 propext ⟨fun h=>h.2,fun h=>⟨⟨h0,h1,h2,h3⟩,h⟩⟩
theorem Fl{a:Nat}{xs:List V}(h:H a=some (.list xs)):D7 .len [.ref a] H Q=Q (.int xs.length) H:=by delta D7;dsimp only;(first|delta Mr|delta Ix|delta Iy);(try dsimp only[Bl,A0,on0,Rr,X0]);rw[h];(try dsimp only[Ob,onD])
theorem Aas{a:Nat}{xs:List V}(h:H a=some (.tuple xs)):D7 .len [.ref a] H Q=Q (.int xs.length) H:=by delta D7;dsimp only;(first|delta Mr|delta Ix|delta Iy);(try dsimp only[Bl,A0,on0,Rr,X0]);rw[h];(try dsimp only[Ob,onD])
theorem A1{a:Nat}{xs:List V}{k:Int}{x:V}(h:H a=some (.list xs))(h0:0<=k)(hx:xs[k.toNat]? = some x):Cj (.ref a) (.int k) H Q=Q x H:=by
 have hlt:=(List.getElem?_eq_some_iff.mp hx).1
 have:Ci k xs.length=some k.toNat:=by delta Ci;rw[if_pos h0,if_pos (by(first|lia|omega))]
 delta Cj;(try dsimp only[A0]);rw[h];(try dsimp only);rw[this];(try dsimp only[Ff]);rw[hx]
theorem Fm{a:Nat}{xs:List V}{k:Int}{x:V}(h:H a=some (.tuple xs))(h0:0<=k)(hx:xs[k.toNat]? = some x):Cj (.ref a) (.int k) H Q=Q x H:=by
 have hlt:=(List.getElem?_eq_some_iff.mp hx).1
 have:Ci k xs.length=some k.toNat:=by delta Ci;rw[if_pos h0,if_pos (by(first|lia|omega))]
 delta Cj;(try dsimp only[A0]);rw[h];(try dsimp only);rw[this];(try dsimp only[Ff]);rw[hx]
theorem Df{a:Nat}{xs:List V}{v:V}(h:H a=some (.list xs))(hl:xs.length<1048576):Ru .append (.ref a) [v] H Q=Q .none (upd H a (.list (xs ++ [v]))):=by
 delta Ru;dsimp only;(first|delta O6);(try dsimp only[Bl,A0,on0,Rr,X0]);rw[h];(try dsimp only[Ob,onD]);exact propext ⟨fun h=>h.2,fun q=>⟨hl,q⟩⟩
theorem Ej{a:Nat}{xs:List V}{m:LM}(h:H a=some (.list xs))(hm:m≠ .setdefault/\m≠ .split/\m≠ .join):Gz m (.ref a) H=True:=by
 cases m<;>first|exact absurd rfl hm.1|exact absurd rfl hm.2.1|exact absurd rfl hm.2.2|(delta Gz;dsimp only[Bl];rw[h];exact propext ⟨fun _=>trivial,fun _=>trivial⟩)
theorem C1{a:Nat}{xs:List V}{K:List It->(AH->Prop)->AH->Prop}(h:H a=some (.list xs)):Ki (.ref a) H K=K (xs.map .v) (fun H'=>H' a=some (.list xs)) H:=by delta Ki;(try dsimp only[Bl]);rw[h]
theorem Aat{a:Nat}{xs:List V}{K:List It->(AH->Prop)->AH->Prop}(h:H a=some (.tuple xs)):Ki (.ref a) H K=K (xs.map .v) (fun H'=>H' a=some (.tuple xs)) H:=by delta Ki;(try dsimp only[Bl]);rw[h]
theorem Ag{α:Type}{a:α}{l:List α}:(a::l)[0]? = some a:=rfl
theorem Aj{α:Type}{a:α}{l:List α}{i:Nat}:(a::l)[i+1]? = l[i]?:=rfl
theorem Br{α:Type}{a:α}{l m:List α}:(a::l)++m=a::(l++m):=rfl
theorem Bs{α:Type}{l:List α}:[]++l=l:=rfl
theorem Ba{α:Type}{a b:α}{l:List α}{i:Nat}:(a::l).set (i+1) b=a::l.set i b:=rfl
theorem Bb{α:Type}{a b:α}{l:List α}:(a::l).set 0 b=b::l:=rfl
theorem Bf{α:Type}{a:α}:(some a).isSome=true:=rfl
theorem Al{f:Str}{d:Fn}{args:List V}(h:G.fn f=some d)(ha:d.arity=args.length)
 (q:Bt G (Ab G n) d.body (args.map some++List.replicate (d.slots-d.arity) none) H (fun _ H=>Q .none H) Q E):Ab G (n+1) f args H Q E:=by
 show (match G.fn f with|some d=>_|none=>False)
 rw[h]
 exact⟨ha,q⟩
theorem A3{t:X}{a b:List S}(c:Bool)(h:∀Q':Ad,Q' (.bool c) H->Ay G C t ρ H Q' E)(q:if c then Bt G C a ρ H N R E else Bt G C b ρ H N R E):Ny G C (.ite t a b) ρ H N R E:=by
 rw[Ja]
 exact h _ q
set_option linter.all false
variable {G:Ap} {n:Nat} {H H':AH} {Q:Ad} {E:EP} {C:CS} {ρ:Ao}
noncomputable def Av(H H':AH):Prop:=∀a o,H a=some o->H' a=some o
theorem Av.refl:Av H H:=fun _ _ e=>e
theorem Av.trans{H'':AH}(h:Av H H')(h':Av H' H''):Av H H'':=fun a o e=>h' a o (h a o e)
theorem Ae{a:Nat}{o:O}:upd H a o a=some o:=by simp[upd]
theorem upd_ne{a b:Nat}{o:O}(h:b≠a):upd H a o b=H b:=if_neg h
theorem Av.upd{a:Nat}{o:O}(h:H a=none):Av H (upd H a o):=fun b o' e=>by
 rw[upd_ne];exact e
 rintro rfl;rw[h]at e;cases e
theorem Av.isNone(h:Av H H'){a:Nat}(e:H' a=none):H a=none:=by
 cases q:H a with
 | none=>rfl
 | some o=>rw[h a o q]at e;cases e
theorem Av.upd'{a:Nat}{o:O}(h:Av H H')(e:H a=none):Av H (Mine.Internal.upd H' a o):=fun b o' q=>by
 rw[upd_ne];exact h b o' q
 rintro rfl;rw[e]at q;cases q
noncomputable def LI(H:AH)(a:Nat)(l:List Int):Prop:=H a=some (.list (l.map V.int))
theorem LI.ext{a:Nat}{l:List Int}(h:LI H a l)(e:Av H H'):LI H' a l:=e _ _ h
noncomputable def Dw(H:AH)(as:List Nat)(rows:List (List Int)):Prop:=as.length=rows.length/\∀(i x:Nat) (r:List Int),as[i]? = some x->rows[i]? = some r->LI H x r
theorem Dw.ext{as:List Nat}{rows:List (List Int)}(h:Dw H as rows)(e:Av H H'):Dw H' as rows:=⟨h.1,fun i x r h1 h2=>(h.2 i x r h1 h2).ext e⟩
theorem Dw.snoc{as:List Nat}{rows:List (List Int)}{x:Nat}{r:List Int}(h:Dw H as rows)(hx:LI H x r):Dw H (as ++ [x]) (rows ++ [r]):=by
 refine⟨by simp[h.1],fun i y r' h1 h2=>?_⟩
 cases Nat.lt_or_ge i as.length with
 | inl q=>
   rw[List.getElem?_append_left q]at h1
   rw[List.getElem?_append_left (by rw[<-h.1];exact q)]at h2
   exact h.2 i y r' h1 h2
 | inr q=>
   rw[List.getElem?_append_right q]at h1
   rw[List.getElem?_append_right (by rw[<-h.1];exact q)]at h2
   have:i-as.length=0:=by
    obtain⟨z,_⟩:=List.getElem?_eq_some_iff.mp h1
    simp at z;omega
   rw[this]at h1
   rw[<-h.1,this]at h2
   simp at h1 h2
   subst h1 h2
   exact hx
theorem Lb{g:AH->Prop}{t:P8}{body:Ao->AH->(Ao->AH->Prop)->Prop}{N:Ao->AH->Prop}(I:Nat->Ao->AH->Prop):∀ {its:List It} {k:Nat} {ρ:Ao} {H:AH},I k ρ H->
 (∀i x ρ H K,its[i]? = some x->I (k+i) ρ H->(∀ρ'' H'',I (k+i+1) ρ'' H''->K ρ'' H'')->g H/\Kl t x ρ H fun ρ'=>body ρ' H K)->(∀ρ H,I (k+its.length) ρ H->g H/\N ρ H)->Lk g t body N its ρ H:=by
 intro its
 induction its with
 | nil=>intro k ρ H h0 _ fin;exact fin ρ H h0
 | cons x r ih=>
   intro k ρ H h0 step fin
   refine step 0 x ρ H _ rfl h0 fun ρ'' H'' h1=>?_
   refine ih (k:=k+1) h1 (fun i y ρ H K hy hI hK=>?_) fun ρ H hI=>?_
   ·refine step (i+1) y ρ H K hy (by rwa[show k+(i+1)=k+1+i by(first|lia|omega)]) fun ρ'' H'' h=>hK ρ'' H'' ?_
    rwa[show k+1+i+1=k+(i+1)+1 by(first|lia|omega)]
   ·exact fin ρ H (by rwa[List.length_cons,show k+(r.length+1)=k+1+r.length by(first|lia|omega)])
theorem Sx{m:Nat}{a:Int}{t:Nat}{body:Ao->AH->(Ao->AH->Prop)->Prop}{N:Ao->AH->Prop}(I:Nat->Ao->AH->Prop)(h0:I 0 ρ H)
 (step:∀i ρ H K,i<m->I i ρ H->(∀ρ'' H'',I (i+1) ρ'' H''->K ρ'' H'')->body (ρ.set t (some (.int (a+i)))) H K) (fin:∀ρ H,I m ρ H->N ρ H) :
 Lk (fun _=>True) (.one t) body N ((List.range m).map fun(i:Nat)=> .v (.int (a+i))) ρ H:=by
 refine Lb (k:=0) I h0 (fun i x ρ H K hx hI hK=>⟨trivial,?_⟩) fun ρ H hI=>⟨trivial,fin ρ H (by simpa using hI)⟩
 rw[List.getElem?_map]at hx
 obtain⟨j,hj,rfl⟩:=Option.map_eq_some_iff.mp hx
 obtain⟨hlt,he⟩:=List.getElem?_eq_some_iff.mp hj
 simp at hlt he
 subst he
 exact step i ρ H K hlt (by simpa using hI) fun ρ'' H'' h=>hK ρ'' H'' (by simpa using h)
theorem Bj{m:Nat}{t:Nat}{body:Ao->AH->(Ao->AH->Prop)->Prop}{N:Ao->AH->Prop}(I:Nat->Ao->AH->Prop)(h0:I 0 ρ H)
 (step:∀i ρ H K,i<m->I i ρ H->(∀ρ'' H'',I (i+1) ρ'' H''->K ρ'' H'')->body (ρ.set t (some (.int i))) H K) (fin:∀ρ H,I m ρ H->N ρ H) :
 Lk (fun _=>True) (.one t) body N ((List.range m).map fun(i:Nat)=> .v (.int i)) ρ H:=by
 have:=Sx (a:=0) (t:=t) (body:=body) (N:=N) I h0 (fun i ρ H K hi hI hK=>by simpa using step i ρ H K hi hI hK) fin
 simpa using this
theorem Ia{a:Nat}{xs:List V}{t:Nat}{body:Ao->AH->(Ao->AH->Prop)->Prop}{N:Ao->AH->Prop}(I:Nat->Ao->AH->Prop)(h0:I 0 ρ H)(hg:∀i ρ H,I i ρ H->H a=some (.list xs))
 (step:∀i x ρ H K,xs[i]? = some x->I i ρ H->(∀ρ'' H'',I (i+1) ρ'' H''->K ρ'' H'')->body (ρ.set t (some x)) H K) (fin:∀ρ H,I xs.length ρ H->N ρ H) :
 Lk (fun H=>H a=some (.list xs)) (.one t) body N (xs.map .v) ρ H:=by
 refine Lb (k:=0) I h0 (fun i x ρ H K hx hI hK=>⟨hg _ _ _ hI,?_⟩) fun ρ H hI=>⟨hg _ _ _ hI,fin ρ H (by simpa using hI)⟩
 rw[List.getElem?_map]at hx
 obtain⟨j,hj,rfl⟩:=Option.map_eq_some_iff.mp hx
 exact step i j ρ H K hj (by simpa using hI) fun ρ'' H'' h=>hK ρ'' H'' (by simpa using h)
theorem Cd{g:AH->Prop}{elt:Ao->AH->(Option V->AH->Prop)->Prop}{Q:List V->AH->Prop}(I:Nat->List V->AH->Prop):∀ {its:List It} {k:Nat} {acc:List V} {y:Option V} {H:AH},I k acc H->
 (∀i x acc H K,its[i]? = some x->I (k+i) acc H->(∀o H'',I (k+i+1) (match o with|some v=>acc ++ [v]|none=>acc) H''->K o H'')->g H/\∃v,x = .v v/\elt (some v::ρ) H K)->
 (∀acc H,I (k+its.length) acc H->g H/\Q acc H)->B9 g (.one 0) elt Q its acc (y::ρ) H:=by
 intro its
 induction its with
 | nil=>intro k acc y H h0 _ fin;exact fin acc H h0
 | cons x r ih=>
   intro k acc y H h0 step fin
   obtain⟨g1,v,rfl,h⟩:=step 0 x acc H (fun o H''=>B9 g (.one 0) elt Q r (match o with|some v=>acc ++ [v]|none=>acc) (some (match x with | .v v=>v|_=> .none)::ρ) H'') rfl h0 fun o H'' h1=>by
    refine ih (k:=k+1) h1 (fun i y acc H K hy hI hK=>?_) fun acc H hI=>?_
    ·refine step (i+1) y acc H K hy (by rwa[show k+(i+1)=k+1+i by(first|lia|omega)]) fun o H'' h=>hK o H'' ?_
     rwa[show k+1+i+1=k+(i+1)+1 by(first|lia|omega)]
    ·exact fin acc H (by rwa[List.length_cons,show k+(r.length+1)=k+1+r.length by(first|lia|omega)])
   exact⟨g1,h⟩
theorem Hv{m:Nat}{elt:Ao->AH->(Option V->AH->Prop)->Prop}{P:Nat->List Int->Prop}{Q:List V->AH->Prop}{y:Option V}
 (step:∀i H' K,i<m->Av H H'->(∀x r H'',Av H' H''->LI H'' x r->P i r->K (some (.ref x)) H'')->elt (some (.int i)::ρ) H' K)
 (fin:∀as rows H',Av H H'->Dw H' as rows->rows.length=m->(∀(i:Nat) r,rows[i]? = some r->P i r)->Q (as.map V.ref) H') :
 B9 (fun _=>True) (.one 0) elt Q ((List.range m).map fun(i:Nat)=> .v (.int i)) [] (y::ρ) H:=by
 refine Cd (k:=0) (fun i acc H'=>(Gx fun as rows=>Xx (acc=as.map V.ref) (Av H H') (Dw H' as rows) (rows.length=i) (∀(i:Nat) r,rows[i]? = some r->P i r))) ⟨[],[],rfl,Av.refl,⟨rfl,fun i x r h=>by simp at h⟩,rfl,fun i r h=>by simp at h⟩ ?_ ?_
 ·rintro i x acc H' K hx ⟨as,rows,rfl,h1,h2,h3,h4⟩ hK
  rw[List.getElem?_map]at hx
  obtain⟨j,hj,rfl⟩:=Option.map_eq_some_iff.mp hx
  obtain⟨hlt,he⟩:=List.getElem?_eq_some_iff.mp hj
  simp at hlt he
  subst he
  refine⟨trivial,_,rfl,step i H' K hlt h1 fun x r H'' e1 e2 e3=>hK _ _ ⟨as ++ [x],rows ++ [r],by simp,h1.trans e1,(h2.ext e1).snoc e2,by simp[h3],fun k r' hr=>?_⟩⟩
  cases Nat.lt_or_ge k rows.length with
  | inl q=>rw[List.getElem?_append_left q]at hr;exact h4 k r' hr
  | inr q=>
    rw[List.getElem?_append_right q]at hr
    have:k-rows.length=0:=by
     obtain⟨z,_⟩:=List.getElem?_eq_some_iff.mp hr
     simp at z;(first|lia|omega)
    rw[this]at hr
    simp at hr
    subst hr
    have:k=i:=by(first|lia|omega)
    subst this
    exact e3
 ·rintro acc H' ⟨as,rows,rfl,h1,h2,h3,h4⟩
  exact⟨trivial,fin as rows H' h1 h2 (by simpa using h3) h4⟩
noncomputable def Ma(k:Nat)(r:List Int):Prop:=r.length<=k/\∀x∈r,0<=x/\x<k
noncomputable def Wf(m:Nat)(rows:List (List Int)):Prop:=rows.length=m/\∀(k:Nat) r,rows[k]? = some r->Ma k r
noncomputable def Lc(H:AH)(m:Nat)(Q:Ad):Prop:=∀a as rows H',Av H H'->H a=none->H' a=some (.list (as.map V.ref))->Dw H' as rows->Wf m rows->Q (.ref a) H'
theorem Hw{k:Nat}{a:Int}{c:Nat}(h0:0<=a)(h:a+c<=k):Ma k ((List.range c).map fun(i:Nat)=>a+i):=by
 refine⟨by simp;(first|lia|omega),fun x hx=>?_⟩
 obtain⟨i,hi,rfl⟩:=List.mem_map.mp hx
 simp at hi
 (first|lia|omega)
theorem Ux(c:Nat):(List.range c).map (fun(i:Nat)=>V.int i)=((List.range c).map fun(i:Nat)=>(0:Int)+i).map V.int:=by simp
theorem Nq(a:Int)(c:Nat):(List.range c).map (fun(i:Nat)=>V.int (a+i))=((List.range c).map fun(i:Nat)=>a+i).map V.int:=(List.map_map).symm
noncomputable def cell(ns:List Int)(k:Nat):Int:=ns.getD k 0
theorem Dg(hG:G.fn "_law_cell_at" = some Bu){ns:List Int}{k:Int}(hk:0<=k)(q:Q (.int (cell ns k.toNat)) H):Ab G (n+1) "_law_cell_at" [.script ns,.int k] H Q E:=by
 refine Al hG rfl ?_
 simp (disch:=first|decide|omega) only[Ja,Je,Jg,Jm,Jq,Js,Jw,Jx,J0,J2,J3,Cu,Be,Dt,List.map,Br,Bs,Ag,Aj,Bu]
 split
 ·rename_i h
  simp only[decide_eq_true_eq]at h
  have hlt:k.toNat<ns.length:=by omega
  have h1:Ci k ns.length=some k.toNat:=by delta Ci;rw[if_pos hk,if_pos h]
  have h2:ns[k.toNat]? = some (cell ns k.toNat):=by
   unfold cell;rw[List.getD_eq_getElem?_getD,List.getElem?_eq_getElem hlt];rfl
  delta Cj;(try dsimp only[A0]);rw[h1];(try dsimp only[Ff]);rw[h2]
  exact q
 ·rename_i h
  simp only[decide_eq_true_eq]at h
  have:cell ns k.toNat=0:=by
   unfold cell;rw[List.getD_eq_getElem?_getD,List.getElem?_eq_none (by omega)];rfl
  rw[this]at q
  exact q
theorem Ml(hG:G.fn "_law_mixed" = some Ea){c k:Int}(q:∀m,0<=m->m<1000003->Q (.int m) H):Ab G (n+1) "_law_mixed" [.int c,.int k] H Q E:=by
 refine Al hG rfl ?_
 simp (disch:=first|decide|omega) only[Je,Jg,Jl,J0,J2,J3,J6,J8,List.map,Br,Bs,Ag,Aj,Ea,Zv]
 refine⟨.inl (by decide),.inr (by decide),?_⟩
 exact q _ (by(first|lia|omega)) (by(first|lia|omega))
theorem Aau(hc:G.fn "_law_cell_at" = some Bu)(hG:G.fn "_law_many" = some Fi){ns:List Int}(q:∀m:Nat,m<=60->Q (.int m) H):Ab G (n+2) "_law_many" [.script ns] H Q E:=by
 refine Al hG rfl ?_
 have q':∀m:Int,0<=m->m<=60->Q (.int m) H:=fun m h1 h2=>by
  have:=q m.toNat (by(first|lia|omega))
  rwa[show ((m.toNat:Nat):Int)=m by(first|lia|omega)]at this
 simp (disch:=first|decide|omega) only[Ja,Je,Jg,Jl,Jm,Jp,Jw,Jx,Jy,J0,J2,J3,List.map,Br,Bs,Ag,Aj,List.replicate,Ba,Bb,Bf,true_and,Fi,hc]
 refine Dg hc (by decide) ?_
 simp (disch:=first|decide|omega) only[J6,J7,J8,Ck,Be]
 split
 ·exact q' _ (by(first|lia|omega)) (by(first|lia|omega))
 ·split
  ·exact q' _ (by(first|lia|omega)) (by(first|lia|omega))
  ·exact q' _ (by(first|lia|omega)) (by(first|lia|omega))
noncomputable def A6(ns:List Int)(m k:Int):Int:=if cell ns 1%2=1 then(cell ns 1/2-k)%m else(cell ns 1/2+k)%m
theorem O0{ns:List Int}{m k:Int}(h:0<m):0<=A6 ns m k/\A6 ns m k<m:=by
 unfold A6
 split
 ·exact⟨Int.emod_nonneg _ (by(first|lia|omega)),Int.emod_lt_of_pos _ h⟩
 ·exact⟨Int.emod_nonneg _ (by(first|lia|omega)),Int.emod_lt_of_pos _ h⟩
theorem Q8{x y m:Int}(hm:0<m)(h:x%m=y%m)(h1:x-y<m)(h2:y-x<m):x=y:=by
 have e:=Int.emod_emod_of_dvd x (Int.dvd_refl m)
 have h3:(x-y)%m=0:=by rw[Int.sub_emod,h,Int.sub_self,Int.zero_emod]
 obtain⟨k,hk⟩:=Int.dvd_of_emod_eq_zero h3
 have:k=0:=by
  rcases Int.lt_trichotomy k 0 with q|q|q
  ·have:m*k<=m*(-1):=Int.mul_le_mul_of_nonneg_left (by(first|lia|omega)) (by(first|lia|omega))
   (first|lia|omega)
  ·exact q
  ·have:m*1<=m*k:=Int.mul_le_mul_of_nonneg_left (by(first|lia|omega)) (by(first|lia|omega))
   (first|lia|omega)
 subst this
 (first|lia|omega)
theorem Sy{ns:List Int}{m j k:Int}(hm:0<m)(hj:0<=j/\j<m)(hk:0<=k/\k<m)(h:A6 ns m j=A6 ns m k):j=k:=by
 unfold A6 at h
 split at h
 ·have:=Q8 hm h (by(first|lia|omega)) (by(first|lia|omega));(first|lia|omega)
 ·have:=Q8 hm h (by(first|lia|omega)) (by(first|lia|omega));(first|lia|omega)
theorem W8(hc:G.fn "_law_cell_at" = some Bu)(hG:G.fn "_law_name" = some I1){ns:List Int}{m k:Int}(hm:0<m)(hm':m<=60)(q:Q (.int (A6 ns m k)) H):Ab G (n+2) "_law_name" [.script ns,.int m,.int k] H Q E:=by
 refine Al hG rfl ?_
 simp (disch:=first|decide|omega) only[Ja,Je,Jg,Jl,Jm,Jp,Jw,Jx,Jy,J0,J2,J3,List.map,Br,Bs,Ag,Aj,List.replicate,Ba,Bb,Bf,true_and,I1,hc]
 refine Dg hc (by decide) ?_
 simp (disch:=first|decide|omega) only[J6,J7,J8,J9,Ck,Be]
 unfold A6 at q
 split
 ·rename_i h
  simp only[decide_eq_true_eq]at h
  have h':cell ns 1%2=1:=h
  rw[if_pos h']at q
  exact q
 ·rename_i h
  simp only[decide_eq_true_eq]at h
  have h':¬cell ns 1%2=1:=h
  rw[if_neg h']at q
  exact q
theorem W9(hG:G.fn "_law_banded" = some F7){m:Nat}{c:Int}(hm:m<=60)(q:Lc H m Q):Ab G (n+1) "_law_banded" [.int m,.int c] H Q E:=by
 refine Al hG rfl ?_
 have core:∀z:Int,0<=z->Ay G (Ab G n) (.comp 1 (.range [(.var 0)]) Ec) [some (.int m),some (.int c),some (.int z)] H Q E:=by
  intro z hz
  rw[Ar,Bh]
  simp (disch:=first|decide|omega) only[Jg,Jw,Jx,J4,Cm,Br,Bs,Ag,List.replicate]
  refine⟨by simp[B6];omega,Hv (P:=Ma) (fun i H' K hi e1 hK=>?_) fun as rows H' e1 h1 h2 h3=>?_⟩
  ·simp (disch:=first|decide|omega) only[Je,Jg,Jl,Jq,Jw,Jx,J9,Dn,Dp,Ag,Aj,Ec]
   intro a ha
   rw[Nq]
   exact hK a _ _ (Av.upd ha) Ae (Hw (by omega) (by omega))
  ·intro a ha
   exact q a as rows _ (e1.trans (Av.upd ha)) (e1.isNone ha) Ae (h1.ext (Av.upd ha)) ⟨h2,h3⟩
 simp (disch:=first|decide|omega) only[Ja,Je,Jg,Jl,Jm,Jy,J0,J2,J3,J6,Cv,Be,List.map,Br,Bs,Ag,Aj,List.replicate,Ba,Bb,F7]
 split
 ·exact core _ (by omega)
 ·exact core _ (by omega)
set_option linter.all false
variable {G:Ap} {n:Nat} {H H':AH} {Q:Ad} {E:EP} {C:CS} {ρ:Ao}
theorem Lc.mono{m:Nat}(q:Lc H m Q)(e:Av H H'):Lc H' m Q:=fun a as rows H'' e1 h1 h2 h3 h4=>q a as rows H'' (e.trans e1) (e.isNone h1) h2 h3 h4
theorem Xa(hG:G.fn "_law_hubbed" = some F9){m:Nat}{c:Int}(hm:m<=60)(q:Lc H m Q):Ab G (n+1) "_law_hubbed" [.int m,.int c] H Q E:=by
 refine Al hG rfl ?_
 have core:∀(z:Int) (H':AH),0<=z->z<=1000->Av H H'->Ay G (Ab G n) (.comp 1 (.range [(.var 0)]) Ce) [some (.int m),some (.int c),some (.int z)] H' Q E:=by
  intro z H' hz hz' e
  rw[Ar,Bh]
  simp (disch:=first|decide|omega) only[Jg,Jw,Jx,J4,Cm,Br,Bs,Ag,List.replicate]
  refine⟨by simp[B6];(first|lia|omega),Hv (P:=Ma) (fun i H' K hi e1 hK=>?_) fun as rows H' e1 h1 h2 h3=>?_⟩
  ·simp (disch:=first|decide|omega) only[Jg,Jq,Jw,Jx,Du,Dv,Ag,Aj,Ce]
   intro a ha
   rw[Ux]
   exact hK a _ _ (Av.upd ha) Ae (Hw (by(first|lia|omega)) (by(first|lia|omega)))
  ·intro a ha
   exact q.mono e a as rows _ (e1.trans (Av.upd ha)) (e1.isNone ha) Ae (h1.ext (Av.upd ha)) ⟨h2,h3⟩
 simp (disch:=first|decide|omega) only[Ja,Je,Jg,Jl,Jm,Js,Ju,Jw,Jx,Jy,J0,J2,J3,J6,J7,Cv,Be,List.map,Br,Bs,Ag,Aj,List.replicate,Ba,Bb,F9]
 intro a ha
 have key:∀z:Int,0<=z->z<=1000->(if decide (30<(m:Int))=true then Ay G (Ab G n) (.comp 1 (.range [(.var 0)]) Ce) [some (.int m),some (.int c),some (.int (z%8))] (upd H a (.list [.int 1,.int 2,.int 3,.int (c/4%30)])) Q E
  else Ay G (Ab G n) (.comp 1 (.range [(.var 0)]) Ce) [some (.int m),some (.int c),some (.int z)] (upd H a (.list [.int 1,.int 2,.int 3,.int (c/4%30)])) Q E):=by
  intro z h1 h2
  split
  ·exact core _ _ (by(first|lia|omega)) (by(first|lia|omega)) (Av.upd ha)
  ·exact core _ _ (by(first|lia|omega)) (by(first|lia|omega)) (Av.upd ha)
 have h4:c%4=0\/c%4=1\/c%4=2\/c%4=3:=by(first|lia|omega)
 rcases h4 with h|h|h|h<;>rw[h]
 ·rw[A1 (x:= .int 1) Ae (by decide) rfl];simp (disch:=first|decide|omega) only[J6];exact key _ (by(first|lia|omega)) (by(first|lia|omega))
 ·rw[A1 (x:= .int 2) Ae (by decide) rfl];simp (disch:=first|decide|omega) only[J6];exact key _ (by(first|lia|omega)) (by(first|lia|omega))
 ·rw[A1 (x:= .int 3) Ae (by decide) rfl];simp (disch:=first|decide|omega) only[J6];exact key _ (by(first|lia|omega)) (by(first|lia|omega))
 ·rw[A1 (x:= .int (c/4%30)) Ae (by decide) rfl];simp (disch:=first|decide|omega) only[J6];exact key _ (by(first|lia|omega)) (by(first|lia|omega))
structure Ld(H H':AH)(a:Nat)(as:List Nat)(rows:List (List Int)):Prop where
 ext:Av H H'
 new:H a=none
 at_:H' a=some (.list (as.map V.ref))
 lists:Dw H' as rows
 ne:∀x∈as,x≠a
 ok:∀(k:Nat) r,rows[k]? = some r->Ma k r
theorem Ld.start{a:Nat}(h:H a=none):Ld H (upd H a (.list [])) a [] []:=⟨Av.upd h,h,Ae,⟨rfl,fun i x r q=>by simp at q⟩,fun x hx=>by simp at hx,fun k r q=>by simp at q⟩
theorem Dw.upd{as:List Nat}{rows:List (List Int)}{a:Nat}{o:O}(h:Dw H as rows)(hn:∀x∈as,x≠a):Dw (Mine.Internal.upd H a o) as rows:=⟨h.1,fun i x r h1 h2=>by
 unfold LI
 rw[upd_ne (hn x (List.mem_of_getElem? h1))];exact h.2 i x r h1 h2⟩
theorem Ld.snoc{H₁:AH}{a x:Nat}{as:List Nat}{rows:List (List Int)}{r:List Int}(b:Ld H H' a as rows)(hx:H' x=none)(e:∀y o,y≠x->H' y=some o->H₁ y=some o)(h:LI H₁ x r)(hr:Ma rows.length r) :
 Ld H (upd H₁ a (.list ((as.map V.ref) ++ [.ref x]))) a (as ++ [x]) (rows ++ [r]):=by
 have hxa:x≠a:=fun q=>by rw[q,b.at_]at hx;cases hx
 have hxs:∀y∈as,y≠x:=fun y hy q=>by
  obtain⟨i,hi⟩:=List.mem_iff_getElem?.mp hy
  have hlt:=(List.getElem?_eq_some_iff.mp hi).1
  have:LI H' y (rows[i]'(by rw[<-b.lists.1];exact hlt)):=b.lists.2 i y _ hi (List.getElem?_eq_getElem _)
  rw[q]at this
  unfold LI at this
  rw[hx]at this;cases this
 have hHx:H x=none:=b.ext.isNone hx
 have e1:Av H H₁:=fun y o q=>e y o (fun z=>by rw[z,hHx]at q;cases q) (b.ext y o q)
 have hr1:Dw H₁ as rows:=⟨b.lists.1,fun i y r' h1 h2=>e y _ (hxs y (List.mem_of_getElem? h1)) (b.lists.2 i y r' h1 h2)⟩
 refine⟨e1.upd' b.new,b.new,by rw[Ae];simp,?_,?_,?_⟩
 ·refine(hr1.snoc h).upd fun y hy=>?_
  rcases List.mem_append.mp hy with hy|hy
  ·exact b.ne y hy
  ·simp at hy;rw[hy];exact hxa
 ·intro y hy
  rcases List.mem_append.mp hy with hy|hy
  ·exact b.ne y hy
  ·simp at hy;rw[hy];exact hxa
 ·intro k r' hk
  cases Nat.lt_or_ge k rows.length with
  | inl q=>rw[List.getElem?_append_left q]at hk;exact b.ok k r' hk
  | inr q=>
    rw[List.getElem?_append_right q]at hk
    have:k-rows.length=0:=by
     obtain⟨z,_⟩:=List.getElem?_eq_some_iff.mp hk
     simp at z;(first|lia|omega)
    rw[this]at hk
    simp at hk
    subst hk
    have:k=rows.length:=by(first|lia|omega)
    rw[this];exact hr
theorem O1(hc:G.fn "_law_cell_at" = some Bu)(hx:G.fn "_law_mixed" = some Ea)(hG:G.fn "_law_earlier" = some Fh){ns:List Int}{m:Nat}{ring:Int}(hm:m<=60)(hr:ring=0\/4<=ring)(q:Lc H m Q) :
 Ab G (n+2) "_law_earlier" [.script ns,.int m,.int ring] H Q E:=by
 refine Al hG rfl ?_
 simp (disch:=first|decide|omega) only[Jg,Ju,Jw,Jy,J0,J2,J3,List.map,Br,Bs,List.replicate,Ba,Bb,Fh]
 intro a ha
 rw[Bm,Bh]
 simp (disch:=first|decide|omega) only[Jg,Jw,Jx,Cm,Ag,Aj]
 refine Bj (fun i ρ H'=>(Ex8 fun r4 r5 r6 r7 r8 r9 as rows=>Go (ρ = [some (.script ns),some (.int m),some (.int ring),some (.ref a),r4,r5,r6,r7,r8,r9]) (Ld H H' a as rows) (rows.length=i)))
  ⟨none,none,none,none,none,none,[],[],rfl,Ld.start ha,rfl⟩ ?_ ?_
 ·rintro i ρ H' K hi ⟨r4,r5,r6,r7,r8,r9,as,rows,rfl,b,hlen⟩ hK
  have hi':i<m:=hi
  have fin:∀(c:Int) (x:Nat) (r:List Int) (H₁:AH) (r7 r8 r9:Option V),H' x=none->(∀y o,y≠x->H' y=some o->H₁ y=some o)->LI H₁ x r->Ma i r->
   Bt G (Ab G (n+1)) [.expr (.lm .append (.var 3) [(.var 6)])] [some (.script ns),some (.int m),some (.int ring),some (.ref a),some (.int i),some (.int c),some (.ref x),r7,r8,r9] H₁ K Q E:=by
   intro c x r H₁ r7 r8 r9 h1 h2 h3 h4
   have hxa:x≠a:=fun q=>by rw[q,b.at_]at h1;cases h1
   have ha1:H₁ a=some (.list (as.map V.ref)):=h2 a _ (Ne.symm hxa) b.at_
   have hal:(as.map V.ref).length<1048576:=by rw[List.length_map,b.lists.1];(first|lia|omega)
   simp (disch:=first|decide|omega) only[Jg,Jw,Jx,Jz,J2,J3,Ag,Aj,true_and,Bq,Ej ha1,Df ha1 hal]
   exact hK _ _ ⟨_,_,_,_,_,_,_,_,rfl,b.snoc h1 h2 h3 (by rw[hlen];exact h4),by simp[hlen]⟩
  simp (disch:=first|decide|omega) only[Je,Jg,Jl,Jp,Ju,Jw,Jx,Jy,Jz,J2,J3,J8,Ag,Aj,Ba,Bb,Bf,true_and,Fu,hc,hx]
  refine Dg hc (by(first|lia|omega)) ?_
  try simp (disch:=first|decide|omega) only[Jb,Jc,Jd,Je,Jf,Jg,Jh,Ji,Jj,Jk,Jl,Jm,Jn,Jo,Jp,Jq,Jr,Js,Jt,Ju,Jv,Jw,Jx,Jy,Jz,J0,J1,J2,J3,J4,J5,J6,J7,J8,J9,Cu,Cz,Cv,Dl,Ck,C0,Dz,Dm,Dr,Ds,D0,D1,Be,Dn,Du,Dt,Cm,D2,Dv,Dp,List.map,Br,Bs,Ag,Aj,List.replicate,Ba,Bb,Bf,true_and]
  refine Ml hx fun c c0 c1=>?_
  try simp (disch:=first|decide|omega) only[Jb,Jc,Jd,Je,Jf,Jg,Jh,Ji,Jj,Jk,Jl,Jm,Jn,Jo,Jp,Jq,Jr,Js,Jt,Ju,Jv,Jw,Jx,Jy,Jz,J0,J1,J2,J3,J4,J5,J6,J7,J8,J9,Cu,Cz,Cv,Dl,Ck,C0,Dz,Dm,Dr,Ds,D0,D1,Be,Dn,Du,Dt,Cm,D2,Dv,Dp,List.map,Br,Bs,Ag,Aj,List.replicate,Ba,Bb,Bf,true_and]
  intro x hx0
  have e0:∀y o,y≠x->H' y=some o->upd H' x (.list []) y=some o:=fun y o h1 h2=>by rw[upd_ne h1];exact h2
  refine A3 (decide ((0:Int)<i)&&decide ((i:Int)<ring)) (fun Q' h'=>?_) ?_
  ·simp (disch:=first|decide|omega) only[Je,Jg,Jn,Cu,Be,Ag,Aj];split<;>simp_all
  ·split
   ·rename_i hh
    simp only[Bool.and_eq_true,decide_eq_true_eq]at hh
    simp (disch:=first|decide|omega) only[Je,Jg,Jl,Ju,Jw,Jx,Jy,J2,J3,J9,Ag,Aj,Ba,Bb]
    intro x1 hx1
    refine A3 (decide ((i:Int)=ring-1)) (fun Q' h'=>?_) ?_
    ·simp (disch:=first|decide|omega) only[Je,Jg,Jl,Jm,J9,Ck,Ag,Aj];exact h'
    have hx1':H' x1=none:=(Av.upd hx0).isNone hx1
    have e1:Av H' (upd H' x (.list [])):=Av.upd hx0
    split
    ·rename_i h3
     simp only[decide_eq_true_eq]at h3
     simp (disch:=first|decide|omega) only[Je,Jg,Jl,Ju,Jw,Jx,Jy,J2,J3,J9,Ag,Aj,Ba,Bb]
     intro x2 hx2
     have hx2':H' x2=none:=(Av.upd hx0).isNone ((Av.upd hx1).isNone hx2)
     refine fin c x2 [0,(i:Int)-1] _ _ _ _ hx2' (fun y o h1 h2=>?_) Ae ⟨by simp;(first|lia|omega),by simp;(first|lia|omega)⟩
     exact(Av.upd hx2) y o ((Av.upd hx1) y o (e1 y o h2))
    ·simp (disch:=first|decide|omega) only[J2]
     refine fin c x1 [(i:Int)-1] _ _ _ _ hx1' (fun y o h1 h2=>?_) Ae ⟨by simp;(first|lia|omega),by simp;(first|lia|omega)⟩
     exact(Av.upd hx1) y o (e1 y o h2)
   ·rename_i hh
    simp (disch:=first|decide|omega) only[J2,J3]
    refine A3 (decide ((0:Int)<i) && !decide (c%9=8)) (fun Q' h'=>?_) ?_
    ·simp (disch:=first|decide|omega) only[Je,Jg,Jj,Jl,Jm,J6,Cv,C0,Be,Ag,Aj];split<;>simp_all
    split
    ·rename_i h2
     simp only[Bool.and_eq_true,decide_eq_true_eq]at h2
     have hi0:0<(i:Int):=h2.1
     have hmate:0<=c/9%(i:Int)/\c/9%(i:Int)<i:=⟨Int.emod_nonneg _ (by(first|lia|omega)),Int.emod_lt_of_pos _ hi0⟩
     generalize hmt:c/9%(i:Int)=mate at hmate
     simp (disch:=first|decide|omega) only[Je,Jg,Jl,Ju,Jw,Jx,Jy,J2,J3,J6,J7,Ag,Aj,Ba,Bb,hmt]
     intro x1 hx1
     have hx1':H' x1=none:=(Av.upd hx0).isNone hx1
     have e1:Av H' (upd H' x (.list [])):=Av.upd hx0
     have e2:Av H' (upd (upd H' x (.list [])) x1 (.list [.int mate])):=e1.trans (Av.upd hx1)
     have hml:mate.toNat<rows.length:=by(first|lia|omega)
     have hml':mate.toNat<as.length:=by rw[b.lists.1];exact hml
     have hxm:as[mate.toNat]? = some (as[mate.toNat]):=List.getElem?_eq_getElem hml'
     have hrm:rows[mate.toNat]? = some (rows[mate.toNat]):=List.getElem?_eq_getElem hml
     generalize as[mate.toNat]=xm at hxm
     generalize rows[mate.toNat]=rm at hrm
     have hrok:=b.ok _ _ hrm
     have hLm:LI H' xm rm:=b.lists.2 _ _ _ hxm hrm
     have hsub:(as.map V.ref)[mate.toNat]? = some (.ref xm):=by rw[List.getElem?_map,hxm];rfl
     rw[Bm,C2]
     simp (disch:=first|decide|omega) only[Jg,Js,Ag,Aj]
     rw[A1 (e2 _ _ b.at_) hmate.1 hsub,C1 (e2 _ _ hLm)]
     have hxm1:xm≠x1:=fun q=>by rw[q]at hLm;unfold LI at hLm;rw[hx1']at hLm;cases hLm
     refine Ia (fun j ρ H₁=>(Rm fun l9 lf r=>Xx (ρ = [some (.script ns),some (.int m),some (.int ring),some (.ref a),some (.int i),some (.int c),some (.ref x1),some (.int mate),some (.int lf),l9]) ((∀y o,y≠x1->H' y=some o->H₁ y=some o)) (LI H₁ x1 r) (r.length<=1+j) (∀z∈r,0<=z/\z<(i:Int)))) ?_ ?_ ?_ ?_
     ·exact⟨_,_,[mate],rfl,fun y o _ h=>e2 y o h,Ae,Nat.le_refl _,by simpa using hmate⟩
     ·rintro j ρ H₁ ⟨l9,lf,r,rfl,h1,h2,h3,h4⟩
      exact h1 _ _ hxm1 hLm
     ·rintro j v ρ H₁ K' hv ⟨l9,lf,r,rfl,h1,h2,h3,h4⟩ hK'
      rw[List.getElem?_map]at hv
      obtain⟨z,hz,rfl⟩:=Option.map_eq_some_iff.mp hv
      have hzr:=hrok.2 z (List.mem_of_getElem? hz)
      have hjl:=(List.getElem?_eq_some_iff.mp hz).1
      have hlen2:rm.length<=60:=by have:=hrok.1;(first|lia|omega)
      simp (disch:=first|decide|omega) only[Je,Jg,Jl,Jy,J2,J3,Ba,Bb,Ft]
      have step2:∀r',r'.length<=1+(j+1)->(∀z∈r',0<=z/\z<(i:Int))->∀H₂,(∀y o,y≠x1->H' y=some o->H₂ y=some o)->LI H₂ x1 r'->
       K' [some (.script ns),some (.int m),some (.int ring),some (.ref a),some (.int i),some (.int c),some (.ref x1),some (.int mate),some (.int (lf/3)),some (.int z)] H₂:=
       fun r' a1 a2 H₂ a3 a4=>hK' _ _ ⟨_,_,r',rfl,a3,a4,a1,a2⟩
      have hlen:(r.map V.int).length<1048576:=by rw[List.length_map];(first|lia|omega)
      have key:∃cc:Bool,∀Q':Ad,Q' (.bool cc) H₁->Ay G (Ab G (n+1)) (.and (.cmp .Gt (.bin .Mod (.var 8) (.cint 3)) (.cint 0)) (.or (.cmp .GtE (.var 7) (.var 2)) (.cmp .Lt (.bi .len [(.var 6)]) (.cint 2)))) [some (.script ns),some (.int m),some (.int ring),some (.ref a),some (.int i),some (.int c),some (.ref x1),some (.int mate),some (.int lf),some (.int z)] H₁ Q' E:=by
       refine⟨decide (0<lf%3)&&(decide (ring<=mate)||decide (((r.map V.int).length:Int)<2)),fun Q' h'=>?_⟩
       simp (disch:=first|decide|omega) only[Je,Jg,Jj,Jk,Jl,Jm,Jq,Jw,Jx,J6,Cu,Cv,Dl,Be,Ag,Aj,Fl h2]
       split
       ·split<;>simp_all
       ·simp_all
      obtain⟨cc,hcc⟩:=key
      refine A3 cc hcc ?_
      split
      ·simp (disch:=first|decide|omega) only[Jg,Jw,Jx,Jz,J2,J3,J7,Ag,Aj,Ba,Bb,true_and,Bq,Ej h2,Df h2 hlen]
       refine step2 (r ++ [z]) (by simp;(first|lia|omega)) (fun w hw=>?_) _ (fun y o a1 a2=>by rw[upd_ne a1];exact h1 y o a1 a2) (by unfold LI;rw[Ae];simp)
       rcases List.mem_append.mp hw with hw|hw
       ·exact h4 w hw
       ·simp at hw;subst hw;(first|lia|omega)
      ·simp (disch:=first|decide|omega) only[J2,J7,Ag,Aj,Ba,Bb]
       exact step2 r (by(first|lia|omega)) h4 _ h1 h2
     ·rintro ρ H₁ ⟨l9,lf,r,rfl,h1,h2,h3,h4⟩
      refine fin c x1 r H₁ _ _ _ hx1' h1 h2 ⟨?_,h4⟩
      rw[List.length_map]at h3
      have:=hrok.1
      (first|lia|omega)
    ·simp (disch:=first|decide|omega) only[J2]
     exact fin c x [] _ _ _ _ hx0 e0 Ae ⟨Nat.zero_le _,fun _ h=>absurd h List.not_mem_nil⟩
 ·rintro ρ H' ⟨r4,r5,r6,r7,r8,r9,as,rows,rfl,b,hlen⟩
  simp (disch:=first|decide|omega) only[Ag,Aj]
  exact q a as rows H' b.ext b.new b.at_ b.lists ⟨hlen,b.ok⟩
set_option linter.all false
variable {G:Ap} {n:Nat} {H H':AH} {Q:Ad} {E:EP} {C:CS} {ρ:Ao}
theorem Nr{g:AH->Prop}{elt:Ao->AH->(Option V->AH->Prop)->Prop}{Q:List V->AH->Prop}{xs:List V}{f:V->Option V}{y:Option V}(hg:g H)
 (step:∀x∈xs,∀K:Option V->AH->Prop,K (f x) H->elt (some x::ρ) H K) (fin:Q (xs.filterMap f) H):B9 g (.one 0) elt Q (xs.map .v) [] (y::ρ) H:=by
 refine Cd (k:=0) (fun i acc H'=>H'=H/\acc=(xs.take i).filterMap f) ⟨rfl,rfl⟩ ?_ ?_
 ·rintro i x acc H' K hx ⟨rfl,rfl⟩ hK
  rw[List.getElem?_map]at hx
  obtain⟨j,hj,rfl⟩:=Option.map_eq_some_iff.mp hx
  refine⟨hg,_,rfl,step j (List.mem_of_getElem? hj) K (hK _ _ ⟨rfl,?_⟩)⟩
  have hlt:=(List.getElem?_eq_some_iff.mp hj).1
  rw[Nat.zero_add,List.take_add_one,hj]
  simp only[Option.toList_some,List.filterMap_append]
  rw[List.filterMap_cons]
  cases hfj:f j<;>simp
 ·rintro acc H' ⟨rfl,rfl⟩
  refine⟨hg,?_⟩
  rw[Nat.zero_add,List.take_of_length_le (Nat.le_of_eq (List.length_map _).symm)]
  exact fin
theorem Q9(m:Nat):((List.range m).map fun(i:Nat)=>It.v (.int i))=((List.range m).map fun(i:Nat)=>V.int i).map It.v:=(List.map_map).symm
theorem Ps(m:Nat)(p:Nat->Bool):((List.range m).map fun(i:Nat)=>V.int i).filterMap (fun v=>match v with | .int i=>if p i.toNat then some (.int i)else none|_=>none)=(((List.range m).filter p).map fun(i:Nat)=>(i:Int)).map V.int:=by
 rw[List.filterMap_map]
 induction m with
 | zero=>rfl
 | succ m ih=>
   rw[List.range_succ,List.filterMap_append,ih,List.filter_append]
   simp only[List.map_append,List.filterMap_cons,Function.comp,List.filterMap_nil,Int.toNat_natCast,List.filter_cons,List.filter_nil]
   by_cases hp:p m=true<;>simp[hp]
noncomputable def Nt(l:List Nat):List Int:=l.map fun(i:Nat)=>(i:Int)
theorem N8{m:Nat}{p:Nat->Bool}{elt:Ao->AH->(Option V->AH->Prop)->Prop}{Q:List V->AH->Prop}{y:Option V}
 (step:∀j,j<m->∀K:Option V->AH->Prop,K (if p j then some (.int j)else none) H->elt (some (.int j)::ρ) H K) (fin:Q ((Nt ((List.range m).filter p)).map V.int) H) :
 B9 (fun _=>True) (.one 0) elt Q ((List.range m).map fun(i:Nat)=> .v (.int i)) [] (y::ρ) H:=by
 rw[Q9]
 refine Nr (f:=fun v=>match v with | .int i=>if p i.toNat then some (.int i)else none|_=>none) trivial (fun v hv K hK=>?_) ?_
 ·obtain⟨j,hj,rfl⟩:=List.mem_map.mp hv
  exact step j (List.mem_range.mp hj) K hK
 ·rw[Ps];exact fin
theorem Sz(hc:G.fn "_law_cell_at" = some Bu)(hx:G.fn "_law_mixed" = some Ea)(hG:G.fn "_law_any_rows" = some Eu){ns:List Int}{m:Nat}(hm:m<=60)(q:Lc H m Q) :
 Ab G (n+2) "_law_any_rows" [.script ns,.int m] H Q E:=by
 refine Al hG rfl ?_
 simp (disch:=first|decide|omega) only[Je,Jg,Jl,Jp,Ju,Jw,Jx,Jy,J0,J2,J3,List.map,Br,Bs,Ag,List.replicate,Ba,Bb,Bf,true_and,Eu,hc]
 refine Dg hc (by decide) ?_
 try simp (disch:=first|decide|omega) only[J6,J7,J8]
 generalize hsh:1+cell ns (2:Int).toNat/8%4=share
 have core:∀parts:Int,0<parts->parts<=40->Bt G (Ab G (n+1)) [.assign 4 (.list []),.for (.one 5) (.range [(.var 1)]) Da,.ret (.var 4)] [some (.script ns),some (.int m),some (.int share),some (.int parts),none,none,none] H (fun _ H=>Q .none H) Q E:=by
  intro parts hp0 hp1
  simp (disch:=first|decide|omega) only[Jg,Ju,Jw,Jy,J0,J2,J3,Ba,Bb]
  intro a ha
  rw[Bm,Bh]
  simp (disch:=first|decide|omega) only[Jg,Jw,Jx,Cm,Ag,Aj]
  refine Bj (fun i ρ H'=>(Ex4 fun r5 r6 as rows=>Go (ρ = [some (.script ns),some (.int m),some (.int share),some (.int parts),some (.ref a),r5,r6]) (Ld H H' a as rows) (rows.length=i)))
   ⟨none,none,[],[],rfl,Ld.start ha,rfl⟩ ?_ ?_
  ·rintro i ρ H' K hi ⟨r5,r6,as,rows,rfl,b,hlen⟩ hK
   have hi':i<m:=hi
   simp (disch:=first|decide|omega) only[Jy,Jz,J2,J3,Ba,Bb,Da]
   rw[Ar,Bh]
   simp (disch:=first|decide|omega) only[Jg,Jw,Jx,J4,Cm,Br,Bs,Ag,Aj,List.replicate]
   refine⟨by simp[B6];(first|lia|omega),?_⟩
   refine Cd (k:=0) (fun j acc H₁=>H₁=H'/\∃l:List Int,acc=l.map V.int/\l.length=j) ⟨rfl,[],rfl,rfl⟩ ?_ ?_
   ·rintro j x acc H₁ K' hx' ⟨rfl,l,rfl,hl⟩ hK'
    rw[List.getElem?_map]at hx'
    obtain⟨j',hj,rfl⟩:=Option.map_eq_some_iff.mp hx'
    obtain⟨hlt,he⟩:=List.getElem?_eq_some_iff.mp hj
    simp at hlt he
    subst he
    refine⟨trivial,_,rfl,?_⟩
    simp (disch:=first|decide|omega) only[Je,Jg,Jl,Jp,Jw,Jx,J6,J8,Ag,Aj,Bf,true_and,E4,Zv,hc,hx]
    refine⟨.inl (by decide),.inl (by decide),?_⟩
    try simp (disch:=first|decide|omega) only[Jb,Jc,Jd,Je,Jf,Jg,Jh,Ji,Jj,Jk,Jl,Jm,Jn,Jo,Jp,Jq,Jr,Js,Jt,Ju,Jv,Jw,Jx,Jy,Jz,J0,J1,J2,J3,J4,J5,J6,J7,J8,J9,Cu,Cz,Cv,Dl,Ck,C0,Dz,Dm,Dr,Ds,D0,D1,Be,Dn,Du,Dt,Cm,D2,Dv,Dp,List.map,Br,Bs,Ag,Aj,List.replicate,Ba,Bb,Bf,true_and]
    refine Dg hc (by(first|lia|omega)) ?_
    try simp (disch:=first|decide|omega) only[Jb,Jc,Jd,Je,Jf,Jg,Jh,Ji,Jj,Jk,Jl,Jm,Jn,Jo,Jp,Jq,Jr,Js,Jt,Ju,Jv,Jw,Jx,Jy,Jz,J0,J1,J2,J3,J4,J5,J6,J7,J8,J9,Cu,Cz,Cv,Dl,Ck,C0,Dz,Dm,Dr,Ds,D0,D1,Be,Dn,Du,Dt,Cm,D2,Dv,Dp,List.map,Br,Bs,Ag,Aj,List.replicate,Ba,Bb,Bf,true_and]
    refine⟨.inl (by decide),?_⟩
    refine Ml hx fun c c0 c1=>?_
    exact hK' _ _ ⟨rfl,l ++ [c],by simp,by simp[hl]⟩
   ·rintro acc H₁ ⟨rfl,cells,rfl,hl⟩
    refine⟨trivial,fun x hx0=>?_⟩
    have hcl:cells.length=i:=by simpa using hl
    have hal:(as.map V.ref).length<1048576:=by rw[List.length_map,b.lists.1];(first|lia|omega)
    have ha1:upd H₁ x (.list (cells.map V.int)) a=some (.list (as.map V.ref)):=(Av.upd hx0) _ _ b.at_
    simp (disch:=first|decide|omega) only[Jg,Jw,Jx,Ag,Aj,true_and,Bq,Ej ha1]
    rw[An,Bh]
    simp (disch:=first|decide|omega) only[Jg,Jw,Jx,J4,Cm,Br,Bs,Ag,Aj,List.replicate]
    refine⟨by simp[B6];(first|lia|omega),?_⟩
    refine N8 (p:=fun k=>decide (cells.getD k 0%parts<share)) (fun j hj K' hK'=>?_) ?_
    ·have hj':j<cells.length:=by(first|lia|omega)
     have hsub:(cells.map V.int)[(j:Int).toNat]? = some (.int (cells.getD j 0)):=by
      rw[Int.toNat_natCast,List.getElem?_map,List.getElem?_eq_getElem hj',List.getD_eq_getElem?_getD,List.getElem?_eq_getElem hj'];rfl
     simp (disch:=first|decide|omega) only[Jg,Jl,Jm,Js,J6,Cu,Be,Ag,Aj,E5,A1 (Ae) (Int.natCast_nonneg j) hsub]
     split
     ·rename_i h;rw[if_pos h]at hK';exact hK'
     ·rename_i h;rw[if_neg h]at hK';exact hK'
    ·generalize hR:(List.range ((i:Int)).toNat).filter (fun k=>decide (cells.getD k 0%parts<share))=R
     intro x1 hx1
     have hx1':H₁ x1=none:=(Av.upd hx0).isNone hx1
     have ha2:=(Av.upd (o:= .list ((Nt R).map V.int)) hx1) _ _ ha1
     simp (disch:=first|decide|omega) only[Df ha2 hal]
     refine hK _ _ ⟨_,_,_,_,rfl,b.snoc hx1' (fun y o _ h=>(Av.upd hx1) y o ((Av.upd hx0) y o h)) Ae ⟨?_,?_⟩,by simp[hlen]⟩
     ·unfold Nt
      rw[List.length_map,<-hR]
      have:=List.length_filter_le (fun k=>decide (cells.getD k 0%parts<share)) (List.range ((i:Int)).toNat)
      rw[List.length_range]at this
      (first|lia|omega)
     ·intro z hz
      obtain⟨k,hk,rfl⟩:=List.mem_map.mp hz
      rw[<-hR]at hk
      have:=List.mem_range.mp (List.mem_filter.mp hk).1
      (first|lia|omega)
  ·rintro ρ H' ⟨r5,r6,as,rows,rfl,b,hlen⟩
   simp (disch:=first|decide|omega) only[Ag,Aj]
   exact q a as rows H' b.ext b.new b.at_ b.lists ⟨hlen,b.ok⟩
 refine A3 (decide ((20:Int)<m)) (fun Q' h'=>?_) ?_
 ·simp (disch:=first|decide|omega) only[Je,Jg,Jm,Cv,Ag,Aj];exact h'
 ·split
  ·rw[J3,Jy,Je,J2];exact core 40 (by decide) (by decide)
  ·rw[J2];exact core 5 (by decide) (by decide)
set_option linter.all false
variable {G:Ap} {n:Nat} {H H':AH} {Q:Ad} {E:EP} {C:CS} {ρ:Ao}
theorem S0{a:Nat}{xs:List V}{k:Int}{v:V}{N:AH->Prop}(h:H a=some (.list xs))(h0:0<=k)(hk:k<xs.length):setItem (.ref a) (.int k) v H N=N (upd H a (.list (xs.set k.toNat v))):=by
 have:Ci k xs.length=some k.toNat:=by delta Ci;rw[if_pos h0,if_pos hk]
 delta setItem;(try dsimp only[Bl,A0]);rw[h];(try dsimp only);rw[this];(try dsimp only[Ff])
theorem Xb(hG:G.fn "_law_ringed" = some F8){m:Nat}{c:Int}(hm:m<=60)(q:Lc H m Q):Ab G (n+1) "_law_ringed" [.int m,.int c] H Q E:=by
 refine Al hG rfl ?_
 simp (disch:=first|decide|omega) only[Je,Jg,Jl,Jy,J0,J2,J3,J6,J7,J8,List.map,Br,Bs,Ag,Aj,List.replicate,Ba,Bb,F8]
 generalize hsz:4+c%5=size
 generalize hst:size+c/5%4=step
 have hsize:4<=size:=by(first|lia|omega)
 have hstep:size<=step/\step<100:=by(first|lia|omega)
 rw[Ar,Bh]
 simp (disch:=first|decide|omega) only[Jg,Jw,Jx,J4,Cm,Br,Bs,Ag,List.replicate]
 refine⟨by simp[B6];(first|lia|omega),Hv (P:=Ma) (fun i H' K hi e1 hK=>?_) fun as rows H' e1 h1 h2 h3=>?_⟩
 ·simp (disch:=first|decide|omega) only[Je,Jg,Jl,Jq,Jw,Jx,J9,Dn,Dp,Ag,Gp]
  intro a ha
  rw[Nq]
  exact hK a _ _ (Av.upd ha) Ae (Hw (by(first|lia|omega)) (by(first|lia|omega)))
 ·intro a ha
  rw[Bm,Bh]
  simp (disch:=first|decide|omega) only[Jg,Jw,Jx,Cm,Ag]
  refine Bj (fun i ρ H₁=>(Rm fun r4 as rows=>Z0 (ρ = [some (.int m),some (.int c),some (.int size),some (.int step),r4,some (.ref a)]) (Av H H₁) (H₁ a=some (.list (as.map V.ref))) (Dw H₁ as rows) ((∀x∈as,x≠a)) (Wf m rows))) ?_ ?_ ?_
  ·refine⟨none,as,rows,rfl,e1.trans (Av.upd ha),Ae,h1.ext (Av.upd ha),fun x hx hxa=>?_,⟨h2,h3⟩⟩
   subst hxa
   obtain⟨i,hi⟩:=List.mem_iff_getElem?.mp hx
   have hlt:=(List.getElem?_eq_some_iff.mp hi).1
   have:=h1.2 i x _ hi (List.getElem?_eq_getElem (by rw[<-h1.1];exact hlt))
   unfold LI at this
   rw[ha]at this;cases this
  ·rintro i ρ H₁ K hi ⟨r4,as,rows,rfl,e,hA,hR,hne,hW⟩ hK
   have hi':i<m:=hi
   simp (disch:=first|decide|omega) only[J2,J3,Ba,Bb,Gq]
   refine A3 (decide ((i:Int)%step=size-1)) (fun Q' h'=>?_) ?_
   ·simp (disch:=first|decide|omega) only[Je,Jg,Jl,Jm,J6,J9,Ck,Ag,Aj];exact h'
   ·split
    ·rename_i hh
     simp only[decide_eq_true_eq]at hh
     have hle:(i:Int)%step<=i:=by
      have h1:=Int.mul_ediv_add_emod (i:Int) step
      have h2:0<=step*((i:Int)/step):=Int.mul_nonneg (by(first|lia|omega)) (Int.ediv_nonneg (by(first|lia|omega)) (by(first|lia|omega)))
      (first|lia|omega)
     simp (disch:=first|decide|omega) only[Je,Jg,Jl,Ju,Jw,Jx,J2,J3,J8,J9,Ag,Aj,Bk]
     intro x hx
     have hA':=(Av.upd (o:= .list [.int ((i:Int)+1-size),.int ((i:Int)-1)]) hx) _ _ hA
     have hL:i<(as.map V.ref).length:=by rw[List.length_map,hR.1,hW.1];exact hi'
     rw[S0 hA' (by(first|lia|omega)) (by(first|lia|omega))]
     have hxa:x≠a:=fun z=>by rw[z,hA]at hx;cases hx
     have hHa:H a=none:=e1.isNone ha
     refine hK _ _ ⟨_,as.set i x,rows.set i [(i:Int)+1-size,(i:Int)-1],rfl,(e.trans (Av.upd hx)).upd' hHa,?_,?_,?_,?_⟩
     ·rw[Ae,Int.toNat_natCast,List.map_set]
     ·refine Dw.upd ?_ ?_
      ·refine⟨by simp[hR.1],fun k y r h1 h2=>?_⟩
       rw[List.getElem?_set]at h1 h2
       by_cases hki:i=k
       ·subst hki
        rw[if_pos rfl]at h1 h2
        rw[if_pos (by rw[<-hR.1];simpa using hL)]at h2
        rw[if_pos (by simpa using hL)]at h1
        cases h1;cases h2
        exact Ae
       ·rw[if_neg hki]at h1 h2
        exact(hR.2 k y r h1 h2).ext (Av.upd hx)
      ·intro y hy
       rcases List.mem_or_eq_of_mem_set hy with hy|hy
       ·exact hne y hy
       ·rw[hy];exact hxa
     ·intro y hy
      rcases List.mem_or_eq_of_mem_set hy with hy|hy
      ·exact hne y hy
      ·rw[hy];exact hxa
     ·refine⟨List.length_set.trans hW.1,fun k r h2=>?_⟩
      rw[List.getElem?_set]at h2
      by_cases hki:i=k
      ·subst hki
       rw[if_pos rfl,if_pos (by rw[hW.1];exact hi')]at h2
       cases h2
       exact⟨by simp;(first|lia|omega),by simp;(first|lia|omega)⟩
      ·rw[if_neg hki]at h2
       exact hW.2 k r h2
    ·simp (disch:=first|decide|omega) only[J2]
     exact hK _ _ ⟨_,as,rows,rfl,e,hA,hR,hne,hW⟩
  ·rintro ρ H₁ ⟨r4,as,rows,rfl,e,hA,hR,hne,hW⟩
   simp (disch:=first|decide|omega) only[Ag,Aj]
   exact q a as rows H₁ e (e1.isNone ha) hA hR hW
structure Ht(G:Ap):Prop where
 cellAt:G.fn "_law_cell_at" = some Bu
 mixed:G.fn "_law_mixed" = some Ea
 earlier:G.fn "_law_earlier" = some Fh
 anyRows:G.fn "_law_any_rows" = some Eu
 banded:G.fn "_law_banded" = some F7
 ringed:G.fn "_law_ringed" = some F8
 hubbed:G.fn "_law_hubbed" = some F9
 rows:G.fn "_law_rows" = some Mt
 name:G.fn "_law_name" = some I1
 ties:G.fn "_law_ties" = some Mu
 near:G.fn "_law_near" = some Mv
 init:G.fn "Web.__init__" = some Ko
 need:G.fn "Web.need" = some Iz
 tied:G.fn "Web.tied" = some I0
 wties:G.fn "Web.ties" = some Ms
 webOf:G.fn "web_of" = some Kp
 most:G.const "MOST" = some (.int 60)
theorem Aav(B:Ht G){ns:List Int}{m:Nat}(hm:m<=60)(q:Lc H m Q):Ab G (n+3) "_law_rows" [.script ns,.int m] H Q E:=by
 refine Al B.rows rfl ?_
 simp (disch:=first|decide|omega) only[Je,Jg,Jl,Jp,Jw,Jx,Jy,J0,J2,J3,List.map,Br,Bs,Ag,List.replicate,Ba,Bb,Bf,true_and,Mt,B.cellAt,B.earlier]
 refine Dg B.cellAt (by decide) ?_
 try simp (disch:=first|decide|omega) only[J6]
 refine Dg B.cellAt (by decide) ?_
 try simp (disch:=first|decide|omega) only[J7]
 generalize hk:cell ns (2:Int).toNat%8=kind
 generalize hc:cell ns (2:Int).toNat/8=c
 refine A3 (decide (kind=1)&&decide (3<(m:Int))) (fun Q' h'=>?_) ?_
 ·simp (disch:=first|decide|omega) only[Je,Jg,Jj,Jm,Cv,Ck,Be,Ag,Aj];split<;>simp_all
 split
 ·rename_i hh
  simp only[Bool.and_eq_true,decide_eq_true_eq]at hh
  simp (disch:=first|decide|omega) only[Je,Jg,Jl,Jp,Jw,Jx,J0,J2,J3,J6,J8,J9,Ag,Aj]
  refine⟨by rw[B.earlier];rfl,?_⟩
  have hc1:0<=c%((m:Int)-3):=Int.emod_nonneg _ (by omega)
  exact O1 B.cellAt B.mixed B.earlier hm (.inr (by omega)) q
 simp (disch:=first|decide|omega) only[J2]
 refine A3 ((decide (1<kind)&&decide (kind<5))&&decide ((m:Int)<41)) (fun Q' h'=>?_) ?_
 ·simp (disch:=first|decide|omega) only[Je,Jg,Jj,Jm,Jn,Cu,Be,Ag,Aj]
  split<;>(try split)<;>simp_all
 split
 ·simp (disch:=first|decide|omega) only[Jg,Jp,Jw,Jx,J0,J2,J3,Ag,Aj,Bf,true_and,B.anyRows]
  exact Sz B.cellAt B.mixed B.anyRows hm q
 simp (disch:=first|decide|omega) only[J2]
 refine A3 (decide (kind=5)) (fun Q' h'=>?_) ?_
 ·simp (disch:=first|decide|omega) only[Je,Jg,Jm,Ck,Ag,Aj];exact h'
 split
 ·simp (disch:=first|decide|omega) only[Jg,Jp,Jw,Jx,J0,J2,J3,Ag,Aj,Bf,true_and,B.banded]
  exact W9 B.banded hm q
 simp (disch:=first|decide|omega) only[J2]
 refine A3 (decide (kind=6)) (fun Q' h'=>?_) ?_
 ·simp (disch:=first|decide|omega) only[Je,Jg,Jm,Ck,Ag,Aj];exact h'
 split
 ·simp (disch:=first|decide|omega) only[Jg,Jp,Jw,Jx,J0,J2,J3,Ag,Aj,Bf,true_and,B.ringed]
  exact Xb B.ringed hm q
 simp (disch:=first|decide|omega) only[J2]
 refine A3 (decide (kind=7)) (fun Q' h'=>?_) ?_
 ·simp (disch:=first|decide|omega) only[Je,Jg,Jm,Ck,Ag,Aj];exact h'
 split
 ·simp (disch:=first|decide|omega) only[Jg,Jp,Jw,Jx,J0,J2,J3,Ag,Aj,Bf,true_and,B.hubbed]
  exact Xa B.hubbed hm q
 simp (disch:=first|decide|omega) only[J2,Ag,Aj]
 exact O1 B.cellAt B.mixed B.earlier hm (.inl rfl) q
set_option linter.all false
variable {G:Ap} {n:Nat} {H H':AH} {Q:Ad} {E:EP} {C:CS} {ρ:Ao}
theorem Am{o:O}(q:∀a H',Av H H'->H a=none->H' a=some o->Q (.ref a) H'):A5 o H Q:=fun a ha=>q a _ (Av.upd ha) ha Ae
noncomputable def F3(p:Int×Int):O:= .tuple [.int p.1,.int p.2]
noncomputable def Ah(H:AH)(as:List Nat)(ps:List (Int×Int)):Prop:=as.map H=ps.map fun p=>some (F3 p)
theorem Ah.len{as:List Nat}{ps:List (Int×Int)}(h:Ah H as ps):as.length=ps.length:=by
 have:=congrArg List.length h
 simpa using this
theorem Ah.at_{as:List Nat}{ps:List (Int×Int)}{i x:Nat}{p:Int×Int}(h:Ah H as ps)(h1:as[i]? = some x)(h2:ps[i]? = some p):H x=some (F3 p):=by
 have:=congrArg (fun l=>l[i]?) h
 simpa[h1,h2]using this
theorem Ah.ex{as:List Nat}{ps:List (Int×Int)}{i x:Nat}(h:Ah H as ps)(h1:as[i]? = some x):∃p,ps[i]? = some p/\H x=some (F3 p):=by
 have hl:=(List.getElem?_eq_some_iff.mp h1).1
 rw[h.len]at hl
 exact⟨_,List.getElem?_eq_getElem hl,h.at_ h1 (List.getElem?_eq_getElem hl)⟩
theorem Ah.ext'{as:List Nat}{ps:List (Int×Int)}(h:Ah H as ps)(e:∀x∈as,∀o,H x=some o->H' x=some o):Ah H' as ps:=by
 unfold Ah at *
 rw[<-h]
 refine List.map_congr_left fun x hx=>?_
 obtain⟨i,hi⟩:=List.mem_iff_getElem?.mp hx
 obtain⟨p,_,hp⟩:=Ah.ex (H:=H) (ps:=ps) h hi
 rw[hp]
 exact e x hx _ hp
theorem Ah.ext{as:List Nat}{ps:List (Int×Int)}(h:Ah H as ps)(e:Av H H'):Ah H' as ps:=h.ext' fun x _ o q=>e x o q
theorem Ah.app{as bs:List Nat}{ps qs:List (Int×Int)}(h:Ah H as ps)(h':Ah H bs qs):Ah H (as++bs) (ps++qs):=by
 unfold Ah at *
 rw[List.map_append,List.map_append,h,h']
theorem Ah.take{as:List Nat}{ps:List (Int×Int)}(k:Nat)(h:Ah H as ps):Ah H (as.take k) (ps.take k):=by
 unfold Ah at *
 rw[List.map_take,List.map_take,h]
theorem Ah.drop{as:List Nat}{ps:List (Int×Int)}(k:Nat)(h:Ah H as ps):Ah H (as.drop k) (ps.drop k):=by
 unfold Ah at *
 rw[List.map_drop,List.map_drop,h]
theorem Ah.one{x:Nat}{p:Int×Int}(h:H x=some (F3 p)):Ah H [x] [p]:=by
 unfold Ah;simp[h]
theorem Le{a:Nat}{xs:List V}{l u:V}{l' u':Option Int}(h:H a=some (.list xs))(hl:bound? l=some l')(hu:bound? u=some u'):F6 (.ref a) l u .none H Q=A5 (.list (cut xs l' u')) H Q:=by
 delta F6;dsimp only;delta O5;rw[hl];(try dsimp only[Ff]);rw[hu];(try dsimp only[Ff]);rw[h];rfl
theorem D3:bound? .none=some none:=rfl
theorem Ey{k:Int}:bound? (.int k)=some (some k):=rfl
theorem Xc{xs:List V}{k:Int}(h:0<=k):cut xs none (some k)=xs.take k.toNat:=by
 unfold cut Cs
 simp only[if_neg (show ¬k<0 by(first|lia|omega)),List.drop_zero]
 rcases Nat.le_total k.toNat xs.length with q|q
 ·rw[Nat.min_eq_left q]
 ·rw[Nat.min_eq_right q,List.take_of_length_le q,List.take_of_length_le (Nat.le_refl _)]
theorem Xd{xs:List V}{k:Int}(h:0<=k):cut xs (some k) none=xs.drop k.toNat:=by
 unfold cut Cs
 simp only[if_neg (show ¬k<0 by omega),List.take_length]
 rcases Nat.le_total k.toNat xs.length with q|q
 ·rw[Nat.min_eq_left q]
 ·rw[Nat.min_eq_right q,List.drop_of_length_le q,List.drop_of_length_le (Nat.le_refl _)]
theorem Y3{xs:List V}{k l:Int}(h:0<=k)(h':0<=l):cut xs (some k) (some l)=(xs.take l.toNat).drop k.toNat:=by
 unfold cut Cs
 simp only[if_neg (show ¬k<0 by omega),if_neg (show ¬l<0 by omega)]
 have e:xs.take (min l.toNat xs.length)=xs.take l.toNat:=by
  rcases Nat.le_total l.toNat xs.length with q|q
  ·rw[Nat.min_eq_left q]
  ·rw[Nat.min_eq_right q,List.take_of_length_le q,List.take_of_length_le (Nat.le_refl _)]
 rw[e]
 rcases Nat.le_total k.toNat xs.length with q|q
 ·rw[Nat.min_eq_left q]
 ·rw[Nat.min_eq_right q,List.drop_of_length_le (by simp;omega),List.drop_of_length_le (by simp;omega)]
theorem Kd{a b:Nat}{xs ys:List V}(h:H a=some (.list xs))(h':H b=some (.list ys))(hl:xs.length+ys.length<=1048576):Fp .Add (.ref a) (.ref b) H Q=A5 (.list (xs++ys)) H Q:=by
 delta Fp;(try dsimp only);(first|delta S7|delta S8|skip);(try dsimp only[Bl,A0]);rw[h];(try dsimp only[Ob]);rw[h'];(try dsimp only[Ob])
 exact propext ⟨fun h=>h.2,fun q=>⟨hl,q⟩⟩
theorem Aaw{a:Nat}{xs:List V}{k:Int}(h:H a=some (.list xs))(h0:0<=k)(h1:k<=1000)(hl:xs.length*k.toNat<=1048576):Fp .Mult (.ref a) (.int k) H Q=A5 (.list (List.replicate k.toNat xs).flatten) H Q:=by
 delta Fp;(try dsimp only);(first|delta S7|delta S8|skip);(try dsimp only[Bl,A0]);rw[h];(try dsimp only[Ob])
 exact propext ⟨fun h=>h.2,fun q=>⟨⟨h0,h1,hl⟩,q⟩⟩
noncomputable def Tv(ns:List Int)(m:Nat)(rows:List (List Int))(p:Int×Int):Prop:=
 (Rm fun(k:Nat) (r:List Int) (one:Int)=>Go (rows[k]? = some r) (one∈r) ((p=(A6 ns m k,A6 ns m one)\/p=(A6 ns m one,A6 ns m k))))
noncomputable def Xe(ns:List Int)(m:Nat)(rows:List (List Int))(ps:List (Int×Int)):Prop:=
 (∀p∈ps,Tv ns m rows p)/\∀(k:Nat) (r:List Int) (one:Int),rows[k]? = some r->one∈r->(A6 ns m k,A6 ns m one)∈ps\/(A6 ns m one,A6 ns m k)∈ps
structure TB(H H':AH)(t:Nat)(as:List Nat)(ps:List (Int×Int)):Prop where
 ext:Av H H'
 new:H t=none
 at_:H' t=some (.list (as.map V.ref))
 prs:Ah H' as ps
 ne:∀x∈as,x≠t
theorem TB.snoc{t x:Nat}{as:List Nat}{ps:List (Int×Int)}{p:Int×Int}{H₁:AH}(b:TB H H' t as ps)(e:Av H' H₁)(hn:H' x=none)(hx:H₁ x=some (F3 p)):TB H (upd H₁ t (.list (as.map V.ref ++ [.ref x]))) t (as ++ [x]) (ps ++ [p]):=by
 have hxt:x≠t:=fun q=>by rw[q,b.at_]at hn;cases hn
 have hne:∀y∈as ++ [x],y≠t:=fun y hy=>by
  rcases List.mem_append.mp hy with hy|hy
  ·exact b.ne y hy
  ·simp at hy;rw[hy];exact hxt
 refine⟨(b.ext.trans e).upd' b.new,b.new,by rw[Ae];simp,((b.prs.ext e).app (Ah.one hx)).ext' fun y hy o q=>by rw[upd_ne (hne y hy)];exact q,hne⟩
theorem Aax(B:Ht G){ns:List Int}{m a:Nat}{as:List Nat}{rows:List (List Int)}(hm:m<=60)(hA:H a=some (.list (as.map V.ref)))(hR:Dw H as rows)(hW:Wf m rows)
 (q:∀t ts ps H',Av H H'->H t=none->H' t=some (.list (ts.map V.ref))->Ah H' ts ps->Xe ns m rows ps->ps.length<=4000->Q (.ref t) H') :
 Ab G (n+3) "_law_ties" [.script ns,.int m,.ref a] H Q E:=by
 refine Al B.ties rfl ?_
 simp (disch:=first|decide|omega) only[Jc,Je,Jg,Jl,Jt,Ju,Jw,Jy,J0,J2,J3,List.map,Br,Bs,List.replicate,Ba,Bb,Mu]
 intro t ht
 rw[Bm,Bh]
 simp (disch:=first|decide|omega) only[Jg,Jw,Jx,Cm,Ag,Aj]
 refine Bj (fun i ρ H'=>(Ex5 fun r4 r5 r6 ts ps=>Xx (ρ = [some (.script ns),some (.int m),some (.ref a),some (.ref t),r4,r5,r6]) (TB H H' t ts ps) (ps.length<=60*i) ((∀p∈ps,Tv ns m rows p)) (∀(k:Nat) (r:List Int) (one:Int),k<i->rows[k]? = some r->one∈r->(A6 ns m k,A6 ns m one)∈ps\/(A6 ns m one,A6 ns m k)∈ps)))
  ⟨none,none,none,[],[],rfl,⟨Av.upd ht,ht,Ae,rfl,fun _ h=>absurd h List.not_mem_nil⟩,Nat.le_refl _,fun _ h=>absurd h List.not_mem_nil,by(first|lia|omega)⟩ ?_ ?_
 ·rintro i ρ H' K hi hP4 hK
  refine Aa fun nY=>?_
  obtain⟨r4,r5,r6,ts,ps,rfl,b,hlen,htie,hall⟩:=hP4
  have hi':i<m:=hi
  refine nY ?_;clear nY
  have hil:i<rows.length:=by rw[hW.1];exact hi'
  have hial:i<as.length:=by rw[hR.1];exact hil
  have hxi:as[i]? = some (as[i]):=List.getElem?_eq_getElem hial
  have hri:rows[i]? = some (rows[i]):=List.getElem?_eq_getElem hil
  generalize as[i]=xi at hxi
  generalize rows[i]=ri at hri
  have hok:=hW.2 i ri hri
  have hLi:LI H xi ri:=hR.2 i xi ri hxi hri
  have hsub:(as.map V.ref)[(i:Int).toNat]? = some (.ref xi):=by rw[Int.toNat_natCast,List.getElem?_map,hxi];rfl
  simp (disch:=first|decide|omega) only[J2,J3,Ba,Bb,Ii]
  rw[Bm,C2]
  simp (disch:=first|decide|omega) only[Jg,Js,Ag,Aj]
  rw[A1 (b.ext _ _ hA) (by(first|lia|omega)) hsub,C1 (b.ext _ _ hLi)]
  refine Ia (fun j ρ H'=>(Ex4 fun r5 r6 ts ps=>Z0 (ρ = [some (.script ns),some (.int m),some (.ref a),some (.ref t),some (.int i),r5,r6]) (TB H H' t ts ps) (ps.length<=60*i+j) ((∀p∈ps,Tv ns m rows p)) ((∀(k:Nat) (r:List Int) (one:Int),k<i->rows[k]? = some r->one∈r->(A6 ns m k,A6 ns m one)∈ps\/(A6 ns m one,A6 ns m k)∈ps)) (∀one∈ri.take j,(A6 ns m i,A6 ns m one)∈ps\/(A6 ns m one,A6 ns m i)∈ps)))
   ⟨_,_,ts,ps,rfl,b,hlen,htie,hall,fun _ h=>absurd h List.not_mem_nil⟩ ?_ ?_ ?_
  ·rintro j ρ H' hP5
   refine Aa fun nY=>?_
   obtain⟨r5,r6,ts,ps,rfl,b,_⟩:=hP5
   refine nY ?_;clear nY
   exact b.ext _ _ hLi
  ·rintro j v ρ H' K' hv hP6 hK'
   refine Aa fun nY=>?_
   obtain⟨r5,r6,ts,ps,rfl,b,hlen,htie,hall,hj⟩:=hP6
   rw[List.getElem?_map]at hv
   obtain⟨one,hone,rfl⟩:=Option.map_eq_some_iff.mp hv
   have hmem:=List.mem_of_getElem? hone
   have hone2:=hok.2 one hmem
   have hjl:=(List.getElem?_eq_some_iff.mp hone).1
   have hrl:=hok.1
   refine nY ?_;clear nY
   simp (disch:=first|decide|omega) only[Jg,Jp,Jv,Jw,Jx,Jy,Jz,J2,J3,Ag,Aj,Ba,Bb,Bf,true_and,Ih,B.name]
   refine W8 B.cellAt B.name (by(first|lia|omega)) (by(first|lia|omega)) ?_
   try simp (disch:=first|decide|omega) only[Jb,Jc,Jd,Je,Jf,Jg,Jh,Ji,Jj,Jk,Jl,Jm,Jn,Jo,Jp,Jq,Jr,Js,Jt,Ju,Jv,Jw,Jx,Jy,Jz,J0,J1,J2,J3,J4,J5,J6,J7,J8,J9,Cu,Cz,Cv,Dl,Ck,C0,Dz,Dm,Dr,Ds,D0,D1,Be,Dn,Du,Dt,Cm,D2,Dv,Dp,List.map,Br,Bs,Ag,Aj,List.replicate,Ba,Bb,Bf,true_and]
   refine W8 B.cellAt B.name (by(first|lia|omega)) (by(first|lia|omega)) ?_
   try simp (disch:=first|decide|omega) only[Jb,Jc,Jd,Je,Jf,Jg,Jh,Ji,Jj,Jk,Jl,Jm,Jn,Jo,Jp,Jq,Jr,Js,Jt,Ju,Jv,Jw,Jx,Jy,Jz,J0,J1,J2,J3,J4,J5,J6,J7,J8,J9,Cu,Cz,Cv,Dl,Ck,C0,Dz,Dm,Dr,Ds,D0,D1,Be,Dn,Du,Dt,Cm,D2,Dv,Dp,List.map,Br,Bs,Ag,Aj,List.replicate,Ba,Bb,Bf,true_and]
   generalize hnk:A6 ns m i=nk
   generalize hno:A6 ns m one=no
   intro x hx
   have done:∀(y:Nat) (p:Int×Int) (H₁:AH),Av H' H₁->H' y=none->H₁ y=some (F3 p)->(p=(nk,no)\/p=(no,nk))->
    Bt G (Ab G (n+2)) [.expr (.lm .append (.var 3) [(.var 6)])] [some (.script ns),some (.int m),some (.ref a),some (.ref t),some (.int i),some (.int one),some (.ref y)] H₁ K' Q E:=by
    intro y p H₁ e hy hp hpp
    have ht1:=e _ _ b.at_
    have hl:(ts.map V.ref).length<1048576:=by rw[List.length_map,b.prs.len];(first|lia|omega)
    simp (disch:=first|decide|omega) only[Jg,Jw,Jx,Jz,J2,J3,Ag,Aj,true_and,Bq,Ej ht1,Df ht1 hl]
    refine hK' _ _ ⟨_,_,_,_,rfl,b.snoc e hy hp,by simp;(first|lia|omega),?_,?_,?_⟩
    ·intro p' hp'
     refine Aa fun nY=>?_
     rcases List.mem_append.mp hp' with h|h
     ·refine nY ?_;clear nY
      exact htie p' h
     ·simp at h;subst h
      refine nY ?_;clear nY
      refine⟨i,ri,one,hri,hmem,?_⟩
      rw[hnk,hno];exact hpp
    ·intro k r o h1 h2 h3
     refine Aa fun nY=>?_
     rcases hall k r o h1 h2 h3 with h|h
     ·refine nY ?_;clear nY
      exact .inl (List.mem_append_left _ h)
     ·refine nY ?_;clear nY
      exact .inr (List.mem_append_left _ h)
    ·intro o ho
     rw[List.take_add_one,hone]at ho
     refine Aa fun nY=>?_
     rcases List.mem_append.mp ho with h|h
     ·rcases hj o h with h|h
      ·refine nY ?_;clear nY
       exact .inl (List.mem_append_left _ h)
      ·refine nY ?_;clear nY
       exact .inr (List.mem_append_left _ h)
     ·simp at h;subst h
      refine nY ?_;clear nY
      rw[hnk,hno]
      refine Aa fun nY=>?_
      rcases hpp with rfl|rfl
      ·refine nY ?_;clear nY
       exact .inl (List.mem_append_right _ List.mem_cons_self)
      ·refine nY ?_;clear nY
       exact .inr (List.mem_append_right _ List.mem_cons_self)
   refine A3 (decide (((i:Int)+one)%2=1)) (fun Q' h'=>?_) ?_
   ·simp (disch:=first|decide|omega) only[Je,Jg,Jl,Jm,J6,J8,Ck,Ag,Aj];exact h'
   split
   ·simp (disch:=first|decide|omega) only[Je,Jg,Js,Jv,Jw,Jx,Jy,J2,J3,Ag,Aj,Ba,Bb]
    rw[Fm (x:= .int no) Ae (by decide) rfl]
    try simp (disch:=first|decide|omega) only[Jb,Jc,Jd,Je,Jf,Jg,Jh,Ji,Jj,Jk,Jl,Jm,Jn,Jo,Jp,Jq,Jr,Js,Jt,Ju,Jv,Jw,Jx,Jy,Jz,J0,J1,J2,J3,J4,J5,J6,J7,J8,J9,Cu,Cz,Cv,Dl,Ck,C0,Dz,Dm,Dr,Ds,D0,D1,Be,Dn,Du,Dt,Cm,D2,Dv,Dp,List.map,Br,Bs,Ag,Aj,List.replicate,Ba,Bb,Bf,true_and]
    rw[Fm (x:= .int nk) Ae (by decide) rfl]
    intro y hy
    exact done y (no,nk) _ ((Av.upd hx).trans (Av.upd hy)) ((Av.upd hx).isNone hy) Ae (.inr rfl)
   ·simp (disch:=first|decide|omega) only[J2]
    exact done x (nk,no) _ (Av.upd hx) hx Ae (.inl rfl)
  ·rintro ρ H' hP7
   refine Aa fun nY=>?_
   obtain⟨r5,r6,ts,ps,rfl,b,hlen,htie,hall,hj⟩:=hP7
   refine nY ?_;clear nY
   refine hK _ _ ⟨_,_,_,ts,ps,rfl,b,?_,htie,?_⟩
   ·rw[List.length_map]at hlen
    have:=hok.1
    (first|lia|omega)
   ·intro k r one h1 h2 h3
    refine Aa fun nY=>?_
    by_cases hki:k=i
    ·subst hki
     rw[hri]at h2
     cases h2
     refine nY ?_;clear nY
     refine hj one ?_
     rw[List.length_map,List.take_of_length_le (Nat.le_refl _)];exact h3
    ·refine nY ?_;clear nY
     exact hall k r one (by(first|lia|omega)) h2 h3
 ·rintro ρ H' hP8
  refine Aa fun nY=>?_
  obtain⟨r4,r5,r6,ts,ps,rfl,b,hlen,htie,hall⟩:=hP8
  refine nY ?_;clear nY
  simp (disch:=first|decide|omega) only[Ag,Aj]
  have hlen2:ts.length<=3600:=by
   rw[b.prs.len]
   simp only[Int.toNat_natCast]at hlen
   (first|lia|omega)
  rw[Ar,C2]
  simp (disch:=first|decide|omega) only[Jc,Je,Jg,Jt,J4,Br,Bs,Ag,Aj,List.replicate]
  rw[Le b.at_ D3 Ey,Xc (by decide)]
  refine Am fun s1 H₁ ets1 _ hs1v=>?_
  (try dsimp only)
  rw[C1 hs1v]
  have p1:=(b.prs.take 3).ext ets1
  refine⟨by simp[B6];(first|lia|omega),?_⟩
  have hat1:=ets1 _ _ b.at_
  refine Cd (k:=0) (fun j acc H₂=>(Li fun us=>Go (acc=us.map V.ref) (Av H₁ H₂) (Ah H₂ us (((ps.take 3).take j).map fun p=>(p.2,p.1))))) ⟨[],rfl,Av.refl,rfl⟩ ?_ ?_
  ·rintro j x acc H₂ K hx hP9 hK
   refine Aa fun nY=>?_
   obtain⟨us,rfl,e,hp⟩:=hP9
   rw[List.getElem?_map]at hx
   obtain⟨v,hv,rfl⟩:=Option.map_eq_some_iff.mp hx
   rw[<-List.map_take,List.getElem?_map]at hv
   obtain⟨y,hy,rfl⟩:=Option.map_eq_some_iff.mp hv
   obtain⟨p,hpj,hpy⟩:=p1.ex hy
   refine nY ?_;clear nY
   refine⟨e _ _ hs1v,_,rfl,?_⟩
   simp (disch:=first|decide|omega) only[Je,Jg,Js,Jv,Jw,Jx,Ag,Ij]
   rw[Fm (x:= .int p.2) (e _ _ hpy) (by decide) rfl]
   try simp (disch:=first|decide|omega) only[Jb,Jc,Jd,Je,Jf,Jg,Jh,Ji,Jj,Jk,Jl,Jm,Jn,Jo,Jp,Jq,Jr,Js,Jt,Ju,Jv,Jw,Jx,Jy,Jz,J0,J1,J2,J3,J4,J5,J6,J7,J8,J9,Cu,Cz,Cv,Dl,Ck,C0,Dz,Dm,Dr,Ds,D0,D1,Be,Dn,Du,Dt,Cm,D2,Dv,Dp,List.map,Br,Bs,Ag,Aj,List.replicate,Ba,Bb,Bf,true_and]
   rw[Fm (x:= .int p.1) (e _ _ hpy) (by decide) rfl]
   refine Am fun z H₃ e3 _ v3=>?_
   refine hK _ _ ⟨us ++ [z],by simp,e.trans e3,?_⟩
   rw[Nat.zero_add,List.take_add_one,hpj,Option.toList_some,List.map_append]
   rw[Nat.zero_add]at hp
   exact(hp.ext e3).app (Ah.one (p:=(p.2,p.1)) v3)
  ·rintro acc H₂ hP10
   refine Aa fun nY=>?_
   obtain⟨us,rfl,e,hp⟩:=hP10
   refine nY ?_;clear nY
   refine⟨e _ _ hs1v,?_⟩
   have hul:us.length<=3:=by
    rw[hp.len];simp;(first|lia|omega)
   have eA:=ets1.trans e
   refine Am fun u Hu eu _ vu=>?_
   (try dsimp only)
   rw[Kd ((eA.trans eu) _ _ b.at_) vu (by simp;(first|lia|omega))]
   refine Am fun s2 H₃ e2 _ v2=>?_
   (try dsimp only);(try simp (disch:=first|decide|omega) only[Jb,Jc,Jd,Je,Jf,Jg,Jh,Ji,Jj,Jk,Jl,Jm,Jn,Jo,Jp,Jq,Jr,Js,Jt,Ju,Jv,Jw,Jx,Jy,Jz,J0,J1,J2,J3,J4,J5,J6,J7,J8,J9,Cu,Cz,Cv,Dl,Ck,C0,Dz,Dm,Dr,Ds,D0,D1,Be,Dn,Du,Dt,Cm,D2,Dv,Dp,List.map,Br,Bs,Ag,Aj,List.replicate,Ba,Bb,Bf,true_and])
   have e3:=(eA.trans eu).trans e2
   rw[Le (e3 _ _ b.at_) Ey Ey,Y3 (by decide) (by decide)]
   refine Am fun s3 H₄ e4 _ v4=>?_
   (try dsimp only);(try simp (disch:=first|decide|omega) only[Jb,Jc,Jd,Je,Jf,Jg,Jh,Ji,Jj,Jk,Jl,Jm,Jn,Jo,Jp,Jq,Jr,Js,Jt,Ju,Jv,Jw,Jx,Jy,Jz,J0,J1,J2,J3,J4,J5,J6,J7,J8,J9,Cu,Cz,Cv,Dl,Ck,C0,Dz,Dm,Dr,Ds,D0,D1,Be,Dn,Du,Dt,Cm,D2,Dv,Dp,List.map,Br,Bs,Ag,Aj,List.replicate,Ba,Bb,Bf,true_and])
   rw[Kd (e4 _ _ v2) v4 (by simp;(first|lia|omega))]
   refine Am fun s4 H₅ e5 _ v5=>?_
   (try dsimp only);(try simp (disch:=first|decide|omega) only[Jb,Jc,Jd,Je,Jf,Jg,Jh,Ji,Jj,Jk,Jl,Jm,Jn,Jo,Jp,Jq,Jr,Js,Jt,Ju,Jv,Jw,Jx,Jy,Jz,J0,J1,J2,J3,J4,J5,J6,J7,J8,J9,Cu,Cz,Cv,Dl,Ck,C0,Dz,Dm,Dr,Ds,D0,D1,Be,Dn,Du,Dt,Cm,D2,Dv,Dp,List.map,Br,Bs,Ag,Aj,List.replicate,Ba,Bb,Bf,true_and])
   have e35:=(e3.trans e4).trans e5
   rw[Le (e35 _ _ b.at_) D3 Ey,Xc (by decide)]
   refine Am fun s5 H₆ e6 _ v6=>?_
   (try dsimp only);(try simp (disch:=first|decide|omega) only[Jb,Jc,Jd,Je,Jf,Jg,Jh,Ji,Jj,Jk,Jl,Jm,Jn,Jo,Jp,Jq,Jr,Js,Jt,Ju,Jv,Jw,Jx,Jy,Jz,J0,J1,J2,J3,J4,J5,J6,J7,J8,J9,Cu,Cz,Cv,Dl,Ck,C0,Dz,Dm,Dr,Ds,D0,D1,Be,Dn,Du,Dt,Cm,D2,Dv,Dp,List.map,Br,Bs,Ag,Aj,List.replicate,Ba,Bb,Bf,true_and])
   rw[Aaw v6 (by decide) (by decide) (by simp;(first|lia|omega))]
   refine Am fun s6 H₇ e7 _ v7=>?_
   (try dsimp only);(try simp (disch:=first|decide|omega) only[Jb,Jc,Jd,Je,Jf,Jg,Jh,Ji,Jj,Jk,Jl,Jm,Jn,Jo,Jp,Jq,Jr,Js,Jt,Ju,Jv,Jw,Jx,Jy,Jz,J0,J1,J2,J3,J4,J5,J6,J7,J8,J9,Cu,Cz,Cv,Dl,Ck,C0,Dz,Dm,Dr,Ds,D0,D1,Be,Dn,Du,Dt,Cm,D2,Dv,Dp,List.map,Br,Bs,Ag,Aj,List.replicate,Ba,Bb,Bf,true_and])
   rw[Kd ((e6.trans e7) _ _ v5) v7 (by simp;(first|lia|omega))]
   refine Am fun s7 H₈ e8 n8 v8=>?_
   have e7a:=(e35.trans e6).trans e7
   have eAll:=e7a.trans e8
   have hn7:H s7=none:=b.ext.isNone (e7a.isNone n8)
   have P:=b.prs.ext eAll
   have P':=hp.ext ((((((eu.trans e2).trans e4).trans e5).trans e6).trans e7).trans e8)
   refine q s7 (ts++us++(ts.take 4).drop 1++(ts.take 1++ts.take 1)) (ps++_++(ps.take 4).drop 1++(ps.take 1++ps.take 1)) _ (b.ext.trans eAll) hn7 ?_ (((P.app P').app ((P.take 4).drop 1)).app ((P.take 1).app (P.take 1))) ⟨?_,?_⟩ ?_
   ·rw[v8]
    simp[List.replicate,List.map_take]
   ·intro p hp
    have sub:∀p,p∈ps->Tv ns m rows p:=htie
    simp only[List.mem_append]at hp
    refine Aa fun nY=>?_
    rcases hp with((h|h)|h)|(h|h)
    ·refine nY ?_;clear nY
     exact htie p h
    ·obtain⟨p',h',rfl⟩:=List.mem_map.mp h
     obtain⟨k,r,one,h1,h2,h3⟩:=htie p' (List.mem_of_mem_take (List.mem_of_mem_take h'))
     refine nY ?_;clear nY
     refine⟨k,r,one,h1,h2,?_⟩
     refine Aa fun nY=>?_
     rcases h3 with rfl|rfl
     ·refine nY ?_;clear nY
      exact .inr rfl
     ·refine nY ?_;clear nY
      exact .inl rfl
    ·refine nY ?_;clear nY
     exact htie p (List.mem_of_mem_take (List.mem_of_mem_drop h))
    ·refine nY ?_;clear nY
     exact htie p (List.mem_of_mem_take h)
    ·refine nY ?_;clear nY
     exact htie p (List.mem_of_mem_take h)
   ·intro k r one h1 h2
    have hk:k<rows.length:=(List.getElem?_eq_some_iff.mp h1).1
    rw[hW.1]at hk
    refine Aa fun nY=>?_
    rcases hall k r one hk h1 h2 with h|h
    ·refine nY ?_;clear nY
     exact .inl (by simp[h])
    ·refine nY ?_;clear nY
     exact .inr (by simp[h])
   ·have:=b.prs.len
    have h8:=hp.len
    simp only[List.length_append,List.length_take,List.length_drop,<-h8]
    (first|lia|omega)
set_option linter.all false
/-! sorting -/
theorem El(x:Int)(l:List Int):(Mc x l).Perm (x::l):=by
 induction l with
 | nil=>exact List.Perm.refl _
 | cons y r ih=>
   unfold Mc
   split
   ·exact List.Perm.refl _
   ·exact(ih.cons y).trans (List.Perm.swap x y r)
theorem Ca(l:List Int):(Cn l).Perm l:=by
 induction l with
 | nil=>exact List.Perm.refl _
 | cons x r ih=>exact(El x (Cn r)).trans (ih.cons x)
theorem Uy{x:Int}{l:List Int}:x∈Cn l↔x∈l:=(Ca l).mem_iff
theorem Pt(l:List Int):(Cn l).length=l.length:=(Ca l).length_eq
theorem Fa{x:Int}{l:List Int}(h:l.Pairwise (· <= ·)):(Mc x l).Pairwise (· <= ·):=by
 induction l with
 | nil=>simp[Mc]
 | cons y r ih=>
   unfold Mc
   split
   ·rename_i q
    refine List.pairwise_cons.mpr ⟨fun z hz=>?_,h⟩
    rcases List.mem_cons.mp hz with rfl|hz
    ·exact q
    ·have:=(List.pairwise_cons.mp h).1 z hz;(first|lia|omega)
   ·rename_i q
    refine List.pairwise_cons.mpr ⟨fun z hz=>?_,ih (List.pairwise_cons.mp h).2⟩
    rcases List.mem_cons.mp ((El x r).mem_iff.mp hz)with rfl|hz
    ·(first|lia|omega)
    ·exact(List.pairwise_cons.mp h).1 z hz
theorem Dd(l:List Int):(Cn l).Pairwise (· <= ·):=by
 induction l with
 | nil=>exact List.Pairwise.nil
 | cons x r ih=>exact Fa ih
theorem Xf{l:List Int}(h:l.Nodup):(Cn l).Pairwise (· < ·):=by
 have h1:=Dd l
 have h2:(Cn l).Nodup:=(Ca l).nodup_iff.mpr h
 have:=List.Pairwise.and h1 h2
 exact this.imp fun⟨a,b⟩=>by(first|lia|omega)
theorem Aay:∀ {l l':List Int},l.Pairwise (· < ·)->l'.Pairwise (· < ·)->(∀x,x∈l↔x∈l')->l=l':=by
 intro l
 induction l with
 | nil=>exact fun {l'} _ _ h=>by cases l' with
   | nil=>rfl
   | cons y _=>exact absurd ((h y).mpr List.mem_cons_self) List.not_mem_nil
 | cons x r ih=>exact fun {l'} h1 h2 h=>by cases l' with
   | nil=>exact absurd ((h x).mp List.mem_cons_self) List.not_mem_nil
   | cons y s=>
     have a1:=List.pairwise_cons.mp h1
     have a2:=List.pairwise_cons.mp h2
     have hxy:x=y:=(List.mem_cons.mp ((h x).mp List.mem_cons_self)).elim id fun q=>(List.mem_cons.mp ((h y).mpr List.mem_cons_self)).elim Eq.symm fun q'=>absurd (a2.1 x q) (Int.lt_asymm (a1.1 y q'))
     subst hxy
     exact congrArg _ (ih a1.2 a2.2 fun z=>⟨fun hz=>(List.mem_cons.mp ((h z).mp (List.mem_cons_of_mem _ hz))).elim (fun q=>absurd (q▸a1.1 z hz) (Int.lt_irrefl _)) id,fun hz=>(List.mem_cons.mp ((h z).mpr (List.mem_cons_of_mem _ hz))).elim (fun q=>absurd (q▸a2.1 z hz) (Int.lt_irrefl _)) id⟩)
theorem Xg{x:Int}{l:List Nat}:x∈Nt l↔0<=x/\x.toNat∈l:=by
 unfold Nt
 rw[List.mem_map]
 constructor
 ·rintro⟨a,h,rfl⟩;simpa using h
 ·rintro⟨h,h'⟩;exact⟨x.toNat,h',by(first|lia|omega)⟩
theorem Y4{m:Nat}(p:Nat->Bool):(Nt ((List.range m).filter p)).Pairwise (· < ·):=by
 unfold Nt
 rw[List.pairwise_map]
 exact(List.pairwise_lt_range.filter p).imp fun h=>by(first|lia|omega)
noncomputable def Bc(m:Nat)(A:Nat->Nat->Bool)(i:Nat):List Int:=Nt ((List.range m).filter (A i))
theorem Ke{m:Nat}{A:Nat->Nat->Bool}{i:Nat}{x:Int}:x∈Bc m A i↔0<=x/\x<m/\A i x.toNat=true:=by
 unfold Bc
 rw[Xg,List.mem_filter,List.mem_range]
 constructor
 ·rintro⟨h1,h2,h3⟩;exact⟨h1,by(first|lia|omega),h3⟩
 ·rintro⟨h1,h2,h3⟩;exact⟨h1,by(first|lia|omega),h3⟩
theorem D4{m:Nat}{A:Nat->Nat->Bool}{i:Nat}:(Bc m A i).length<=m:=by
 unfold Bc Nt
 rw[List.length_map]
 exact Nat.le_trans (List.length_filter_le _ _) (by simp)
theorem Ra{m:Nat}{A:Nat->Nat->Bool}{i:Nat}{l:List Int}(h:l.Nodup)(hm:∀x,x∈l↔0<=x/\x<m/\A i x.toNat=true):Cn l=Bc m A i:=
 Aay (Xf h) (Y4 _) fun x=>by rw[Uy,hm];exact Ke.symm
variable {G:Ap} {n:Nat} {H H':AH} {Q:Ad} {E:EP} {C:CS} {ρ:Ao}
structure F4(H H':AH)(a:Nat)(as:List Nat)(m:Nat)(f:Nat->O):Prop where
 ext:Av H H'
 new:H a=none
 at_:H' a=some (.list (as.map V.ref))
 len:as.length=m
 nodup:as.Nodup
 na:a∉as
 fr:∀x∈as,H x=none
 obj:∀(i x:Nat),as[i]? = some x->H' x=some (f i)
theorem Uz{as:List Nat}{i j x:Nat}(h:as.Nodup)(h1:as[i]? = some x)(h2:as[j]? = some x):i=j:=by
 obtain⟨a1,a2⟩:=List.getElem?_eq_some_iff.mp h1
 obtain⟨b1,b2⟩:=List.getElem?_eq_some_iff.mp h2
 have h':=List.pairwise_iff_getElem.mp h
 rcases Nat.lt_trichotomy i j with q|q|q
 ·exact absurd (a2.trans b2.symm) (h' i j a1 b1 q)
 ·exact q
 ·exact absurd (b2.trans a2.symm) (h' j i b1 a1 q)
theorem F4.set{a m i x:Nat}{as:List Nat}{f:Nat->O}(c:F4 H H' a as m f)(hx:as[i]? = some x)(o:O):F4 H (upd H' x o) a as m (fun j=>if j=i then o else f j):=by
 have hxm:=List.mem_of_getElem? hx
 have hxa:a≠x:=fun q=>c.na (q▸hxm)
 refine⟨c.ext.upd' (c.fr x hxm),c.new,by rw[upd_ne hxa];exact c.at_,c.len,c.nodup,c.na,c.fr,fun j y hy=>?_⟩
 by_cases hj:j=i
 ·subst hj
  rw[hx]at hy;cases hy
  rw[if_pos rfl,Ae]
 ·rw[if_neg hj,upd_ne (fun q=>hj (Uz c.nodup hy (by rw[q];exact hx)))]
  exact c.obj j y hy
theorem F4.get{a m i:Nat}{as:List Nat}{f:Nat->O}(c:F4 H H' a as m f)(hi:i<m):(Li fun x=>Go (as[i]? = some x) ((as.map V.ref)[i]? = some (.ref x)) (H' x=some (f i))):=by
 have h:i<as.length:=by rw[c.len];exact hi
 refine⟨as[i],List.getElem?_eq_getElem h,?_,c.obj i _ (List.getElem?_eq_getElem h)⟩
 rw[List.getElem?_map,List.getElem?_eq_getElem h];rfl
theorem F4.congr{a m:Nat}{as:List Nat}{f f':Nat->O}(c:F4 H H' a as m f)(h:∀i,i<m->f i=f' i):F4 H H' a as m f':=
 ⟨c.ext,c.new,c.at_,c.len,c.nodup,c.na,c.fr,fun i x hx=>by
  have:=(List.getElem?_eq_some_iff.mp hx).1
  rw[<-h i (by rw[<-c.len];exact this)];exact c.obj i x hx⟩
theorem Lf{m:Nat}{elt:Ao->AH->(Option V->AH->Prop)->Prop}{o:O}{K:Ad}{y:Option V}
 (step:∀i H' K,i<m->(∀x,H' x=none->K (some (.ref x)) (upd H' x o))->elt (some (.int i)::ρ) H' K)
 (fin:∀as H' a,H' a=none->F4 H (upd H' a (.list (as.map V.ref))) a as m (fun _=>o)->K (.ref a) (upd H' a (.list (as.map V.ref)))) :
 B9 (fun _=>True) (.one 0) elt (fun vs H=>A5 (.list vs) H K) ((List.range m).map fun(i:Nat)=> .v (.int i)) [] (y::ρ) H:=by
 refine Cd (k:=0) (fun i acc H'=>(Li fun as=>Z0 (acc=as.map V.ref) (Av H H') (as.length=i) (as.Nodup) ((∀x∈as,H x=none)) (∀x∈as,H' x=some o))) ⟨[],rfl,Av.refl,rfl,List.nodup_nil,fun _ h=>absurd h List.not_mem_nil,fun _ h=>absurd h List.not_mem_nil⟩ ?_ ?_
 ·rintro i x acc H' K' hx ⟨as,rfl,h1,h2,h3,h4,h5⟩ hK
  rw[List.getElem?_map]at hx
  obtain⟨j,hj,rfl⟩:=Option.map_eq_some_iff.mp hx
  obtain⟨hlt,he⟩:=List.getElem?_eq_some_iff.mp hj
  simp at hlt he
  subst he
  refine⟨trivial,_,rfl,step i H' K' hlt fun x hx0=>hK _ _ ⟨as ++ [x],by simp,h1.trans (Av.upd hx0),by simp[h2],?_,?_,?_⟩⟩
  ·rw[List.nodup_append]
   refine⟨h3,List.pairwise_singleton _ _,fun a ha b hb q=>?_⟩
   simp at hb
   subst hb q
   rw[h5 a ha]at hx0;cases hx0
  ·intro y hy
   rcases List.mem_append.mp hy with hy|hy
   ·exact h4 y hy
   ·simp at hy;subst hy;exact h1.isNone hx0
  ·intro y hy
   rcases List.mem_append.mp hy with hy|hy
   ·exact(Av.upd hx0) _ _ (h5 y hy)
   ·simp at hy;subst hy;exact Ae
 ·rintro acc H' ⟨as,rfl,h1,h2,h3,h4,h5⟩
  refine⟨trivial,fun a ha=>fin as H' a ha ?_⟩
  have hna:a∉as:=fun q=>by rw[h5 a q]at ha;cases ha
  exact⟨h1.trans (Av.upd ha),h1.isNone ha,Ae,by simpa using h2,h3,hna,h4,fun i x hx=>(Av.upd ha) _ _ (h5 x (List.mem_of_getElem? hx))⟩
theorem Ez{a:Nat}{as:List Nat}{ps:List (Int×Int)}{t u:Nat}{body:Ao->AH->(Ao->AH->Prop)->Prop}{N:Ao->AH->Prop}(I:Nat->Ao->AH->Prop)(h0:I 0 ρ H)(hg:∀i ρ H,I i ρ H->H a=some (.list (as.map V.ref))/\Ah H as ps)
 (step:∀i p ρ H K,ps[i]? = some p->I i ρ H->(∀ρ'' H'',I (i+1) ρ'' H''->K ρ'' H'')->body ((ρ.set t (some (.int p.1))).set u (some (.int p.2))) H K) (fin:∀ρ H,I ps.length ρ H->N ρ H) :
 Lk (fun H=>H a=some (.list (as.map V.ref))) (.two t u) body N ((as.map V.ref).map .v) ρ H:=by
 have hl:as.length=ps.length:=(hg _ _ _ h0).2.len
 refine Lb (k:=0) I h0 (fun i x ρ H K hx hI hK=>⟨(hg _ _ _ hI).1,?_⟩) fun ρ H hI=>⟨(hg _ _ _ hI).1,fin ρ H (by simpa[hl]using hI)⟩
 rw[List.getElem?_map,List.getElem?_map]at hx
 refine Aa fun nY=>?_
 obtain⟨v,hv,rfl⟩:=Option.map_eq_some_iff.mp hx
 obtain⟨x,hx',rfl⟩:=Option.map_eq_some_iff.mp hv
 obtain⟨p,hp,hpx⟩:=(hg _ _ _ hI).2.ex hx'
 refine nY ?_;clear nY
 show (match H x with|some (.tuple [x,y])=>body ((ρ.set t (some x)).set u (some y)) H K|_=>False)
 rw[hpx]
 exact step i p ρ H K hp (by simpa using hI) fun ρ'' H'' h=>hK ρ'' H'' (by simpa using h)
set_option linter.all false
variable {G:Ap} {n:Nat} {H H':AH} {Q:Ad} {E:EP} {C:CS} {ρ:Ao}
theorem Pu{g:Str}{v:V}(h:G.const g=some v):Ay G C (.glob g) ρ H Q E=Q v H:=by rw[Aw,h]
theorem Rb(y:Int)(l:List Int):Va (.int y) (l.map V.int)=some (decide (y∈l)):=by
 unfold Va
 induction l with
 | nil=>rfl
 | cons x r ih=>
   show (Rs ((r.map V.int).map fun z=>T7 z (.int y))).map (decide (x=y) || ·)=_
   rw[ih]
   simp only[Option.map_some,List.mem_cons]
   congr 1
   rw[show decide (x=y)=decide (y=x)from decide_eq_decide.mpr eq_comm]
   by_cases h:y=x<;>by_cases h':y∈r<;>simp[h,h']
theorem Aaz{y:Int}{a:Nat}{l:List Int}(h:LI H a l):Bz .In (.int y) (.ref a) H Q=Q (.bool (decide (y∈l))) H:=by
 unfold LI at h
 delta Bz;(try dsimp only);(try delta Qa);(try dsimp only[Bl]);rw[h];(try dsimp only[A0]);rw[Rb];(try dsimp only[Ff])
theorem Y5{y:Int}{a:Nat}{l:List Int}(h:LI H a l):Bz .NotIn (.int y) (.ref a) H Q=Q (.bool (!decide (y∈l))) H:=by
 unfold LI at h
 delta Bz;(try dsimp only);(try delta Qa);(try dsimp only[Bl]);rw[h];(try dsimp only[A0]);rw[Rb];(try dsimp only[Ff])
theorem Xh(l:List Int):ints? (l.map V.int)=some l:=by
 induction l with
 | nil=>rfl
 | cons x r ih=>exact(show ints? ((x::r).map V.int)=(ints? (r.map V.int)).map (x :: ·)from rfl).trans (by rw[ih];rfl)
theorem Y6{a:Nat}{l:List Int}(h:LI H a l)(hl:l.length<64):D7 .sorted [.ref a] H Q=A5 (.list ((Cn l).map V.int)) H Q:=by
 unfold LI at h
 delta D7;dsimp only;(first|delta Mr|delta Ix|delta Iy);(try dsimp only[Bl,A0,on0,Rr,X0]);rw[h];(try dsimp only[Ob,onD]);rw[Xh];(try dsimp only[Ob,Ff])
 exact propext ⟨fun h=>h.2,fun q=>⟨hl,q⟩⟩
theorem Y7{a:Nat}{es:List (Int×V)}(h:H a=some (.dict es))(hl:es.length<64):D7 .sorted [.ref a] H Q=A5 (.list ((Cn (es.map (·.1))).map V.int)) H Q:=by
 delta D7;dsimp only;(first|delta Mr|delta Ix|delta Iy);(try dsimp only[Bl,A0,on0,Rr,X0]);rw[h];(try dsimp only[Ob,onD])
 exact propext ⟨fun h=>h.2,fun q=>⟨hl,q⟩⟩
theorem Xi{a:Nat}{es:List (Int×V)}{k:Int}{v:V}{N:AH->Prop}(h:H a=some (.dict es))(hl:es.length<1048576):setItem (.ref a) (.int k) v H N=N (upd H a (.dict (Fo es k v))):=by
 delta setItem;(try dsimp only[Bl,A0]);rw[h];(try dsimp only)
 exact propext ⟨fun h=>h.2,fun q=>⟨hl,q⟩⟩
theorem O2(es:List (Int×V))(k:Int)(v:V):(Fo es k v).map (·.1)=if k∈es.map (·.1)then es.map (·.1)else es.map (·.1) ++ [k]:=by
 induction es with
 | nil=>simp[Fo]
 | cons e r ih=>
   obtain⟨k',v'⟩:=e
   unfold Fo
   by_cases h:k=k'
   ·subst h;simp
   ·rw[if_neg h,List.map_cons,ih]
    by_cases h':k∈r.map (·.1)
    ·rw[if_pos h',if_pos (by simp only[List.map_cons];exact List.mem_cons_of_mem _ h')];rfl
    ·rw[if_neg h',if_neg (by simp only[List.map_cons,List.mem_cons];rintro(q|q);exact h q;exact h' q)];rfl
noncomputable abbrev P7(ps:List (Int×Int))(x y:Int):Prop:=(x,y)∈ps\/(y,x)∈ps
noncomputable def Cr(ps:List (Int×Int))(i j:Nat):Bool:=decide (P7 ps i j)
noncomputable def Dk(m:Nat)(ps:List (Int×Int)):Prop:=∀p∈ps,(0<=p.1/\p.1<m)/\(0<=p.2/\p.2<m)/\p.1≠p.2
theorem P7.in_{m:Nat}{ps:List (Int×Int)}{x y:Int}(g:Dk m ps)(h:P7 ps x y):(0<=x/\x<m)/\(0<=y/\y<m)/\x≠y:=by
 rcases h with h|h
 ·exact g _ h
 ·have:=g _ h;exact⟨this.2.1,this.1,Ne.symm this.2.2⟩
theorem P7.symm{ps:List (Int×Int)}{x y:Int}(h:P7 ps x y):P7 ps y x:=Or.symm h
theorem E0{ps:List (Int×Int)}{t:Nat}{p:Int×Int}(h:ps[t]? = some p)(x y:Int):P7 (ps.take (t+1)) x y↔P7 (ps.take t) x y\/(x=p.1/\y=p.2)\/(x=p.2/\y=p.1):=by
 obtain⟨a,b⟩:=p
 unfold P7
 rw[List.take_add_one,h]
 simp only[Option.toList_some,List.mem_append,List.mem_singleton,Prod.mk.injEq]
 constructor
 ·rintro((h|h)|(h | ⟨h1,h2⟩))
  ·exact .inl (.inl h)
  ·exact .inr (.inl h)
  ·exact .inl (.inr h)
  ·exact .inr (.inr ⟨h2,h1⟩)
 ·rintro((h|h)|(h | ⟨h1,h2⟩))
  ·exact .inl (.inl h)
  ·exact .inr (.inl h)
  ·exact .inl (.inr h)
  ·exact .inr (.inr ⟨h2,h1⟩)
theorem Dk.take{m t:Nat}{ps:List (Int×Int)}(g:Dk m ps):Dk m (ps.take t):=fun p hp=>g p (List.mem_of_mem_take hp)
noncomputable def Dh(H:AH)(a m:Nat)(A:Nat->Nat->Bool):Prop:=(Li fun(as:List Nat)=>Go (H a=some (.list (as.map V.ref))) (as.length=m) (∀(i x:Nat),as[i]? = some x->LI H x (Bc m A i)))
theorem Dh.ext{a m:Nat}{A:Nat->Nat->Bool}(h:Dh H a m A)(e:Av H H'):Dh H' a m A:=by
 obtain⟨as,h1,h2,h3⟩:=h
 exact⟨as,e _ _ h1,h2,fun i x q=>(h3 i x q).ext e⟩
noncomputable def F5(H:AH)(w m:Nat)(A:Nat->Nat->Bool):Prop:=(Gx fun(d rs:Nat)=>Go (H w=some (.inst .web d)) (H d=some (.ns [(.many,.int m),(.rows,.ref rs)])) (Dh H rs m A))
theorem F5.ext{w m:Nat}{A:Nat->Nat->Bool}(h:F5 H w m A)(e:Av H H'):F5 H' w m A:=by
 refine Aa fun nY=>?_
 obtain⟨d,rs,h1,h2,h3⟩:=h
 refine nY ?_;clear nY
 exact⟨d,rs,e _ _ h1,e _ _ h2,h3.ext e⟩
theorem Lg{a:Nat}{as:List Nat}{row:Nat->List Int}{elt:Ao->AH->(Option V->AH->Prop)->Prop}{Q:List V->AH->Prop}{y:Option V}(hA:H a=some (.list (as.map V.ref)))
 (step:∀i x H₁ (K:Option V->AH->Prop),as[i]? = some x->Av H H₁->(∀b,H₁ b=none->K (some (.ref b)) (upd H₁ b (.list ((row i).map V.int))))->elt (some (.ref x)::ρ) H₁ K)
 (fin:∀(bs:List Nat) H₁,Av H H₁->bs.length=as.length->(∀(i x:Nat),bs[i]? = some x->LI H₁ x (row i))->Q (bs.map V.ref) H₁) :
 B9 (fun H'=>H' a=some (.list (as.map V.ref))) (.one 0) elt Q ((as.map V.ref).map .v) [] (y::ρ) H:=by
 refine Cd (k:=0) (fun j acc H₁=>(Li fun bs=>Rq (acc=bs.map V.ref) (Av H H₁) (bs.length=j) (∀(i x:Nat),bs[i]? = some x->LI H₁ x (row i)))) ⟨[],rfl,Av.refl,rfl,fun _ _ h=>absurd h.symm (Option.some_ne_none _)⟩ ?_ ?_
 ·rintro j x acc H₁ K hx ⟨bs,rfl,e,hl,hb⟩ hK
  rw[List.getElem?_map,List.getElem?_map]at hx
  obtain⟨v,hv,rfl⟩:=Option.map_eq_some_iff.mp hx
  obtain⟨x,hx',rfl⟩:=Option.map_eq_some_iff.mp hv
  refine⟨e _ _ hA,_,rfl,step j x H₁ K hx' e fun b hb0=>hK _ _ ⟨bs ++ [b],by simp,e.trans (Av.upd hb0),by simp[hl],fun i y hy=>?_⟩⟩
  cases Nat.lt_or_ge i bs.length with
  | inl q=>rw[List.getElem?_append_left q]at hy;exact(hb i y hy).ext (Av.upd hb0)
  | inr q=>
    rw[List.getElem?_append_right q]at hy
    have:i-bs.length=0:=by
     obtain⟨z,_⟩:=List.getElem?_eq_some_iff.mp hy
     simp at z;(first|lia|omega)
    rw[this]at hy
    simp at hy
    subst hy
    have:i=j:=by(first|lia|omega)
    subst this
    exact Ae
 ·rintro acc H₁ ⟨bs,rfl,e,hl,hb⟩
  exact⟨e _ _ hA,fin bs H₁ e (by simpa using hl) hb⟩
theorem Pv{m:Nat}{l:List Int}(h:l.Nodup)(hin:∀x∈l,0<=x/\x<m):l.length<=m:=by
 have:=Ra (A:=fun _ j=>decide ((j:Int)∈l)) (i:=0) (m:=m) h fun x=>by
  constructor
  ·intro hx
   have:=hin x hx
   exact⟨this.1,this.2,by simp only[decide_eq_true_eq];rwa[Int.toNat_of_nonneg this.1]⟩
  ·rintro⟨h1,h2,h3⟩
   simp only[decide_eq_true_eq]at h3
   rwa[Int.toNat_of_nonneg h1]at h3
 have h1:=Pt l
 have h2:= @D4 m (fun _ j=>decide ((j:Int)∈l)) 0
 rw[this]at h1
 (first|lia|omega)
theorem Tw{m i:Nat}{ps:List (Int×Int)}{l:List Int}(g:Dk m ps)(h:l.Nodup)(hl:∀y,y∈l↔P7 ps i y):Cn l=Bc m (Cr ps) i:=
 Ra h fun x=>by
  rw[hl]
  constructor
  ·intro h
   have:=h.in_ g
   refine⟨this.2.1.1,this.2.1.2,?_⟩
   unfold Cr
   rw[decide_eq_true_eq,Int.toNat_of_nonneg this.2.1.1];exact h
  ·rintro⟨h1,h2,h3⟩
   unfold Cr at h3
   rwa[decide_eq_true_eq,Int.toNat_of_nonneg h1]at h3
theorem Xj(B:Ht G){m t:Nat}{ts:List Nat}{ps:List (Int×Int)}(hm:m<=60)(hT:H t=some (.list (ts.map V.ref)))(hP:Ah H ts ps)(g:Dk m ps)
 (q:∀a H',Av H H'->H a=none->Dh H' a m (Cr ps)->Q (.ref a) H'):Ab G (n+1) "_law_near" [.int m,.ref t] H Q E:=by
 refine Al B.near rfl ?_
 simp (disch:=first|decide|omega) only[Jy,J0,J2,J3,List.map,Br,Bs,List.replicate,Ba,Bb,Mv]
 rw[Ar,Bh]
 simp (disch:=first|decide|omega) only[Jg,Ju,Jw,Jx,J4,Cm,Br,Bs,Ag,List.replicate]
 refine⟨by simp[B6];(first|lia|omega),Lf (o:= .list []) (fun i H' K hi hK=>?_) fun as H' a ha c=>?_⟩
 ·try simp (disch:=first|decide|omega) only[Jb,Jc,Jd,Je,Jf,Jg,Jh,Ji,Jj,Jk,Jl,Jm,Jn,Jo,Jp,Jq,Jr,Js,Jt,Ju,Jv,Jw,Jx,Jy,Jz,J0,J1,J2,J3,J4,J5,J6,J7,J8,J9,Cu,Cz,Cv,Dl,Ck,C0,Dz,Dm,Dr,Ds,D0,D1,Be,Dn,Du,Dt,Cm,D2,Dv,Dp,List.map,Br,Bs,Ag,Aj,List.replicate,Ba,Bb,Bf,true_and]
  exact fun x hx=>hK x hx
 rw[Bm,C2]
 simp (disch:=first|decide|omega) only[Jg,Ag,Aj]
 rw[C1 (c.ext _ _ hT)]
 refine Ez (ps:=ps) (fun j ρ H₁=>(Rm fun(r3 r4:Option V) (L:Nat->List Int)=>Go (ρ = [some (.int m),some (.ref t),some (.ref a),r3,r4]) (F4 H H₁ a as m (fun i=> .list ((L i).map V.int))) (∀i,i<m->(L i).Nodup/\∀y,y∈L i↔P7 (ps.take j) i y))) ?_ ?_ ?_ ?_
 ·exact⟨none,none,fun _=>[],rfl,c,fun i hi=>⟨List.nodup_nil,fun y=>by simp[P7]⟩⟩
 ·rintro i ρ H₁ ⟨r3,r4,L,rfl,c,hL⟩
  exact⟨c.ext _ _ hT,hP.ext c.ext⟩
 ·rintro j p ρ H₁ K hp ⟨r3,r4,L,rfl,c,hL⟩ hK
  have gp:=g p (List.mem_of_getElem? hp)
  obtain⟨x,y⟩:=p
  simp only at gp ⊢
  obtain⟨x1,hx1,hx2,hx3⟩:=c.get (i:=x.toNat) (by(first|lia|omega))
  have hLx:=hL x.toNat (by(first|lia|omega))
  have hLy:=hL y.toNat (by(first|lia|omega))
  have ex:((x.toNat:Nat):Int)=x:=by(first|lia|omega)
  have ey:((y.toNat:Nat):Int)=y:=by(first|lia|omega)
  simp (disch:=first|decide|omega) only[J2,J3,Ba,Bb,Ik]
  refine A3 (!decide (y∈L x.toNat)) (fun Q' h'=>?_) ?_
  ·simp (disch:=first|decide|omega) only[Jg,Jm,Js,Ag,Aj,A1 c.at_ gp.1.1 hx2,Y5 (show LI H₁ x1 (L x.toNat)from hx3)]
   exact h'
  split
  ·rename_i hh
   simp only[Bool.not_eq_true',decide_eq_false_iff_not]at hh
   have hnA:¬P7 (ps.take j) x y:=fun q=>hh ((hLx.2 y).mpr (by rw[ex];exact q))
   have hnx:x∉L y.toNat:=fun q=>hnA (by have:=(hLy.2 x).mp q;rw[ey]at this;exact this.symm)
   have hll:∀i,i<m->((L i).map V.int).length<1048576:=fun i hi=>by
    rw[List.length_map]
    have:=Pv (m:=m) (hL i hi).1 fun z hz=>((((hL i hi).2 z).mp hz).in_ g.take).2.1
    (first|lia|omega)
   simp (disch:=first|decide|omega) only[Jg,Js,Jw,Jx,Jz,J2,J3,Ag,Aj,true_and,Bq,A1 c.at_ gp.1.1 hx2,Ej hx3,Df hx3 (hll _ (by(first|lia|omega)))]
   have c1:=c.set hx1 (.list ((L x.toNat).map V.int ++ [.int y]))
   obtain⟨y1,hy1,hy2,hy3⟩:=c1.get (i:=y.toNat) (by(first|lia|omega))
   rw[if_neg (show ¬y.toNat=x.toNat by(first|lia|omega))]at hy3
   simp (disch:=first|decide|omega) only[true_and,A1 c1.at_ gp.2.1.1 hy2,Ej hy3,Df hy3 (hll _ (by(first|lia|omega)))]
   have c2:=c1.set hy1 (.list ((L y.toNat).map V.int ++ [.int x]))
   refine hK _ _ ⟨_,_,fun i=>if i=y.toNat then L y.toNat ++ [x]else if i=x.toNat then L x.toNat ++ [y]else L i,rfl,c2.congr fun i hi=>?_,fun i hi=>?_⟩
   ·by_cases h1:i=y.toNat
    ·simp[h1]
    ·by_cases h2:i=x.toNat
     ·have:¬x.toNat=y.toNat:=by(first|lia|omega)
      simp[h2,this]
     ·simp[h1,h2]
   ·have nd:∀(l:List Int) (z:Int),l.Nodup->z∉l->(l ++ [z]).Nodup:=fun l z h1 h2=>by
     rw[List.nodup_append]
     exact⟨h1,List.pairwise_singleton _ _,fun a ha b hb e=>h2 (by simp at hb;rw[<-hb,<-e];exact ha)⟩
    dsimp only
    by_cases h1:i=y.toNat
    ·subst h1
     rw[if_pos rfl]
     refine⟨nd _ _ hLy.1 hnx,fun z=>?_⟩
     rw[List.mem_append,hLy.2 z,E0 hp,ey]
     simp only[List.mem_singleton]
     constructor
     ·rintro(h|rfl)
      ·exact .inl h
      ·exact .inr (.inr (⟨trivial,rfl⟩))
     ·rintro(h | ⟨h1,h2⟩ | ⟨h1,h2⟩)
      ·exact .inl h
      ·exact absurd h1.symm gp.2.2
      ·exact .inr h2
    ·rw[if_neg h1]
     by_cases h2:i=x.toNat
     ·subst h2
      rw[if_pos rfl]
      refine⟨nd _ _ hLx.1 hh,fun z=>?_⟩
      rw[List.mem_append,hLx.2 z,E0 hp,ex]
      simp only[List.mem_singleton]
      constructor
      ·rintro(h|rfl)
       ·exact .inl h
       ·exact .inr (.inl (⟨trivial,rfl⟩))
      ·rintro(h | ⟨h1,h2⟩ | ⟨h1,h2⟩)
       ·exact .inl h
       ·exact .inr h2
       ·exact absurd h1 gp.2.2
     ·rw[if_neg h2]
      refine⟨(hL i hi).1,fun z=>?_⟩
      rw[(hL i hi).2 z,E0 hp]
      constructor
      ·exact .inl
      ·rintro(h | ⟨h3,h4⟩ | ⟨h3,h4⟩)
       ·exact h
       ·simp only at h3;(first|lia|omega)
       ·simp only at h3;(first|lia|omega)
  ·rename_i hh
   simp only[Bool.not_eq_true',decide_eq_false_iff_not,Classical.not_not]at hh
   simp (disch:=first|decide|omega) only[J2]
   have hA:P7 (ps.take j) x y:=by have:=(hLx.2 y).mp hh;rwa[ex]at this
   refine hK _ _ ⟨_,_,L,rfl,c,fun i hi=>⟨(hL i hi).1,fun z=>?_⟩⟩
   rw[(hL i hi).2 z,E0 hp]
   constructor
   ·exact .inl
   ·rintro(h | ⟨h3,h4⟩ | ⟨h3,h4⟩)
    ·exact h
    ·rw[h3,h4];exact hA
    ·rw[h3,h4];exact hA.symm
 ·rintro ρ H₁ ⟨r3,r4,L,rfl,c,hL⟩
  rw[List.take_of_length_le (Nat.le_refl _)]at hL
  try simp (disch:=first|decide|omega) only[Jb,Jc,Jd,Je,Jf,Jg,Jh,Ji,Jj,Jk,Jl,Jm,Jn,Jo,Jp,Jq,Jr,Js,Jt,Ju,Jv,Jw,Jx,Jy,Jz,J0,J1,J2,J3,J4,J5,J6,J7,J8,J9,Cu,Cz,Cv,Dl,Ck,C0,Dz,Dm,Dr,Ds,D0,D1,Be,Dn,Du,Dt,Cm,D2,Dv,Dp,List.map,Br,Bs,Ag,Aj,List.replicate,Ba,Bb,Bf,true_and]
  rw[Ar,C2]
  simp (disch:=first|decide|omega) only[Jg,J4,Br,Bs,Ag,Aj,List.replicate]
  rw[C1 c.at_]
  refine⟨by simp[B6,c.len];(first|lia|omega),Lg (row:=Bc m (Cr ps)) c.at_ (fun i x H₂ K hx e hK=>?_) fun bs H₂ e hbl hb b hb0=>?_⟩
  ·have hi:i<m:=by rw[<-c.len];exact(List.getElem?_eq_some_iff.mp hx).1
   have hxL:LI H₂ x (L i):=e _ _ (c.obj i x hx)
   have hlen:(L i).length<64:=by
    have:=Pv (m:=m) (hL i hi).1 fun z hz=>((((hL i hi).2 z).mp hz).in_ g).2.1
    (first|lia|omega)
   simp (disch:=first|decide|omega) only[Jg,Jq,Jw,Jx,Ag,Il,Y6 hxL hlen]
   intro b hb
   have:=hK b hb
   rwa[<-Tw g (hL i hi).1 (hL i hi).2]at this
  ·exact q b _ ((c.ext.trans e).trans (Av.upd hb0)) ((c.ext.trans e).isNone hb0) ⟨bs,Ae,by rw[hbl,c.len],fun i x hx=>(hb i x hx).ext (Av.upd hb0)⟩
set_option linter.all false
variable {G:Ap} {n:Nat} {H H':AH} {Q:Ad} {E:EP} {C:CS} {ρ:Ao}
theorem Gk{a d:Nat}{c:Cp}{fs:List (C6×V)}{t:C6}{v:V}(h:H a=some (.inst c d))(h':H d=some (.ns fs))(hv:Iv fs t=some v):getAttr (.ref a) t H Q=Q v H:=by
 delta getAttr;(try dsimp only[Bl]);rw[h];(try dsimp only[Mq]);rw[h'];(try dsimp only[P9]);rw[hv];(try dsimp only[Ff])
theorem O3{a d:Nat}{c:Cp}{fs:List (C6×V)}{t:C6}{v:V}{N:AH->Prop}(h:H a=some (.inst c d))(h':H d=some (.ns fs))(hl:fs.length<10):setAttr (.ref a) t v H N=N (upd H d (.ns (Md fs t v))):=by
 delta setAttr;(try dsimp only[Bl]);rw[h];(try dsimp only[Mq]);rw[h'];(try dsimp only[P9])
 exact propext ⟨fun h=>h.2,fun q=>⟨hl,q⟩⟩
theorem Tx(B:Ht G){m t:Nat}{ts:List Nat}{ps:List (Int×Int)}(hm:m<=60)(hT:H t=some (.list (ts.map V.ref)))(hP:Ah H ts ps)(g:Dk m ps)
 (q:∀w H',Av H H'->H w=none->F5 H' w m (Cr ps)->Q (.ref w) H'):Ab G (n+2) "web_of" [.int m,.ref t] H Q E:=by
 refine Al B.webOf rfl ?_
 simp (disch:=first|decide|omega) only[Jy,J0,J2,J3,List.map,Br,Bs,List.replicate,Kp]
 refine A3 false (fun Q' h'=>?_) ?_
 ·simp (disch:=first|decide|omega) only[Je,Jg,Jh,Jn,Cz,Be,Ag,Pu B.most]
  simp only[show decide ((0:Int)<=m)=true from rfl,show decide ((m:Int)<=60)=true by simp;(first|lia|omega),if_pos]
  exact h'
 rw[if_neg (by decide)]
 simp (disch:=first|decide|omega) only[J2]
 rw[Bm,C2]
 simp (disch:=first|decide|omega) only[Jg,Ag,Aj]
 rw[C1 hT]
 refine Ez (ps:=ps) (fun j ρ H₁=>(Gx fun(r3 r4:Option V)=>ρ = [some (.int m),some (.ref t),r3,r4,none]/\H₁=H)) ⟨_,_,rfl,rfl⟩ ?_ ?_ ?_
 ·rintro i ρ H₁ hP11
  refine Aa fun nY=>?_
  obtain⟨r3,r4,rfl,rfl⟩:=hP11
  refine nY ?_;clear nY
  exact⟨hT,hP⟩
 ·rintro j hP12 ρ H₁ K hp hP13 hK
  refine Aa fun nY=>?_
  obtain⟨x,y⟩:=hP12
  obtain⟨r3,r4,rfl,rfl⟩:=hP13
  have gp:=g _ (List.mem_of_getElem? hp)
  refine nY ?_;clear nY
  simp only at gp ⊢
  simp (disch:=first|decide|omega) only[J2,J3,Ba,Bb,G1]
  refine A3 false (fun Q' h'=>?_) ?_
  ·simp (disch:=first|decide|omega) only[Je,Jg,Jh,Jk,Jm,Jn,Cu,Cz,Ck,Be,Ag,Aj]
   simp only[show decide ((0:Int)<=x)=true by simp;(first|lia|omega),show decide (x<(m:Int))=true by simp;(first|lia|omega),show decide ((0:Int)<=y)=true by simp;(first|lia|omega),show decide (y<(m:Int))=true by simp;(first|lia|omega),show decide (x=y)=false by simp;(first|lia|omega),if_pos,Bool.not_true,Bool.false_eq_true,if_false]
   exact h'
  rw[if_neg (by decide)]
  simp (disch:=first|decide|omega) only[J2]
  exact hK _ _ ⟨_,_,rfl,rfl⟩
 rintro ρ H₁ hP14
 refine Aa fun nY=>?_
 obtain⟨r3,r4,rfl,rfl⟩:=hP14
 refine nY ?_;clear nY
 try simp (disch:=first|decide|omega) only[Ba,Bb]
 rw[Ar,Bh]
 simp (disch:=first|decide|omega) only[Jg,Jw,Jx,J4,Cm,Br,Bs,Ag,List.replicate]
 refine⟨by simp[B6];(first|lia|omega),Lf (o:= .dict []) (fun i H' K hi hK=>?_) fun as H' a ha c=>?_⟩
 ·simp only[L0,X1]
  exact fun x hx=>hK x hx
 rw[Bm,C2]
 simp (disch:=first|decide|omega) only[Jg,Ag,Aj]
 rw[C1 (c.ext _ _ hT)]
 refine Ez (ps:=ps) (fun j ρ H₂=>(Rm fun(r3 r4:Option V) (L:Nat->List (Int×V))=>Go (ρ = [some (.int m),some (.ref t),r3,r4,some (.ref a)]) (F4 H₁ H₂ a as m (fun i=> .dict (L i))) (∀i,i<m->((L i).map (·.1)).Nodup/\∀y,y∈(L i).map (·.1)↔P7 (ps.take j) i y))) ?_ ?_ ?_ ?_
 ·exact⟨_,_,fun _=>[],rfl,c,fun i hi=>⟨List.nodup_nil,fun y=>by simp[P7]⟩⟩
 ·rintro i ρ H₂ hP15
  refine Aa fun nY=>?_
  obtain⟨r3,r4,L,rfl,c,hL⟩:=hP15
  refine nY ?_;clear nY
  exact⟨c.ext _ _ hT,hP.ext c.ext⟩
 ·rintro j p ρ H₂ K hp hP16 hK
  refine Aa fun nY=>?_
  obtain⟨r3,r4,L,rfl,c,hL⟩:=hP16
  have gp:=g p (List.mem_of_getElem? hp)
  obtain⟨x,y⟩:=p
  refine nY ?_;clear nY
  simp only at gp ⊢
  refine Aa fun nY=>?_
  obtain⟨x1,hx1,hx2,hx3⟩:=c.get (i:=x.toNat) (by(first|lia|omega))
  have hLx:=hL x.toNat (by(first|lia|omega))
  have hLy:=hL y.toNat (by(first|lia|omega))
  have ex:((x.toNat:Nat):Int)=x:=by(first|lia|omega)
  have ey:((y.toNat:Nat):Int)=y:=by(first|lia|omega)
  have hll:∀i,i<m->(L i).length<1048576:=fun i hi=>by
   have:=Pv (m:=m) (hL i hi).1 fun z hz=>((((hL i hi).2 z).mp hz).in_ g.take).2.1
   rw[List.length_map]at this
   (first|lia|omega)
  refine nY ?_;clear nY
  simp (disch:=first|decide|omega) only[Jd,Jg,Js,J2,J3,Ag,Aj,Ba,Bb,L1,Bk,A1 c.at_ gp.1.1 hx2,Xi hx3 (hll _ (show x.toNat<m by(first|lia|omega)))]
  have c1:=c.set hx1 (.dict (Fo (L x.toNat) y (.bool true)))
  refine Aa fun nY=>?_
  obtain⟨y1,hy1,hy2,hy3⟩:=c1.get (i:=y.toNat) (by(first|lia|omega))
  rw[if_neg (show ¬y.toNat=x.toNat by(first|lia|omega))]at hy3
  refine nY ?_;clear nY
  simp (disch:=first|decide|omega) only[A1 c1.at_ gp.2.1.1 hy2,Xi hy3 (hll _ (show y.toNat<m by(first|lia|omega)))]
  have c2:=c1.set hy1 (.dict (Fo (L y.toNat) x (.bool true)))
  refine hK _ _ ⟨_,_,fun i=>if i=y.toNat then Fo (L y.toNat) x (.bool true)else if i=x.toNat then Fo (L x.toNat) y (.bool true)else L i,rfl,c2.congr fun i hi=>?_,fun i hi=>?_⟩
  ·refine Aa fun nY=>?_
   by_cases h1:i=y.toNat
   ·refine nY ?_;clear nY
    simp[h1]
   ·by_cases h2:i=x.toNat
    ·have:¬x.toNat=y.toNat:=by(first|lia|omega)
     refine nY ?_;clear nY
     simp[h2,this]
    ·refine nY ?_;clear nY
     simp[h1,h2]
  ·have nd:∀(l:List Int) (z:Int),l.Nodup->z∉l->(l ++ [z]).Nodup:=fun l z h1 h2=>by
    rw[List.nodup_append]
    exact⟨h1,List.pairwise_singleton _ _,fun a ha b hb e=>h2 (by simp at hb;rw[<-hb,<-e];exact ha)⟩
   have nd2:∀(es:List (Int×V)) (k:Int) (v:V),(es.map (·.1)).Nodup->((Fo es k v).map (·.1)).Nodup:=fun es k v h=>by
    rw[O2]
    split
    ·exact h
    ·exact nd _ _ h (by assumption)
   have mm:∀(es:List (Int×V)) (k:Int) (v:V) (z:Int),z∈(Fo es k v).map (·.1)↔z∈es.map (·.1)\/z=k:=fun es k v z=>by
    rw[O2]
    split
    ·rename_i hk
     exact⟨.inl,fun h=>h.elim id fun e=>e▸hk⟩
    ·rw[List.mem_append,List.mem_singleton]
   dsimp only
   refine Aa fun nY=>?_
   by_cases h1:i=y.toNat
   ·subst h1
    refine nY ?_;clear nY
    rw[if_pos rfl]
    refine⟨nd2 _ _ _ hLy.1,fun z=>?_⟩
    rw[mm,hLy.2 z,E0 hp,ey]
    constructor
    ·rintro(h|rfl)
     ·exact .inl h
     ·exact .inr (.inr (⟨rfl,rfl⟩))
    ·rintro(h | ⟨h1,h2⟩ | ⟨h1,h2⟩)
     ·exact .inl h
     ·exact absurd h1.symm gp.2.2
     ·exact .inr h2
   ·refine nY ?_;clear nY
    rw[if_neg h1]
    refine Aa fun nY=>?_
    by_cases h2:i=x.toNat
    ·subst h2
     refine nY ?_;clear nY
     rw[if_pos rfl]
     refine⟨nd2 _ _ _ hLx.1,fun z=>?_⟩
     rw[mm,hLx.2 z,E0 hp,ex]
     constructor
     ·rintro(h|rfl)
      ·exact .inl h
      ·exact .inr (.inl (⟨rfl,rfl⟩))
     ·rintro(h | ⟨h1,h2⟩ | ⟨h1,h2⟩)
      ·exact .inl h
      ·exact .inr h2
      ·exact absurd h1 gp.2.2
    ·refine nY ?_;clear nY
     rw[if_neg h2]
     refine⟨(hL i hi).1,fun z=>?_⟩
     rw[(hL i hi).2 z,E0 hp]
     constructor
     ·exact .inl
     ·rintro(h | ⟨h3,h4⟩ | ⟨h3,h4⟩)
      ·exact h
      ·simp only at h3;(first|lia|omega)
      ·simp only at h3;(first|lia|omega)
 ·rintro ρ H₂ hP17
  refine Aa fun nY=>?_
  obtain⟨r3,r4,L,rfl,c,hL⟩:=hP17
  rw[List.take_of_length_le (Nat.le_refl _)]at hL
  refine nY ?_;clear nY
  try simp (disch:=first|decide|omega) only[Jb,Jc,Jd,Je,Jf,Jg,Jh,Ji,Jj,Jk,Jl,Jm,Jn,Jo,Jp,Jq,Jr,Js,Jt,Ju,Jv,Jw,Jx,Jy,Jz,J0,J1,J2,J3,J4,J5,J6,J7,J8,J9,Cu,Cz,Cv,Dl,Ck,C0,Dz,Dm,Dr,Ds,D0,D1,Be,Dn,Du,Dt,Cm,D2,Dv,Dp,List.map,Br,Bs,Ag,Aj,List.replicate,Ba,Bb,Bf,true_and]
  rw[C9]
  refine⟨by rw[show G0 .web=Str.ofString "Web.__init__" from rfl,B.init];rfl,?_⟩
  simp (disch:=first|decide|omega) only[Jg,Jw,Jx,Ag]
  rw[Ar,C2]
  simp (disch:=first|decide|omega) only[Jg,J4,Br,Bs,Ag,Aj,List.replicate]
  rw[C1 c.at_]
  refine⟨by simp[B6,c.len];(first|lia|omega),Lg (row:=Bc m (Cr ps)) c.at_ (fun i x H₂ K hx e hK=>?_) fun bs H₂ e hbl hb b hb0=>?_⟩
  ·have hi:i<m:=by rw[<-c.len];exact(List.getElem?_eq_some_iff.mp hx).1
   have hxL:H₂ x=some (.dict (L i)):=e _ _ (c.obj i x hx)
   have hlen:(L i).length<64:=by
    have:=Pv (m:=m) (hL i hi).1 fun z hz=>((((hL i hi).2 z).mp hz).in_ g).2.1
    rw[List.length_map]at this
    (first|lia|omega)
   simp (disch:=first|decide|omega) only[Jg,Jq,Jw,Jx,Ag,L2,Y7 hxL hlen]
   intro b hb
   have:=hK b hb
   rwa[<-Tw g (hL i hi).1 (hL i hi).2]at this
  ·intro w d hw hd hwd
   have eb:Av H₂ (upd H₂ b (.list (bs.map V.ref))):=Av.upd hb0
   have hnb:Dh (upd H₂ b (.list (bs.map V.ref))) b m (Cr ps):=⟨bs,Ae,by rw[hbl,c.len],fun i x hx=>(hb i x hx).ext eb⟩
   have eH:=(c.ext.trans e).trans eb
   generalize upd H₂ b (.list (bs.map V.ref))=H₃ at *
   refine Al B.init rfl ?_
   have hw1:upd (upd H₃ d (.ns [])) w (.inst .web d) w=some (.inst .web d):=Ae
   have hd1:upd (upd H₃ d (.ns [])) w (.inst .web d) d=some (.ns []):=by rw[upd_ne (Ne.symm hwd),Ae]
   have hw2:upd (upd (upd H₃ d (.ns [])) w (.inst .web d)) d (.ns (Md [] .many (.int m))) w=some (.inst .web d):=by rw[upd_ne hwd];exact hw1
   have hd2:upd (upd (upd H₃ d (.ns [])) w (.inst .web d)) d (.ns (Md [] .many (.int m))) d=some (.ns (Md [] .many (.int m))):=Ae
   simp (disch:=first|decide|omega) only[Jg,J2,J3,List.map,Br,Bs,Ag,Aj,true_and,Ko,Cg,O3 hw1 hd1 (by decide),O3 hw2 hd2 (show (Md [] C6.many (V.int m)).length<10 from(by decide:(1:Nat)<10))]
   refine q w _ ?_ (eH.isNone hw) ⟨d,b,?_,Ae,hnb.ext ?_⟩
   ·exact(((eH.trans (Av.upd hd)).upd' (eH.isNone hw)).upd' (eH.isNone hd)).upd' (eH.isNone hd)
   ·rw[upd_ne hwd];exact hw2
   ·exact(((Av.upd hd).upd' hw).upd' hd).upd' hd
theorem Pw(B:Ht G){w m:Nat}{A:Nat->Nat->Bool}{x:Int}(hW:F5 H w m A)(h0:0<=x)(h1:x<m)(q:Q .none H):Ab G (n+1) "Web.need" [.ref w,.int x] H Q E:=by
 refine Aa fun nY=>?_
 obtain⟨d,rs,h2,h3,h4⟩:=hW
 refine nY ?_;clear nY
 refine Al B.need rfl ?_
 simp (disch:=first|decide|omega) only[J2,J3,List.map,Br,Bs,Iz]
 refine A3 false (fun Q' h'=>?_) ?_
 ·simp (disch:=first|decide|omega) only[Je,Jg,Jh,Jn,Jr,Cu,Cz,Be,Ag,Aj,Gk h2 h3 (show Iv [(C6.many,V.int m),(C6.rows,V.ref rs)] .many=some (.int m)from rfl)]
  simp only[show decide ((0:Int)<=x)=true by simp;omega,show decide (x<(m:Int))=true by simp;omega,if_pos]
  exact h'
 rw[if_neg (by decide)]
 simp (disch:=first|decide|omega) only[J2]
 exact q
theorem Dh.row{a m:Nat}{A:Nat->Nat->Bool}(h:Dh H a m A){x:Int}(h0:0<=x)(h1:x<m):(Gx fun(as:List Nat) (y:Nat)=>Rq (H a=some (.list (as.map V.ref))) (as.length=m) ((as.map V.ref)[x.toNat]? = some (.ref y)) (LI H y (Bc m A x.toNat))):=by
 refine Aa fun nY=>?_
 obtain⟨as,a1,a2,a3⟩:=h
 have hl:x.toNat<as.length:=by omega
 refine nY ?_;clear nY
 exact⟨as,as[x.toNat],a1,a2,by rw[List.getElem?_map,List.getElem?_eq_getElem hl];rfl,a3 _ _ (List.getElem?_eq_getElem hl)⟩
theorem Px{m:Nat}{A:Nat->Nat->Bool}{x y:Int}(h0:0<=y)(h1:y<m):decide (y∈Bc m A x.toNat)=A x.toNat y.toNat:=by
 by_cases h:A x.toNat y.toNat=true
 ·rw[h,decide_eq_true_eq,Ke];exact⟨h0,h1,h⟩
 ·rw[Bool.not_eq_true]at h
  rw[h,decide_eq_false_iff_not,Ke]
  rintro⟨_,_,q⟩;rw[h]at q;cases q
theorem Xk(B:Ht G){w m:Nat}{A:Nat->Nat->Bool}{x y:Int}(hW:F5 H w m A)(h0:0<=x)(h1:x<m)(h2:0<=y)(h3:y<m)(q:Q (.bool (A x.toNat y.toNat)) H):Ab G (n+2) "Web.tied" [.ref w,.int x,.int y] H Q E:=by
 have hW':=hW
 refine Aa fun nY=>?_
 obtain⟨d,rs,w1,w2,w3⟩:=hW'
 obtain⟨as,z,a1,a2,a3,a4⟩:=w3.row h0 h1
 refine nY ?_;clear nY
 refine Al B.tied rfl ?_
 simp (disch:=first|decide|omega) only[Jg,Jm,Jr,Js,Jw,Jx,Jz,J0,J2,J3,List.map,Br,Bs,Ag,Aj,Bf,true_and,I0,Aq,C7,C8,E3,w1,w2,B.need]
 refine Pw B hW h0 h1 ?_
 (try dsimp only);(try simp (disch:=first|decide|omega) only[Jb,Jc,Jd,Je,Jf,Jg,Jh,Ji,Jj,Jk,Jl,Jm,Jn,Jo,Jp,Jq,Jr,Js,Jt,Ju,Jv,Jw,Jx,Jy,Jz,J0,J1,J2,J3,J4,J5,J6,J7,J8,J9,Cu,Cz,Cv,Dl,Ck,C0,Dz,Dm,Dr,Ds,D0,D1,Be,Dn,Du,Dt,Cm,D2,Dv,Dp,List.map,Br,Bs,Ag,Aj,List.replicate,Ba,Bb,Bf,true_and])
 simp only[C7,w1,C8,w2,E3]
 refine Pw B hW h2 h3 ?_
 simp (disch:=first|decide|omega) only[Gk w1 w2 (show Iv [(C6.many,V.int m),(C6.rows,V.ref rs)] .rows=some (.ref rs)from rfl),A1 a1 h0 a3,Aaz a4,Px h2 h3]
 exact q
set_option linter.all false
variable {G:Ap} {n:Nat} {H H':AH} {Q:Ad} {E:EP} {C:CS} {ρ:Ao}
noncomputable def fu(A:Nat->Nat->Bool):List Int->Option (Int×Int)
 | []=>none
 | x::r=>match r.find? (fun y=> !A x.toNat y.toNat)with
   | some y=>some (x,y)
   | none=>fu A r
theorem LI.at_{a:Nat}{l:List Int}{i:Nat}{v:V}(hv:(l.map V.int)[i]? = some v):∃x,l[i]? = some x/\v = .int x:=by
 rw[List.getElem?_map]at hv
 obtain⟨x,hx,rfl⟩:=Option.map_eq_some_iff.mp hv
 exact⟨x,hx,rfl⟩
theorem Lq{l:List Int}{i:Nat}{x:Int}(h:l[i]? = some x):l.drop i=x::l.drop (i+1):=by
 obtain⟨h1,h2⟩:=List.getElem?_eq_some_iff.mp h
 rw[List.drop_eq_getElem_cons h1,h2]
set_option linter.all false
variable {G:Ap} {n:Nat} {H H':AH} {Q:Ad} {E:EP} {C:CS} {ρ:Ao}
theorem LI.sub{a:Nat}{l:List Int}{x:Int}{i:Nat}(hx:l[i]? = some x):(l.map V.int)[(i:Int).toNat]? = some (.int x):=by
 rw[Int.toNat_natCast,List.getElem?_map,hx];rfl
set_option linter.all false
variable {G:Ap} {n:Nat} {H H':AH} {Q:Ad} {E:EP} {C:CS} {ρ:Ao}
set_option linter.all false
variable {G:Ap} {n:Nat} {H H':AH} {Q:Ad} {E:EP} {C:CS} {ρ:Ao}
theorem Tz{a:Nat}{xs:List V}(h:H a=some (.list xs)):D7 .list [.ref a] H Q=A5 (.list xs) H Q:=by
 delta D7;dsimp only;(first|delta Mr|delta Ix|delta Iy);(try dsimp only[Bl,A0,on0,Rr,X0]);rw[h];(try dsimp only[Ob,onD])
theorem seq{s:S}{rest:List S}{N:Ao->AH->Prop}{R:Ad}(T:Ao->AH->Prop)(h1:∀N:Ao->AH->Prop,(∀ρ H,T ρ H->N ρ H)->Ny G C s ρ H N R E)(h2:∀ρ H,T ρ H->Bt G C rest ρ H N R E):Bt G C (s::rest) ρ H N R E:=by
 rw[J3];exact h1 _ h2
set_option linter.all false
variable {G:Ap} {n:Nat} {H H':AH} {Q:Ad} {E:EP} {C:CS} {ρ:Ao}
theorem Y8{ns:List Int}{m:Nat}{rows:List (List Int)}{ps:List (Int×Int)}(hW:Wf m rows)(hT:Xe ns m rows ps):Dk m ps:=by
 intro p hp
 obtain⟨k,r,one,h1,h2,h3⟩:=hT.1 p hp
 have hk:=(List.getElem?_eq_some_iff.mp h1).1
 rw[hW.1]at hk
 have hr:=(hW.2 k r h1).2 one h2
 have n1:=O0 (ns:=ns) (m:=m) (k:=k) (by(first|lia|omega))
 have n2:=O0 (ns:=ns) (m:=m) (k:=one) (by(first|lia|omega))
 have n3:A6 ns m k≠A6 ns m one:=fun e=>by
  have:=Sy (ns:=ns) (m:=m) (j:=k) (k:=one) (by(first|lia|omega)) (by(first|lia|omega)) (by(first|lia|omega)) e
  (first|lia|omega)
 rcases h3 with rfl|rfl
 ·exact⟨n1,n2,n3⟩
 ·exact⟨n2,n1,Ne.symm n3⟩
set_option linter.all false
variable {G:Ap} {n:Nat} {H H':AH} {Q:Ad} {E:EP} {C:CS} {ρ:Ao}
set_option linter.all false
noncomputable def Aco(A:Nat->Nat->Bool)(l:List Int)(p:Int):List Int:=l.filter fun o=>A p.toNat o.toNat
variable {G:Ap} {n:Nat} {H H':AH} {Q:Ad} {E:EP} {C:CS} {ρ:Ao}
theorem Xl(B:Ht G)(hG:G.fn "Web.beside" = some Cy){w m:Nat}{A:Nat->Nat->Bool}{x:Int}(hW:F5 H w m A)(h0:0<=x)(h1:x<m)
 (q:∀a H',Av H H'->H a=none->LI H' a (Bc m A x.toNat)->Q (.ref a) H'):Ab G (n+2) "Web.beside" [.ref w,.int x] H Q E:=by
 have hW':=hW
 refine Aa fun nY=>?_
 obtain⟨d,rs,w1,w2,w3⟩:=hW'
 obtain⟨as,z,a1,a2,a3,a4⟩:=w3.row h0 h1
 refine nY ?_;clear nY
 refine Al hG rfl ?_
 simp (disch:=first|decide|omega) only[Jg,Jq,Jr,Js,Jw,Jx,Jz,J0,J2,J3,List.map,Br,Bs,Ag,Aj,Bf,true_and,Cy,Aq,C7,C8,E3,w1,w2,B.need]
 refine Pw B hW h0 h1 ?_
 (try dsimp only);(try simp (disch:=first|decide|omega) only[Jb,Jc,Jd,Je,Jf,Jg,Jh,Ji,Jj,Jk,Jl,Jm,Jn,Jo,Jp,Jq,Jr,Js,Jt,Ju,Jv,Jw,Jx,Jy,Jz,J0,J1,J2,J3,J4,J5,J6,J7,J8,J9,Cu,Cz,Cv,Dl,Ck,C0,Dz,Dm,Dr,Ds,D0,D1,Be,Dn,Du,Dt,Cm,D2,Dv,Dp,List.map,Br,Bs,Ag,Aj,List.replicate,Ba,Bb,Bf,true_and])
 simp (disch:=first|decide|omega) only[Gk w1 w2 (show Iv [(C6.many,V.int m),(C6.rows,V.ref rs)] .rows=some (.ref rs)from rfl),A1 a1 h0 a3,Tz a4]
 exact Am fun a H' e n v=>q a H' e n v
set_option linter.all false
variable {G:Ap} {n:Nat} {H H':AH} {Q:Ad} {E:EP} {C:CS} {ρ:Ao}
theorem LI.upd_ne{a b:Nat}{l:List Int}{o:O}(h:LI H a l)(hn:a≠b):LI (upd H b o) a l:=by
 unfold LI at *;rw[Mine.Internal.Cl.upd_ne hn];exact h
set_option linter.all false
variable {G:Ap} {n:Nat} {H H':AH} {Q:Ad} {E:EP} {C:CS} {ρ:Ao}
theorem Rc{a:Nat}{xs:List V}(h:H a=some (.list xs)):D7 (.isinst .list) [.ref a] H Q=Q (.bool true) H:=by
 have e:Iw .list (.ref a) H=some true:=by show (match H a with|some o=>Hz o .list|none=>none)=_;rw[h];rfl
 show (E2 .list=true/\(match Iw .list (.ref a) H with|some r=>Q (.bool r) H|none=>False))=_
 rw[e]
 exact propext ⟨fun h=>h.2,fun h=>⟨rfl,h⟩⟩
theorem U0{a:Nat}{xs:List V}(h:H a=some (.tuple xs)):D7 (.isinst .tuple) [.ref a] H Q=Q (.bool true) H:=by
 have e:Iw .tuple (.ref a) H=some true:=by show (match H a with|some o=>Hz o .tuple|none=>none)=_;rw[h];rfl
 show (E2 .tuple=true/\(match Iw .tuple (.ref a) H with|some r=>Q (.bool r) H|none=>False))=_
 rw[e]
 exact propext ⟨fun h=>h.2,fun h=>⟨rfl,h⟩⟩
theorem Y9{i:Int}:D7 (.isinst .int) [.int i] H Q=Q (.bool true) H:=propext ⟨fun h=>h.2,fun h=>⟨rfl,h⟩⟩
theorem U1{i:Int}:D7 (.isinst .bool) [.int i] H Q=Q (.bool false) H:=propext ⟨fun h=>h.2,fun h=>⟨rfl,h⟩⟩
theorem Mm(hG:G.fn "_law_whole" = some D9){i:Int}(q:Q (.bool true) H):Ab G (n+1) "_law_whole" [.int i] H Q E:=by
 refine Al hG rfl ?_
 simp (disch:=first|decide|omega) only[Jg,Jh,Jj,Jq,Jw,Jx,J0,J2,J3,Be,List.map,Br,Bs,Ag,D9,Y9,U1]
 simpa using q
theorem U2(hW:G.fn "_law_whole" = some D9)(hG:G.fn "_law_numbers" = some Fg){a b:Nat}{l:List Int}(ha:LI H a l)(hb:LI H b l)(hl:l.length<=4000)(q:Q (.bool true) H):Ab G (n+2) "_law_numbers" [.ref a,.ref b] H Q E:=by
 refine Al hG rfl ?_
 simp (disch:=first|decide|omega) only[Jd,J0,J2,J3,List.map,Br,Bs,List.replicate,Fg]
 refine A3 false (fun Q' h'=>?_) ?_
 ·simp (disch:=first|decide|omega) only[Jg,Jh,Jk,Jm,Jq,Jw,Jx,C0,Be,Ag,Aj,Rc ha,Fl ha,Fl hb]
  simpa using h'
 rw[if_neg (by decide)]
 simp (disch:=first|decide|omega) only[J2]
 rw[Bm,Bh]
 simp (disch:=first|decide|omega) only[Jg,Jq,Jw,Jx,Ag,Aj,Fl hb]
 rw[Cm (by(first|lia|omega)) (by rw[List.length_map];(first|lia|omega))]
 refine Bj (fun i ρ H₁=>∃r2,ρ = [some (.ref a),some (.ref b),r2]/\H₁=H) ⟨_,rfl,rfl⟩ ?_ ?_
 ·rintro i ρ H₁ K hi ⟨r2,rfl,rfl⟩ hK
  have hi':i<l.length:=by simpa using hi
  have hx:=List.getElem?_eq_getElem hi'
  generalize l[i]=x at hx
  simp (disch:=first|decide|omega) only[J2,J3,Ba,Bb,Fq]
  refine A3 false (fun Q' h'=>?_) ?_
  ·simp (disch:=first|decide|omega) only[Jg,Jh,Jk,Jm,Jp,Js,Jw,Jx,Be,Ag,Aj,Bf,true_and,hW,A1 ha (Int.natCast_nonneg i) (LI.sub (a:=a) hx)]
   refine Mm hW ?_
   (try dsimp only);(try simp (disch:=first|decide|omega) only[Be])
   simp only[Bool.not_true,Bool.false_eq_true,if_false]
   simp (disch:=first|decide|omega) only[C0,A1 ha (Int.natCast_nonneg i) (LI.sub (a:=a) hx),A1 hb (Int.natCast_nonneg i) (LI.sub (a:=a) hx)]
   simpa using h'
  rw[if_neg (by decide)]
  simp (disch:=first|decide|omega) only[J2]
  exact hK _ _ ⟨_,rfl,rfl⟩
 ·rintro ρ H₁ ⟨r2,rfl,rfl⟩
  try simp (disch:=first|decide|omega) only[Jb,Jc,Jd,Je,Jf,Jg,Jh,Ji,Jj,Jk,Jl,Jm,Jn,Jo,Jp,Jq,Jr,Js,Jt,Ju,Jv,Jw,Jx,Jy,Jz,J0,J1,J2,J3,J4,J5,J6,J7,J8,J9,Cu,Cz,Cv,Dl,Ck,C0,Dz,Dm,Dr,Ds,D0,D1,Be,Dn,Du,Dt,Cm,D2,Dv,Dp,List.map,Br,Bs,Ag,Aj,List.replicate,Ba,Bb,Bf,true_and]
  exact q
set_option linter.all false
noncomputable def bh(A:Nat->Nat->Bool)(o:List Int)(p:Int):List Int:=Aco A (o.drop (o.idxOf p+1)) p
noncomputable def gp(A:Nat->Nat->Bool)(o:List Int):Option (Int×Int×Int):=o.findSome? fun p=>(fu A (bh A o p)).map fun q=>(p,q.1,q.2)
variable {G:Ap} {n:Nat} {H H':AH} {Q:Ad} {E:EP} {C:CS} {ρ:Ao}
theorem Nu{g:AH->Prop}{ys:List V}{t:Nat}{body:Ao->AH->(Ao->AH->Prop)->Prop}{N:Ao->AH->Prop}(I:Nat->Ao->AH->Prop)(h0:I 0 ρ H)(hg:∀i ρ H,I i ρ H->g H)
 (step:∀i x ρ H K,ys[i]? = some x->I i ρ H->(∀ρ'' H'',I (i+1) ρ'' H''->K ρ'' H'')->body (ρ.set t (some x)) H K) (fin:∀ρ H,I ys.length ρ H->N ρ H) :
 Lk g (.one t) body N (ys.map .v) ρ H:=by
 refine Lb (k:=0) I h0 (fun i x ρ H K hx hI hK=>⟨hg _ _ _ hI,?_⟩) fun ρ H hI=>⟨hg _ _ _ hI,fin ρ H (by simpa using hI)⟩
 rw[List.getElem?_map]at hx
 obtain⟨j,hj,rfl⟩:=Option.map_eq_some_iff.mp hx
 exact step i j ρ H K hj (by simpa using hI) fun ρ'' H'' h=>hK ρ'' H'' (by simpa using h)
set_option linter.all false
variable {G:Ap} {n:Nat} {H H':AH} {Q:Ad} {E:EP} {C:CS} {ρ:Ao}
structure Made(H H':AH)(a:Nat)(as:List Nat)(rows:List (List Int)):Prop where
 ext:Av H H'
 new:H a=none
 at_:H' a=some (.list (as.map V.ref))
 lists:Dw H' as rows
 fr:∀x∈as,x≠a/\H x=none
set_option linter.all false
variable {G:Ap} {n:Nat} {H H':AH} {Q:Ad} {E:EP} {C:CS} {ρ:Ao}
set_option linter.all false
variable {G:Ap} {n:Nat} {H H':AH} {Q:Ad} {E:EP} {C:CS} {ρ:Ao}
theorem Qr{es:List (Int×V)}{k:Int}{v:V}:(Fo es k v).length<=es.length+1:=by
 induction es with
 | nil=>simp[Fo]
 | cons e r ih=>
   obtain⟨k',v'⟩:=e
   unfold Fo
   split
   ·simp
   ·simp;(first|lia|omega)
set_option linter.all false
variable {G:Ap} {n:Nat} {H H':AH} {Q:Ad} {E:EP} {C:CS} {ρ:Ao}
structure Aa0(G:Ap):Prop where
 base:Ht G
 beside:G.fn "Web.beside" = some Cy
set_option linter.all false
variable {G:Ap} {n:Nat} {H H':AH} {Q:Ad} {E:EP} {C:CS} {ρ:Ao} {m:Nat} {A:Nat->Nat->Bool} {shut:List Int} {start:Int}
set_option linter.all false
variable {G:Ap} {n:Nat} {H H':AH} {Q:Ad} {E:EP} {C:CS} {ρ:Ao} {m:Nat} {A:Nat->Nat->Bool} {shut:List Int} {start:Int}
/-! refusals -/
theorem Lu(B:Ht G)(hX:G.exc .noPoint=true){w:Nat}{x:Int}(hW:F5 H w m A)(hb:¬(0<=x/\x<(m:Int)))(q:∀a,H a=none->E (.ref a) (upd H a (.exc .noPoint))):Ab G (n+1) "Web.need" [.ref w,.int x] H Q E:=by
 obtain⟨d,rs,h2,h3,h4⟩:=hW
 refine Al B.need rfl ?_
 simp (disch:=first|decide|omega) only[J2,J3,List.map,Br,Bs,Iz]
 refine A3 true (fun Q' h'=>?_) ?_
 ·simp (disch:=first|decide|omega) only[Je,Jg,Jh,Jn,Jr,Cu,Cz,Be,Ag,Aj,Gk h2 h3 (show Iv [(C6.many,V.int m),(C6.rows,V.ref rs)] .many=some (.int m)from rfl)]
  by_cases h0:0<=x
  ·simp only[show decide ((0:Int)<=x)=true by simp;(first|lia|omega),show decide (x<(m:Int))=false by simp;(first|lia|omega),if_pos]
   exact h'
  ·simp only[show decide ((0:Int)<=x)=false by simp;(first|lia|omega),Bool.false_eq_true,if_false]
   exact h'
 rw[if_pos rfl]
 simp only[J3,Bo]
 exact⟨hX,q⟩
theorem Ch{c c':Cp}{a:Nat}:Ct c (.ref a) (upd H a (.exc c'))=some (c'==c||c == .webError):=by
 exact Km Ae
set_option linter.all false
variable {G:Ap} {n:Nat} {H H':AH} {Q:Ad} {E:EP} {C:CS} {ρ:Ao} {m:Nat} {A:Nat->Nat->Bool} {shut:List Int} {start:Int}
/-! asked -/
set_option linter.all false
variable {G:Ap} {n:Nat} {H H':AH} {Q:Ad} {E:EP} {C:CS} {ρ:Ao} {m:Nat} {A:Nat->Nat->Bool} {shut:List Int} {start:Int}
set_option linter.all false
variable {G:Ap} {n:Nat} {H H':AH} {Q:Ad} {E:EP} {C:CS} {ρ:Ao} {m:Nat} {A:Nat->Nat->Bool}
/-! law 01:refusals -/
structure Ab7(G:Ap):Prop where
 webError:G.exc .webError=true
 badWeb:G.exc .badWeb=true
 noPoint:G.exc .noPoint=true
 badText:G.exc .badText=true
 badOrder:G.exc .badOrder=true
 hasGap:G.exc .hasGap=true
theorem U3(B:Ht G)(hX:G.exc .badWeb=true){b:Int}{t:Nat}(hb:b<0\/60<b)(q:∀a,H a=none->E (.ref a) (upd H a (.exc .badWeb))):Ab G (n+2) "web_of" [.int b,.ref t] H Q E:=by
 refine Al B.webOf rfl ?_
 simp only[Kp,List.map,List.replicate,List.cons_append,List.nil_append]
 rw[J3]
 refine A3 true (fun Q' h'=>?_) ?_
 ·simp (disch:=first|decide|omega) only[Je,Jg,Jh,Jn,Cz,Be,Ag,Pu B.most]
  by_cases h0:0<=b
  ·simp only[show decide ((0:Int)<=b)=true by simp;(first|lia|omega),show decide (b<=60)=false by simp;(first|lia|omega),if_pos]
   exact h'
  ·simp only[show decide ((0:Int)<=b)=false by simp;(first|lia|omega),Bool.false_eq_true,if_false]
   exact h'
 rw[if_pos rfl]
 simp only[J3,Bo]
 exact⟨hX,q⟩
theorem Xm(B:Ht G)(hX:G.exc .badWeb=true){t:Nat}{ts:List Nat}{ps:List (Int×Int)}(hm:m<=60)(hT:H t=some (.list (ts.map V.ref)))(hP:Ah H ts ps){p:Int×Int}(hp:p∈ps)(hb:¬((0<=p.1/\p.1<(m:Int))/\(0<=p.2/\p.2<(m:Int))/\p.1≠p.2))
 (q:∀a,H a=none->E (.ref a) (upd H a (.exc .badWeb))):Ab G (n+2) "web_of" [.int m,.ref t] H Q E:=by
 refine Al B.webOf rfl ?_
 simp only[Kp,List.map,List.replicate,List.cons_append,List.nil_append]
 rw[J3]
 refine A3 false (fun Q' h'=>?_) ?_
 ·simp (disch:=first|decide|omega) only[Je,Jg,Jh,Jn,Cz,Be,Ag,Pu B.most]
  simp only[show decide ((0:Int)<=m)=true by simp,show decide ((m:Int)<=60)=true by simp;(first|lia|omega),if_pos]
  exact h'
 rw[if_neg (by decide),J2,J3,Bm,C2]
 simp (disch:=first|decide|omega) only[Jg,Jy,J0,J2,J3,Ag,Aj]
 rw[C1 hT]
 refine Ez (ps:=ps) (fun j ρ H₁=>(Gx fun(r3 r4:Option V)=>Go (ρ = [some (.int m),some (.ref t),r3,r4,none]) (H₁=H) (∀x∈ps.take j,(0<=x.1/\x.1<(m:Int))/\(0<=x.2/\x.2<(m:Int))/\x.1≠x.2))) ⟨_,_,rfl,rfl,by simp⟩ ?_ ?_ ?_
 ·rintro i ρ H₁ ⟨r3,r4,rfl,rfl,_⟩
  exact⟨hT,hP⟩
 ·rintro j ⟨x,y⟩ ρ H₁ K hp ⟨r3,r4,rfl,rfl,hg⟩ hK
  simp (disch:=first|decide|omega) only[J2,J3,Ba,Bb,G1]
  by_cases gp:(0<=x/\x<(m:Int))/\(0<=y/\y<(m:Int))/\x≠y
  ·refine A3 false (fun Q' h'=>?_) ?_
   ·simp (disch:=first|decide|omega) only[Je,Jg,Jh,Jk,Jm,Jn,Cu,Cz,Ck,Be,Ag,Aj]
    simp only[show decide ((0:Int)<=x)=true by simp;(first|lia|omega),show decide (x<(m:Int))=true by simp;(first|lia|omega),show decide ((0:Int)<=y)=true by simp;(first|lia|omega),show decide (y<(m:Int))=true by simp;(first|lia|omega),show decide (x=y)=false by simp;(first|lia|omega),if_true,Bool.not_true,Bool.false_eq_true,if_false]
    exact h'
   rw[if_neg (by decide)]
   simp (disch:=first|decide|omega) only[J2]
   refine hK _ _ ⟨_,_,rfl,rfl,fun z hz=>?_⟩
   rw[List.take_add_one,hp]at hz
   rcases List.mem_append.mp hz with h|h
   ·exact hg z h
   ·simp at h;subst h;exact gp
  ·refine A3 true (fun Q' h'=>?_) ?_
   ·simp (disch:=first|decide|omega) only[Je,Jg,Jh,Jk,Jm,Jn,Cu,Cz,Ck,Be,Ag,Aj]
    by_cases x0:0<=x
    ·by_cases x1:x<(m:Int)
     ·simp only[show decide ((0:Int)<=x)=true by simp;(first|lia|omega),show decide (x<(m:Int))=true by simp;(first|lia|omega),if_true,Bool.not_true,Bool.false_eq_true,if_false]
      by_cases y0:0<=y
      ·by_cases y1:y<(m:Int)
       ·simp only[show decide ((0:Int)<=y)=true by simp;(first|lia|omega),show decide (y<(m:Int))=true by simp;(first|lia|omega),show decide (x=y)=true by simp;(first|lia|omega),if_true,Bool.not_true,Bool.false_eq_true,if_false]
        exact h'
       ·simp only[show decide ((0:Int)<=y)=true by simp;(first|lia|omega),show decide (y<(m:Int))=false by simp;(first|lia|omega),if_true,Bool.not_false]
        exact h'
      ·simp only[show decide ((0:Int)<=y)=false by simp;(first|lia|omega),Bool.false_eq_true,if_false,Bool.not_false,if_true]
       exact h'
     ·simp only[show decide ((0:Int)<=x)=true by simp;(first|lia|omega),show decide (x<(m:Int))=false by simp;(first|lia|omega),if_true,Bool.not_false]
      exact h'
    ·simp only[show decide ((0:Int)<=x)=false by simp;(first|lia|omega),Bool.false_eq_true,if_false,Bool.not_false,if_true]
     exact h'
   rw[if_pos rfl]
   simp only[J3,Bo]
   exact⟨hX,q⟩
 ·rintro ρ H₁ ⟨r3,r4,rfl,rfl,hg⟩
  rw[List.take_of_length_le (Nat.le_refl _)]at hg
  exact absurd (hg p hp) hb
set_option linter.all false
variable {G:Ap} {n:Nat} {H H':AH} {Q:Ad} {E:EP} {C:CS} {ρ:Ao} {m:Nat} {A:Nat->Nat->Bool}
theorem Rd(F:Aa0 G)(hX:G.exc .noPoint=true){w:Nat}{x:Int}(hW:F5 H w m A)(hb:¬(0<=x/\x<(m:Int)))(q:∀a,H a=none->E (.ref a) (upd H a (.exc .noPoint))):Ab G (n+2) "Web.beside" [.ref w,.int x] H Q E:=by
 obtain⟨d,rs,w1,w2,w3⟩:=hW
 refine Al F.beside rfl ?_
 simp only[Cy,List.map,List.cons_append,List.nil_append]
 rw[J3]
 simp (disch:=first|decide|omega) only[Jg,Jq,Jr,Js,Jw,Jx,Jz,J0,J2,J3,Ag,Aj,Bf,true_and,Aq,C7,C8,E3,w1,w2,F.base.need]
 exact Lu F.base hX ⟨d,rs,w1,w2,w3⟩ hb q
theorem U4(B:Ht G)(hX:G.exc .noPoint=true){w:Nat}{x y:Int}(hW:F5 H w m A)(hb:¬(0<=x/\x<(m:Int))\/¬(0<=y/\y<(m:Int)))(q:∀a,H a=none->E (.ref a) (upd H a (.exc .noPoint))):Ab G (n+2) "Web.tied" [.ref w,.int x,.int y] H Q E:=by
 obtain⟨d,rs,w1,w2,w3⟩:=hW
 have hW:F5 H w m A:=⟨d,rs,w1,w2,w3⟩
 refine Al B.tied rfl ?_
 simp only[I0,List.map,List.cons_append,List.nil_append]
 by_cases h0:0<=x/\x<(m:Int)
 ·refine seq (fun ρ H₁=>ρ = [some (.ref w),some (.int x),some (.int y)]/\H=H₁) (fun N hN=>?_) ?_
  ·simp (disch:=first|decide|omega) only[Jg,Jw,Jx,Jz,Ag,Aj,Bf,true_and,Aq,C7,C8,E3,w1,w2,B.need]
   exact Pw B hW h0.1 h0.2 (hN _ _ ⟨rfl,rfl⟩)
  rintro _ _ ⟨rfl,rfl⟩
  rw[J3]
  simp (disch:=first|decide|omega) only[Jg,Jm,Jr,Js,Jw,Jx,Jz,J0,J2,J3,Ag,Aj,Bf,true_and,Aq,C7,C8,E3,w1,w2,B.need]
  exact Lu B hX hW (hb.resolve_left fun z=>z h0) q
 ·rw[J3]
  simp (disch:=first|decide|omega) only[Jg,Jm,Jr,Js,Jw,Jx,Jz,J0,J2,J3,Ag,Aj,Bf,true_and,Aq,C7,C8,E3,w1,w2,B.need]
  exact Lu B hX hW h0 q
/-! the ties of a web -/
noncomputable def Hx(m:Nat)(A:Nat->Nat->Bool)(i:Nat):List (Int×Int):=((Bc m A i).filter fun y=>decide ((i:Int)<y)).map fun y=>((i:Int),y)
noncomputable def C5(m:Nat)(A:Nat->Nat->Bool)(k:Nat):List (Int×Int):=(List.range k).flatMap (Hx m A)
theorem Gl{k:Nat}:C5 m A (k+1)=C5 m A k++Hx m A k:=by simp[C5,List.range_succ]
theorem Kf{i:Nat}:(Hx m A i).length<=m:=by
 unfold Hx
 rw[List.length_map]
 exact Nat.le_trans (List.length_filter_le _ _) D4
theorem Eo:∀ {k:Nat},(C5 m A k).length<=m*k:=by
 intro k
 induction k with
 | zero=>exact Nat.le_refl _
 | succ k ih=>
   rw[Gl,List.length_append,Nat.mul_succ]
   exact Nat.add_le_add ih Kf
theorem T0(B:Ht G){w:Nat}(hm:m<=60)(hW:F5 H w m A)(q:∀a as H',TB H H' a as (C5 m A m)->Q (.ref a) H'):Ab G (n+1) "Web.ties" [.ref w] H Q E:=by
 refine Aa fun nY=>?_
 obtain⟨d,rs,w1,w2,w3⟩:=hW
 refine nY ?_;clear nY
 refine Al B.wties rfl ?_
 simp only[Ms,List.map,List.replicate,List.cons_append,List.nil_append]
 refine seq (fun ρ H₁=>∃fd,ρ = [some (.ref w),some (.ref fd),none,none]/\TB H H₁ fd [] []) (fun N hN=>?_) ?_
 ·simp (disch:=first|decide|omega) only[Ju,Jw,Jy,Ba,Bb]
  exact Am fun a H₁ e n v=>hN _ _ ⟨a,rfl,⟨e,n,v,rfl,fun _ h=>absurd h List.not_mem_nil⟩⟩
 rintro _ H₁ hP18
 refine Aa fun nY=>?_
 obtain⟨fd,rfl,b1⟩:=hP18
 have at1:∀ {X:AH},Av H X->X w=some (.inst .web d)/\X d=some (.ns [(C6.many,V.int m),(C6.rows,V.ref rs)]):=fun e=>⟨e _ _ w1,e _ _ w2⟩
 refine nY ?_;clear nY
 rw[J3,Bm,Bh]
 simp (disch:=first|decide|omega) only[Jg,Jr,Jw,Jx,J0,J2,J3,Cm,Ag,Gk (at1 b1.ext).1 (at1 b1.ext).2 (show Iv [(C6.many,V.int m),(C6.rows,V.ref rs)] .many=some (.int m)from rfl)]
 refine Bj (fun i ρ H₂=>(Rm fun(r2 r3:Option V) (as:List Nat)=>ρ = [some (.ref w),some (.ref fd),r2,r3]/\TB H H₂ fd as (C5 m A i))) ⟨_,_,[],rfl,b1⟩ ?_ ?_
 ·rintro i ρ H₂ K hi hP19 hK
  refine Aa fun nY=>?_
  obtain⟨r2,r3,as,rfl,b⟩:=hP19
  have hi':i<m:=hi
  obtain⟨as',z,a1,a2,a3,a4⟩:=(w3.ext b.ext).row (x:=i) (by(first|lia|omega)) (by(first|lia|omega))
  have hzf:z≠fd:=fun h=>by
   refine Aa fun nY=>?_
   obtain⟨as0,z0,c1,c2,c3,c4⟩:=w3.row (x:=i) (by(first|lia|omega)) (by(first|lia|omega))
   have e:H₂ rs=some (.list (as0.map V.ref)):=b.ext _ _ c1
   rw[a1]at e
   have e':as'.map V.ref=as0.map V.ref:=(by injection e with e;injection e)
   rw[e',c3]at a3
   cases a3
   unfold LI at c4
   rw[h,b.new]at c4;cases c4
  refine nY ?_;clear nY
  simp only[Ig,J3,J2,List.set_cons_succ,List.set_cons_zero]
  rw[Bm,C2]
  simp (disch:=first|decide|omega) only[Jg,Jr,Js,Ag,Aj,Gk (at1 b.ext).1 (at1 b.ext).2 (show Iv [(C6.many,V.int m),(C6.rows,V.ref rs)] .rows=some (.ref rs)from rfl),A1 a1 (Int.natCast_nonneg i) a3]
  rw[Int.toNat_natCast]at a4
  rw[C1 a4]
  refine Ia (fun j ρ H₃=>(Gx fun(r3:Option V) (as:List Nat)=>Go (ρ = [some (.ref w),some (.ref fd),some (.int i),r3]) (LI H₃ z (Bc m A i)) (TB H H₃ fd as (C5 m A i++(((Bc m A i).take j).filter fun y=>decide ((i:Int)<y)).map fun y=>((i:Int),y))))) ⟨_,as,rfl,a4,by simpa using b⟩ ?_ ?_ ?_
  ·rintro j ρ H₃ ⟨r3,as,rfl,h,_⟩;exact h
  ·rintro j v ρ H₃ K3 hv hP20 hK3
   refine Aa fun nY=>?_
   obtain⟨r3,as,rfl,hz3,b3⟩:=hP20
   obtain⟨y,hy,rfl⟩:=LI.at_ (a:=z) hv
   have hjl:=(List.getElem?_eq_some_iff.mp hy).1
   have hal:(Bc m A i).length<=m:=D4
   refine nY ?_;clear nY
   simp only[Ie,J3,J2,List.set_cons_succ,List.set_cons_zero]
   refine A3 (decide ((i:Int)<y)) (fun Q' h'=>?_) ?_
   ·simp (disch:=first|decide|omega) only[Jg,Jm,Cu,Ag,Aj];exact h'
   split
   ·rename_i hlt
    have hasl:as.length<1048576:=by
     rw[b3.prs.len,List.length_append,List.length_map]
     have h1:=Eo (m:=m) (A:=A) (k:=i)
     have h2:=List.length_filter_le (fun y=>decide ((i:Int)<y)) ((Bc m A i).take j)
     have h3:((Bc m A i).take j).length<=m:=Nat.le_trans (by simp;(first|lia|omega)) hal
     have h4:m*i<=60*60:=Nat.mul_le_mul hm (by(first|lia|omega))
     (first|lia|omega)
    simp (disch:=first|decide|omega) only[Jg,Jv,Jw,Jx,Jz,J2,J3,Ag,Aj,true_and,Bq,Ej b3.at_]
    refine Am fun tp H₄ e4 n4 v4=>?_
    (try dsimp only);(try simp (disch:=first|decide|omega) only[Jb,Jc,Jd,Je,Jf,Jg,Jh,Ji,Jj,Jk,Jl,Jm,Jn,Jo,Jp,Jq,Jr,Js,Jt,Ju,Jv,Jw,Jx,Jy,Jz,J0,J1,J2,J3,J4,J5,J6,J7,J8,J9,Cu,Cz,Cv,Dl,Ck,C0,Dz,Dm,Dr,Ds,D0,D1,Be,Dn,Du,Dt,Cm,D2,Dv,Dp,List.map,Br,Bs,Ag,Aj,List.replicate,Ba,Bb,Bf,true_and])
    rw[Df (e4 _ _ b3.at_) (by rw[List.length_map];exact hasl)]
    refine hK3 _ _ ⟨_,as ++ [tp],rfl,(hz3.ext e4).upd_ne hzf,?_⟩
    have:=b3.snoc (p:=((i:Int),y)) e4 n4 v4
    rw[List.take_add_one,hy]
    simpa[hlt]using this
   ·rename_i hlt
    simp (disch:=first|decide|omega) only[J2]
    refine hK3 _ _ ⟨_,as,rfl,hz3,?_⟩
    rw[List.take_add_one,hy]
    simpa[hlt]using b3
  ·rintro ρ H₃ hP21
   refine Aa fun nY=>?_
   obtain⟨r3,as,rfl,hz3,b3⟩:=hP21
   rw[List.length_map,List.take_of_length_le (Nat.le_refl _)]at b3
   refine nY ?_;clear nY
   exact hK _ _ ⟨_,_,as,rfl,by rw[Gl];exact b3⟩
 ·rintro ρ H₂ hP22
  refine Aa fun nY=>?_
  obtain⟨r2,r3,as,rfl,b⟩:=hP22
  refine nY ?_;clear nY
  try simp (disch:=first|decide|omega) only[Ag,Aj]
  exact q fd as H₂ b
set_option linter.all false
variable {G:Ap} {n:Nat} {H H':AH} {Q:Ad} {E:EP} {C:CS} {ρ:Ao} {m:Nat} {A:Nat->Nat->Bool}
theorem Xn{k x y:Nat}{p:Int×Int}(hx:H x=some (F3 p))(hy:H y=some (F3 p)):Mi (k+1) H (.ref x) (.ref y)=some true:=by
 unfold F3 at hx hy
 conv=>lhs;whnf
 rw[hx,hy]
 have e:∀i:Int,Mi k H (.int i) (.int i)=some true:=fun i=>by
  have:T7 (.int i) (.int i)=some true:=by show some (decide (i=i))=some true;rw[decide_eq_true rfl]
  cases k with
  | zero=>exact this
  | succ k=>exact this
 show (if 2=2 then Ic [Mi k H (.int p.1) (.int p.1),Mi k H (.int p.2) (.int p.2)]else none)=some true
 rw[e,e];rfl
theorem Xo{x y:Nat}{p:Int×Int}(hx:H x=some (F3 p))(hy:H y=some (F3 p)):Bz .NotEq (.ref x) (.ref y) H Q=Q (.bool false) H:=by
 have:Mi E1 H (.ref x) (.ref y)=some true:=Xn hx hy
 show Ff (Mi E1 H (.ref x) (.ref y)) (fun r=>Q (.bool (!r)) H)=_
 rw[this];rfl
theorem Za(hW:G.fn "_law_whole" = some D9)(hG:G.fn "_law_pairs" = some G3){a b:Nat}{as bs:List Nat}{ps:List (Int×Int)}(ha:H a=some (.list (as.map V.ref)))(hb:H b=some (.list (bs.map V.ref)))(pa:Ah H as ps)(pb:Ah H bs ps)(hl:ps.length<=4000)(q:Q (.bool true) H) :
 Ab G (n+2) "_law_pairs" [.ref a,.ref b] H Q E:=by
 have la:=pa.len
 have lb:=pb.len
 refine Al hG rfl ?_
 simp only[G3,List.map,List.replicate,List.cons_append,List.nil_append]
 refine seq (fun ρ H₁=>ρ = [some (.ref a),some (.ref b),none]/\H=H₁) (fun N hN=>?_) ?_
 ·refine A3 false (fun Q' h'=>?_) ?_
  ·simp (disch:=first|decide|omega) only[Jg,Jh,Jk,Jm,Jq,Jw,Jx,C0,Be,Ag,Aj,Rc ha,Fl ha,Fl hb]
   rw[List.length_map,List.length_map,la,lb]
   simpa using h'
  rw[if_neg (by decide)]
  simp (disch:=first|decide|omega) only[J2]
  exact hN _ _ ⟨rfl,rfl⟩
 rintro _ _ ⟨rfl,rfl⟩
 rw[J3,Bm,Bh]
 simp (disch:=first|decide|omega) only[Jd,Jg,Jq,Jw,Jx,J0,J2,J3,Ag,Aj,Fl hb]
 rw[Cm (by omega) (by rw[List.length_map];omega)]
 refine Bj (fun i ρ H₁=>∃r2,ρ = [some (.ref a),some (.ref b),r2]/\H=H₁) ⟨_,rfl,rfl⟩ ?_ ?_
 ·rintro i ρ _ K hi ⟨r2,rfl,rfl⟩ hK
  have hi':i<ps.length:=by simpa[lb]using hi
  have hx:=List.getElem?_eq_getElem (show i<as.length by omega)
  have hy:=List.getElem?_eq_getElem (show i<bs.length by omega)
  have hp:=List.getElem?_eq_getElem hi'
  generalize as[i]=x at hx
  generalize bs[i]=y at hy
  generalize ps[i]=p at hp
  have ox:=pa.at_ hx hp
  have oy:=pb.at_ hy hp
  have sx:(as.map V.ref)[(i:Int).toNat]? = some (.ref x):=by rw[Int.toNat_natCast,List.getElem?_map,hx];rfl
  have sy:(bs.map V.ref)[(i:Int).toNat]? = some (.ref y):=by rw[Int.toNat_natCast,List.getElem?_map,hy];rfl
  have gx:∀Q':Ad,Cj (.ref a) (.int i) H Q'=Q' (.ref x) H:=fun Q'=>A1 ha (Int.natCast_nonneg i) sx
  have gy:∀Q':Ad,Cj (.ref b) (.int i) H Q'=Q' (.ref y) H:=fun Q'=>A1 hb (Int.natCast_nonneg i) sy
  have ox':H x=some (.tuple [.int p.1,.int p.2]):=ox
  have g0:∀Q':Ad,Cj (.ref x) (.int 0) H Q'=Q' (.int p.1) H:=fun Q'=>Fm ox' (by decide) rfl
  have g1:∀Q':Ad,Cj (.ref x) (.int 1) H Q'=Q' (.int p.2) H:=fun Q'=>Fm ox' (by decide) rfl
  simp only[G2,List.set_cons_succ,List.set_cons_zero]
  refine seq (fun ρ H₁=>ρ = [some (.ref a),some (.ref b),some (.int i)]/\H=H₁) (fun N hN=>?_) ?_
  ·refine A3 false (fun Q' h'=>?_) ?_
   ·simp (disch:=first|decide|omega) only[Je,Jg,Jh,Jk,Jm,Jq,Js,Jw,Jx,C0,Be,Ag,Aj,gx,U0 ox',Aas ox']
    simpa using h'
   rw[if_neg (by decide)]
   simp (disch:=first|decide|omega) only[J2]
   exact hN _ _ ⟨rfl,rfl⟩
  rintro _ _ ⟨rfl,rfl⟩
  rw[J3]
  refine A3 false (fun Q' h'=>?_) ?_
  ·simp (disch:=first|decide|omega) only[Je,Jg,Jh,Jk,Jm,Jp,Js,Jw,Jx,Be,Ag,Aj,Bf,true_and,gx,g0,hW]
   refine Mm hW ?_
   (try dsimp only);(try simp (disch:=first|decide|omega) only[Be])
   simp only[Bool.not_true,Bool.false_eq_true,if_false]
   simp (disch:=first|decide|omega) only[gx,g1]
   refine Mm hW ?_
   (try dsimp only);(try simp (disch:=first|decide|omega) only[Be])
   simp only[Bool.not_true,Bool.false_eq_true,if_false]
   simp (disch:=first|decide|omega) only[gx,gy]
   rw[Xo ox oy]
   exact h'
  rw[if_neg (by decide),J2,J2]
  exact hK _ _ ⟨_,rfl,rfl⟩
 ·rintro ρ _ ⟨r2,rfl,rfl⟩
  try simp (disch:=first|decide|omega) only[Jb,Jc,Jd,Je,Jf,Jg,Jh,Ji,Jj,Jk,Jl,Jm,Jn,Jo,Jp,Jq,Jr,Js,Jt,Ju,Jv,Jw,Jx,Jy,Jz,J0,J1,J2,J3,J4,J5,J6,J7,J8,J9,Cu,Cz,Cv,Dl,Ck,C0,Dz,Dm,Dr,Ds,D0,D1,Be,Dn,Du,Dt,Cm,D2,Dv,Dp,List.map,Br,Bs,Ag,Aj,List.replicate,Ba,Bb,Bf,true_and]
  exact q
set_option linter.all false
variable {G:Ap} {n:Nat} {H H':AH} {Q:Ad} {E:EP} {C:CS} {ρ:Ao} {m:Nat} {A:Nat->Nat->Bool}
theorem Py{m:Nat}{elt:Ao->AH->(Option V->AH->Prop)->Prop}{f:Nat->O}{K:Ad}{y:Option V}
 (step:∀i H' K,i<m->Av H H'->(∀x H'',Av H' H''->H' x=none->H'' x=some (f i)->K (some (.ref x)) H'')->elt (some (.int i)::ρ) H' K)
 (fin:∀as H' a,H' a=none->F4 H (upd H' a (.list (as.map V.ref))) a as m f->K (.ref a) (upd H' a (.list (as.map V.ref)))) :
 B9 (fun _=>True) (.one 0) elt (fun vs H=>A5 (.list vs) H K) ((List.range m).map fun(i:Nat)=> .v (.int i)) [] (y::ρ) H:=by
 refine Cd (k:=0) (fun i acc H'=>(Li fun as=>Z0 (acc=as.map V.ref) (Av H H') (as.length=i) (as.Nodup) ((∀x∈as,H x=none)) (∀(j x:Nat),as[j]? = some x->H' x=some (f j)))) ⟨[],rfl,Av.refl,rfl,List.nodup_nil,by simp,by simp⟩ ?_ ?_
 ·rintro i x acc H' K' hx ⟨as,rfl,h1,h2,h3,h4,h5⟩ hK
  rw[List.getElem?_map]at hx
  obtain⟨j,hj,rfl⟩:=Option.map_eq_some_iff.mp hx
  obtain⟨hlt,he⟩:=List.getElem?_eq_some_iff.mp hj
  simp at hlt he
  subst he
  have h2':as.length=i:=by simpa using h2
  refine⟨trivial,_,rfl,step i H' K' hlt h1 fun x H'' e hx0 hx1=>hK _ _ ⟨as ++ [x],by simp,h1.trans e,by simp[h2],?_,?_,?_⟩⟩
  ·rw[List.nodup_append]
   refine⟨h3,by simp,fun a ha b hb q=>?_⟩
   simp at hb
   subst hb q
   obtain⟨k,hk⟩:=List.mem_iff_getElem?.mp ha
   rw[h5 k _ hk]at hx0;cases hx0
  ·intro y hy
   rcases List.mem_append.mp hy with hy|hy
   ·exact h4 y hy
   ·simp at hy;subst hy;exact h1.isNone hx0
  ·intro k y hy
   cases Nat.lt_or_ge k as.length with
   | inl q=>rw[List.getElem?_append_left q]at hy;exact e _ _ (h5 k y hy)
   | inr q=>
     rw[List.getElem?_append_right q]at hy
     have:k-as.length=0:=by
      obtain⟨z,_⟩:=List.getElem?_eq_some_iff.mp hy
      simp at z;(first|lia|omega)
     rw[this]at hy
     simp at hy
     have hk:k=i:=by(first|lia|omega)
     rw[<-hy,hk];exact hx1
 ·rintro acc H' ⟨as,rfl,h1,h2,h3,h4,h5⟩
  refine⟨trivial,fun a ha=>fin as H' a ha ?_⟩
  have hna:a∉as:=fun q=>by
   obtain⟨k,hk⟩:=List.mem_iff_getElem?.mp q
   rw[h5 k a hk]at ha;cases ha
  exact⟨h1.trans (Av.upd ha),h1.isNone ha,Ae,by simpa using h2,h3,hna,h4,fun i x hx=>(Av.upd ha) _ _ (h5 i x hx)⟩
/-! a list of pairs is cleared -/
theorem Aa1{a:Nat}{o:O}(h:H a=some o):upd H a o=H:=by
 funext b
 unfold upd
 split
 ·rename_i q;rw[q,h]
 ·rfl
theorem Dh.clear{nr hd:Nat}{ts:List Nat}{ps:List (Int×Int)}(h:Dh H nr m A)(hh:H hd=some (.list (ts.map V.ref)))(hP:Ah H ts ps):Dh (upd H hd (.list [])) nr m A:=by
 cases ts with
 | nil=>
   have:H hd=some (.list []):=hh
   rw[Aa1 this];exact h
 | cons t0 tr=>
   obtain⟨p0,hp0,ht0⟩:=hP.ex (i:=0) (x:=t0) rfl
   obtain⟨as,h1,h2,h3⟩:=h
   have hrow:∀(i x:Nat),as[i]? = some x->x≠hd:=fun i x hx q=>by
    have:=h3 i x hx
    unfold LI at this
    rw[q,hh]at this
    cases hl:Bc m A i with
    | nil=>rw[hl]at this;injection this with this;injection this with this;cases this
    | cons y l=>rw[hl]at this;injection this with this;injection this with this;injection this with this _;cases this
   have hne:nr≠hd:=fun q=>by
    rw[q,hh]at h1
    have e:(t0::tr).map V.ref=as.map V.ref:=(by injection h1 with h1;injection h1)
    cases as with
    | nil=>cases e
    | cons a0 ar=>
      have e0:t0=a0:=by
       simp only[List.map_cons]at e
       injection e with e _
       injection e
      have:=h3 0 a0 rfl
      unfold LI at this
      rw[<-e0,ht0]at this
      unfold F3 at this
      cases this
   exact⟨as,by rw[upd_ne hne];exact h1,h2,fun i x hx=>(h3 i x hx).upd_ne (hrow i x hx)⟩
set_option linter.all false
variable {G:Ap} {n:Nat} {H H':AH} {Q:Ad} {E:EP} {C:CS} {ρ:Ao} {m:Nat} {A:Nat->Nat->Bool}
/-! rules of texts -/
theorem Mn:(Str.ofString ":").cps.toList = [58]:=by decide +kernel
theorem Ib:(Str.ofString " ").cps.toList = [32]:=by decide +kernel
theorem Pz:(Str.ofString "-").cps.toList = [45]:=by decide +kernel
theorem T1:(Str.ofString "").cps.toList = []:=by decide +kernel
theorem Aa2:(Str.ofString "0123456789").cps.toList = [48,49,50,51,52,53,54,55,56,57]:=by decide +kernel
theorem Zb:(Str.ofString "0123456789-: a\n\t+_;").cps.toList = [48,49,50,51,52,53,54,55,56,57,45,58,32,97,10,9,43,95,59]:=by decide +kernel
theorem Gm{x y:List Nat}(h:x.length+y.length<=1048576):Fp .Add (.str x) (.str y) H Q=Q (.str (x++y)) H:=propext ⟨fun z=>z.2,fun q=>⟨h,q⟩⟩
theorem P0{i:Int}(h0:0<=i)(h1:i<100):D7 .str [.int i] H Q=Q (.str (Gy i.toNat)) H:=propext ⟨fun z=>z.2,fun q=>⟨⟨h0,h1⟩,q⟩⟩
theorem Mo{x:List Nat}(h:x.length<=1048576):D7 .len [.str x] H Q=Q (.int x.length) H:=propext ⟨fun z=>z.2,fun q=>⟨h,q⟩⟩
theorem Xp{x y:List Nat}:Bz .Eq (.str x) (.str y) H Q=Q (.bool (decide (x=y))) H:=rfl
theorem Re{x y:List Nat}:Bz .NotEq (.str x) (.str y) H Q=Q (.bool (!decide (x=y))) H:=rfl
theorem Zw{c:Nat}{y:List Nat}:Bz .NotIn (.str [c]) (.str y) H Q=Q (.bool (!decide (c∈y))) H:=rfl
theorem Xq{x:List Nat}{i:Nat}(h:Bg x=some i):D7 .int [.str x] H Q=Q (.int i) H:=by
 show Ff (Bg x) (fun i=>Q (.int (i:Int)) H)=_
 rw[h];rfl
theorem Xr{x:List Nat}{K:List It->(AH->Prop)->AH->Prop}:Ki (.str x) H K=K ((x.map fun c=>V.str [c]).map .v) (fun _=>True) H:=by
 rw[List.map_map];rfl
theorem Lh{x:List Nat}{c:Nat}(h:x.length<1048576):Ru .split (.str x) [.str [c]] H Q=A5 (.list ((Af c x).map V.str)) H Q:=propext ⟨fun z=>z.2,fun q=>⟨h,q⟩⟩
theorem Fd{x:List Nat}{m:LM}(h:m = .split\/m = .join):Gz m (.str x) H=True:=by
 rcases h with rfl|rfl<;>rfl
theorem Rf:∀ {ts:List (List Nat)},strs? (ts.map V.str)=some ts
 | []=>rfl
 | t::r=>by
   show (strs? (r.map V.str)).map (t :: ·)=_
   rw[Rf];rfl
theorem S1{x:List Nat}{a:Nat}{ts:List (List Nat)}(hx:x.length<=1000)(h:H a=some (.list (ts.map V.str)))(hl:(B7 x ts).length<=1048576):Ru .join (.str x) [.ref a] H Q=Q (.str (B7 x ts)) H:=by
 show Ob (H a) (fun xs=>Ff (strs? xs) fun ts=>(x.length<=1000/\(B7 x ts).length<=B6)/\Q (.str (B7 x ts)) H)=_
 rw[h]
 show Ff (strs? (ts.map V.str)) (fun ts=>(x.length<=1000/\(B7 x ts).length<=B6)/\Q (.str (B7 x ts)) H)=_
 rw[Rf]
 exact propext ⟨fun z=>z.2,fun q=>⟨⟨hx,hl⟩,q⟩⟩
theorem Di{x:List Nat}{l u:V}{l' u':Option Int}(hx:x.length<=1048576)(hl:bound? l=some l')(hu:bound? u=some u'):F6 (.str x) l u .none H Q=Q (.str (cut x l' u')) H:=by
 show Ff (bound? l) (fun l'=>Ff (bound? u) fun u'=>(V.none = .none/\x.length<=B6)/\Q (.str (cut x l' u')) H)=_
 rw[hl,hu]
 exact propext ⟨fun z=>z.2,fun q=>⟨⟨rfl,hx⟩,q⟩⟩
theorem Aa3{x:List Nat}{k:Int}{c:Nat}(hx:x.length<=1048576)(h0:0<=k)(h:x[k.toNat]? = some c):Cj (.str x) (.int k) H Q=Q (.str [c]) H:=by
 have hlt:=(List.getElem?_eq_some_iff.mp h).1
 have:Ci k x.length=some k.toNat:=by delta Ci;rw[if_pos h0,if_pos (by omega)]
 show (x.length<=B6/\Ff (Ci k x.length) fun j=>Ff x[j]? fun c=>Q (.str [c]) H)=_
 rw[this]
 show (x.length<=B6/\Ff x[k.toNat]? fun c=>Q (.str [c]) H)=_
 rw[h]
 exact propext ⟨fun z=>z.2,fun q=>⟨hx,q⟩⟩
/-! numbers written -/
theorem Xs(c:Nat):decide (c∈[48,49,50,51,52,53,54,55,56,57])=Lj c:=by
 unfold Lj
 rw[Bool.eq_iff_iff]
 simp only[decide_eq_true_eq,Bool.and_eq_true,List.mem_cons,List.not_mem_nil,or_false]
 omega
theorem P1{c:Nat}(h:Lj c=true):48<=c/\c<=57:=by
 unfold Lj at h
 simpa using h
theorem T2:Bg []=none:=rfl
theorem Rg{w:List Nat}(h:2<w.length):Bg w=none:=by
 rcases w with _ | ⟨a,_ | ⟨b,_ | ⟨c,r⟩⟩⟩
 ·simp at h
 ·simp at h
 ·simp at h
 ·rfl
theorem T3{w:List Nat}{c:Nat}(h:c∈w)(hc:Lj c=false):Bg w=none:=by
 rcases w with _ | ⟨a,_ | ⟨b,_ | ⟨d,r⟩⟩⟩
 ·cases h
 ·have:c=a:=by simpa using h
  subst this
  show (if Lj c=true then _ else _)=_
  rw[hc];rfl
 ·show (if (Lj a&&Lj b)=true then _ else _)=_
  rw[if_neg]
  rcases List.mem_cons.mp h with rfl|h
  ·rw[hc];simp
  ·have:c=b:=by simpa using h
   subst this
   rw[hc];simp
 ·rfl
theorem Rh{w:List Nat}(h1:w≠[])(h2:w.length<=2)(hd:∀c∈w,Lj c=true):∃i,Bg w=some i:=by
 rcases w with _ | ⟨a,_ | ⟨b,_ | ⟨d,r⟩⟩⟩
 ·exact absurd rfl h1
 ·exact⟨_,if_pos (hd a (.head _))⟩
 ·exact⟨_,if_pos (by rw[hd a (.head _),hd b (.tail _ (.head _))];rfl)⟩
 ·simp at h2
theorem Aa4{w:List Nat}{i:Nat}(h:Bg w=some i):i<100:=by
 rcases w with _ | ⟨a,_ | ⟨b,_ | ⟨d,r⟩⟩⟩
 ·cases h
 ·replace h:(if Lj a=true then some (a-48)else none)=some i:=h
  split at h
  ·rename_i z;have:=P1 z;cases h;omega
  ·cases h
 ·replace h:(if (Lj a&&Lj b)=true then some ((a-48)*10+(b-48))else none)=some i:=h
  split at h
  ·rename_i z
   have z:=Bool.and_eq_true_iff.mp z
   have h1:=P1 z.1
   have h2:=P1 z.2
   cases h;omega
  ·cases h
 ·cases h
theorem Ek(n:Nat):(Gy n).length<=2:=by
 unfold Gy
 split<;>simp
/-! words of a web -/
noncomputable def Hy(p:Int×Int):List Nat:=Gy p.1.toNat ++ [45]++Gy p.2.toNat
noncomputable def Bx(m:Nat)(ps:List (Int×Int)):List (List Nat):=(Gy m ++ [58])::ps.map Hy
noncomputable def Bv(m:Nat)(A:Nat->Nat->Bool):List Nat:=B7 [32] (Bx m (C5 m A m))
theorem Xu(p:Int×Int):(Hy p).length<=5:=by
 unfold Hy
 have h1:=Ek p.1.toNat
 have h2:=Ek p.2.toNat
 simp only[List.length_append,List.length_cons,List.length_nil]
 omega
theorem Ri:∀ {ts:List (List Nat)},(∀t∈ts,t.length<=5)->(B7 [32] ts).length<=6*ts.length
 | [],_=>by simp[B7]
 | [t],h=>by
   have:=h t (.head _)
   show t.length<=6*1
   omega
 | t::u::r,h=>by
   have h1:=h t (.head _)
   have h2:=Ri (ts:=u::r) fun x hx=>h x (.tail _ hx)
   show (t ++ [32]++B7 [32] (u::r)).length<=_
   simp only[List.length_append,List.length_cons,List.length_nil]at h2 ⊢
   omega
theorem U5{ps:List (Int×Int)}:(B7 [32] (Bx m ps)).length<=6*(ps.length+1):=by
 refine Nat.le_trans (Ri fun t ht=>?_) (by simp[Bx])
 unfold Bx at ht
 rcases List.mem_cons.mp ht with rfl|ht
 ·have:=Ek m
  simp only[List.length_append,List.length_cons,List.length_nil];omega
 ·obtain⟨p,_,rfl⟩:=List.mem_map.mp ht
  exact Xu p
theorem Lv(hm:m<=60):(Bv m A).length<=21606:=by
 have h1:=Eo (m:=m) (A:=A) (k:=m)
 have h2:m*m<=60*60:=Nat.mul_le_mul hm hm
 have h3:=U5 (m:=m) (ps:=C5 m A m)
 unfold Bv
 omega
theorem U6:0<(Bv m A).length:=by
 unfold Bv Bx
 cases h:(C5 m A m).map Hy with
 | nil=>show 0<(Gy m ++ [58]).length;simp
 | cons u r=>show 0<((Gy m ++ [58]) ++ [32]++B7 [32] (u::r)).length;simp only[List.length_append,List.length_cons];omega
theorem Aa5{p:Int×Int}(h:p∈C5 m A m):(0<=p.1/\p.1<m)/\(0<=p.2/\p.2<m):=by
 unfold C5 at h
 obtain⟨i,hi,h⟩:=List.mem_flatMap.mp h
 have hi:=List.mem_range.mp hi
 unfold Hx at h
 obtain⟨y,hy,rfl⟩:=List.mem_map.mp h
 have hy:=(List.mem_filter.mp hy).1
 unfold Bc Nt at hy
 obtain⟨k,hk,rfl⟩:=List.mem_map.mp hy
 have hk:=List.mem_range.mp (List.mem_filter.mp hk).1
 dsimp only
 omega
set_option linter.all false
variable {G:Ap} {n:Nat} {H H':AH} {Q:Ad} {E:EP} {C:CS} {ρ:Ao} {m:Nat} {A:Nat->Nat->Bool}
structure WL(H H':AH)(a:Nat)(ts:List (List Nat)):Prop where
 ext:Av H H'
 new:H a=none
 at_:H' a=some (.list (ts.map V.str))
theorem P2(B:Ht G)(hS:G.fn "shown" = some O8){w:Nat}(hm:m<=60)(hW:F5 H w m A)(q:∀H',Av H H'->Q (.str (Bv m A)) H'):Ab G (n+2) "shown" [.ref w] H Q E:=by
 obtain⟨d,rs,w1,w2,w3⟩:=hW
 refine Al hS rfl ?_
 simp only[O8,List.map,List.replicate,List.cons_append,List.nil_append]
 refine seq (fun ρ H₁=>∃fd,ρ = [some (.ref w),some (.ref fd),none,none]/\WL H H₁ fd (Bx m [])) (fun N hN=>?_) ?_
 ·simp (disch:=first|decide|omega) only[Jf,Jg,Jl,Jq,Jr,Ju,Jw,Jx,Jy,Ag,Ba,Bb,Gk w1 w2 (show Iv [(C6.many,V.int m),(C6.rows,V.ref rs)] .many=some (.int m)from rfl),P0,Mn]
  rw[Gm (by have:=Ek m;simp;omega)]
  refine Am fun a H₁ e n v=>hN _ _ ⟨a,rfl,e,n,by rw[v,Int.toNat_natCast];rfl⟩
 rintro _ H₁ ⟨fd,rfl,b1⟩
 have at1:∀ {X:AH},Av H X->X w=some (.inst .web d)/\X d=some (.ns [(C6.many,V.int m),(C6.rows,V.ref rs)]):=fun e=>⟨e _ _ w1,e _ _ w2⟩
 refine seq (fun ρ H₂=>(Gx fun(r2 r3:Option V)=>ρ = [some (.ref w),some (.ref fd),r2,r3]/\WL H H₂ fd (Bx m (C5 m A m)))) (fun N hN=>?_) ?_
 ·rw[Bm,C2]
  simp (disch:=first|decide|omega) only[Jg,Jw,Ag,Bf,true_and,Aq,C7,C8,E3,(at1 b1.ext).1,(at1 b1.ext).2,B.wties]
  refine T0 B hm ⟨d,rs,(at1 b1.ext).1,(at1 b1.ext).2,w3.ext b1.ext⟩ fun a as H₂ t=>?_
  have hfd:H₂ fd=some (.list ((Bx m []).map V.str)):=t.ext _ _ b1.at_
  have hne:fd≠a:=fun h=>by have z:=t.new;rw[<-h,b1.at_]at z;cases z
  rw[C1 t.at_]
  refine Ez (ps:=C5 m A m) (fun i ρ H₃=>(Gx fun(r2 r3:Option V)=>Rq (ρ = [some (.ref w),some (.ref fd),r2,r3]) (WL H H₃ fd (Bx m ((C5 m A m).take i))) (H₃ a=some (.list (as.map V.ref))) (Ah H₃ as (C5 m A m)))) ⟨_,_,rfl,⟨b1.ext.trans t.ext,b1.new,hfd⟩,t.at_,t.prs⟩ ?_ ?_ ?_
  ·rintro i ρ H₃ ⟨r2,r3,rfl,_,h1,h2⟩;exact⟨h1,h2⟩
  ·rintro i p ρ H₃ K hp ⟨r2,r3,rfl,b,h1,h2⟩ hK
   have hpi:=Aa5 (List.mem_of_getElem? hp)
   have hl1:=Ek p.1.toNat
   have hl2:=Ek p.2.toNat
   have hil:=(List.getElem?_eq_some_iff.mp hp).1
   have htl:=Eo (m:=m) (A:=A) (k:=m)
   have hmm:m*m<=60*60:=Nat.mul_le_mul hm hm
   simp only[Mw,J3,J2,List.set_cons_succ,List.set_cons_zero]
   simp (disch:=first|decide|omega) only[Jf,Jg,Jl,Jq,Jw,Jx,Jz,Ag,Aj,true_and,Bq,Ej b.at_,P0,Pz]
   rw[Gm (by simp;omega),Gm (by simp;omega),Df b.at_ (by simp[Bx];omega)]
   have hx:∀x∈as,x≠fd:=fun x hx q=>by
    obtain⟨j,hj⟩:=List.mem_iff_getElem?.mp hx
    obtain⟨p',_,hp'⟩:=h2.ex hj
    rw[q,b.at_]at hp';cases hp'
   refine hK _ _ ⟨_,_,rfl,⟨b.ext.upd' b.new,b.new,?_⟩,?_,?_⟩
   ·rw[Ae,List.take_add_one,hp]
    simp[Bx,Hy]
   ·rw[upd_ne (Ne.symm hne)];exact h1
   ·exact h2.ext' fun x hx' o q=>by rw[upd_ne (hx x hx')];exact q
  ·rintro ρ H₃ ⟨r2,r3,rfl,b,_,_⟩
   rw[List.take_of_length_le (Nat.le_refl _)]at b
   exact hN _ _ ⟨_,_,rfl,b⟩
 rintro _ H₂ ⟨r2,r3,rfl,b⟩
 rw[J3,J0]
 simp (disch:=first|decide|omega) only[Jf,Jg,Jw,Jx,Ag,Aj,true_and,Bq,Ib,Fd]
 rw[S1 (by decide) b.at_ (Nat.le_trans (Lv (A:=A) hm) (by decide))]
 exact q _ b.ext
theorem Nv(hS:G.fn "_law_shown" = some G8){nr:Nat}(hm:m<=60)(hN:Dh H nr m A)(q:∀H',Av H H'->Q (.str (Bv m A)) H'):Ab G (n+1) "_law_shown" [.int m,.ref nr] H Q E:=by
 refine Al hS rfl ?_
 simp only[G8,List.map,List.replicate,List.cons_append,List.nil_append]
 refine seq (fun ρ H₁=>∃fd,ρ = [some (.int m),some (.ref nr),some (.ref fd),none]/\WL H H₁ fd (Bx m [])) (fun N hN'=>?_) ?_
 ·simp (disch:=first|decide|omega) only[Jf,Jg,Jl,Jq,Ju,Jw,Jx,Jy,Ag,Ba,Bb,P0,Mn]
  rw[Gm (by have:=Ek m;simp;omega)]
  refine Am fun a H₁ e n v=>hN' _ _ ⟨a,rfl,e,n,by rw[v,Int.toNat_natCast];rfl⟩
 rintro _ H₁ ⟨fd,rfl,b1⟩
 refine seq (fun ρ H₂=>(Gx fun(fd:Nat) (r3:Option V)=>ρ = [some (.int m),some (.ref nr),some (.ref fd),r3]/\WL H H₂ fd (Bx m (C5 m A m)))) (fun N hN'=>?_) ?_
 ·rw[Bm,Bh]
  simp (disch:=first|decide|omega) only[Jg,Jw,Jx,Cm,Ag]
  refine Bj (fun i ρ H₂=>(Gx fun(fd:Nat) (r3:Option V)=>ρ = [some (.int m),some (.ref nr),some (.ref fd),r3]/\WL H H₂ fd (Bx m (C5 m A i)))) ⟨fd,_,rfl,b1⟩ ?_ ?_
  ·rintro i ρ H₂ K hi ⟨fd,r3,rfl,b⟩ hK
   have hi':i<m:=by simpa using hi
   obtain⟨as',z,a1,a2,a3,a4⟩:=(hN.ext b.ext).row (x:=i) (by omega) (by omega)
   rw[Int.toNat_natCast]at a4
   have hal:(Bc m A i).length<=m:=D4
   simp only[G7,J3,J2,List.set_cons_succ,List.set_cons_zero]
   simp (disch:=first|decide|omega) only[Jg,Jl,Jy,Ag,Aj,Ba,Bb]
   rw[An,C2]
   simp (disch:=first|decide|omega) only[Jg,Js,J4,Br,Bs,Ag,Aj,List.replicate]
   rw[A1 a1 (Int.natCast_nonneg i) a3,C1 a4]
   refine⟨by rw[List.length_map,List.length_map];exact Nat.le_trans hal (Nat.le_trans hm (by decide)),?_⟩
   have hdi:=Ek i
   refine Nr (f:=fun v=>match v with | .int x=>if decide ((i:Int)<x)then some (.str (Hy ((i:Int),x)))else none|_=>none) a4 (fun v hv K' hK'=>?_) ?_
   ·obtain⟨x,hx,rfl⟩:=List.mem_map.mp hv
    unfold Bc Nt at hx
    obtain⟨k,hk,rfl⟩:=List.mem_map.mp hx
    have hk:=List.mem_range.mp (List.mem_filter.mp hk).1
    have hdk:=Ek k
    dsimp only at hK'
    simp (disch:=first|decide|omega) only[Jg,Jm,Cv,Be,Ag,Aj,G5]
    split
    ·rename_i hlt
     rw[if_pos hlt]at hK'
     simp (disch:=first|decide|omega) only[Jf,Jg,Jl,Jq,Jw,Jx,Ag,Aj,G6,P0,Pz]
     simp only[Int.toNat_natCast]
     rw[Gm (by simp;omega),Gm (by simp;omega)]
     exact hK'
    ·rename_i hlt
     rw[if_neg hlt]at hK'
     exact hK'
   ·refine Am fun c H₃ e3 n3 v3=>?_
    (try dsimp only);(try simp (disch:=first|decide|omega) only[Jb,Jc,Jd,Je,Jf,Jg,Jh,Ji,Jj,Jk,Jl,Jm,Jn,Jo,Jp,Jq,Jr,Js,Jt,Ju,Jv,Jw,Jx,Jy,Jz,J0,J1,J2,J3,J4,J5,J6,J7,J8,J9,Cu,Cz,Cv,Dl,Ck,C0,Dz,Dm,Dr,Ds,D0,D1,Be,Dn,Du,Dt,Cm,D2,Dv,Dp,List.map,Br,Bs,Ag,Aj,List.replicate,Ba,Bb,Bf,true_and])
    have hf:((Bc m A i).map V.int).filterMap (fun v=>match v with | .int x=>if decide ((i:Int)<x)then some (V.str (Hy ((i:Int),x)))else none|_=>none)=((Hx m A i).map Hy).map V.str:=by
     unfold Hx
     rw[List.filterMap_map,List.map_map,List.map_map]
     generalize Bc m A i=l
     induction l with
     | nil=>rfl
     | cons x r ih=>
       rw[List.filterMap_cons,List.filter_cons]
       by_cases hx:(i:Int)<x
       ·simp only[Function.comp,hx,decide_true,if_true,List.map_cons]at ih ⊢
        rw[ih]
       ·simp only[Function.comp,hx,decide_false,Bool.false_eq_true,if_false]at ih ⊢
        exact ih
    rw[hf]at v3
    have hl1:=Eo (m:=m) (A:=A) (k:=i)
    have hl2:=Kf (m:=m) (A:=A) (i:=i)
    have hmm:m*i<=60*60:=Nat.mul_le_mul hm (by omega)
    rw[Kd (e3 _ _ b.at_) v3 (by simp[Bx];omega)]
    refine Am fun fd2 H₄ e4 n4 v4=>hK _ _ ⟨fd2,_,rfl,b.ext.trans (e3.trans e4),(b.ext.trans e3).isNone n4,?_⟩
    rw[v4,Gl]
    simp[Bx]
  ·rintro ρ H₂ ⟨fd,r3,rfl,b⟩
   exact hN' _ _ ⟨fd,_,rfl,b⟩
 rintro _ H₂ ⟨fd,r3,rfl,b⟩
 rw[J3,J0]
 simp (disch:=first|decide|omega) only[Jf,Jg,Jw,Jx,Ag,Aj,true_and,Bq,Ib,Fd]
 rw[S1 (by decide) b.at_ (Nat.le_trans (Lv (A:=A) hm) (by decide))]
 exact q _ b.ext
set_option linter.all false
variable {G:Ap} {n:Nat} {H H':AH} {Q:Ad} {E:EP} {C:CS} {ρ:Ao} {m:Nat} {A:Nat->Nat->Bool}
theorem Kg(hS:G.fn "number_of" = some E6)(hF:G.const "FIGURES" = some (.str [48,49,50,51,52,53,54,55,56,57]))(hX:G.exc .badText=true){w:List Nat}(hw:w.length<=1048576)(q:∀i,Bg w=some i->Q (.int i) H)
 (e:Bg w=none->∀a,H a=none->E (.ref a) (upd H a (.exc .badText))):Ab G (n+1) "number_of" [.str w] H Q E:=by
 refine Al hS rfl ?_
 simp only[E6,List.map,List.replicate,List.cons_append,List.nil_append]
 refine seq (fun ρ H₁=>ρ = [some (.str w),none]/\H=H₁/\w≠[]/\w.length<=2) (fun N hN=>?_) ?_
 ·refine A3 (decide (w = []\/2<w.length)) (fun Q' h'=>?_) ?_
  ·simp (disch:=first|decide|omega) only[Je,Jf,Jg,Jk,Jm,Jq,Jw,Jx,Be,Ag,T1,Xp]
   by_cases z:w = []
   ·simp only[z,decide_true,if_true,true_or]at h' ⊢;exact h'
   ·simp only[z,decide_false,Bool.false_eq_true,if_false,false_or]at h' ⊢
    simp (disch:=first|decide|omega) only[Cv,Mo hw]
    have:decide ((2:Int)<(w.length:Int))=decide (2<w.length):=by rw[Bool.eq_iff_iff];simp;omega
    rw[this];exact h'
  split
  ·rename_i z
   simp only[J3,Bo]
   refine⟨hX,e ?_⟩
   rcases of_decide_eq_true z with rfl|z
   ·exact T2
   ·exact Rg z
  ·rename_i z
   have z:¬(w = []\/2<w.length):=of_decide_eq_false (by simpa using z)
   simp (disch:=first|decide|omega) only[J2]
   exact hN _ _ ⟨rfl,rfl,fun h=>z (.inl h),by omega⟩
 rintro _ _ ⟨rfl,rfl,z1,z2⟩
 refine seq (fun ρ H₁=>(Li fun(r1:Option V)=>Go (ρ = [some (.str w),r1]) (H=H₁) (∀c∈w,Lj c=true))) (fun N hN=>?_) ?_
 ·rw[Bm,C2]
  simp (disch:=first|decide|omega) only[Jg,Ag]
  rw[Xr]
  refine Nu (fun i ρ H₁=>(Li fun(r1:Option V)=>Go (ρ = [some (.str w),r1]) (H=H₁) (∀c∈w.take i,Lj c=true))) ⟨_,rfl,rfl,by simp⟩ (fun _ _ _ _=>trivial) ?_ ?_
  ·rintro i x ρ _ K hx ⟨r1,rfl,rfl,hd⟩ hK
   rw[List.getElem?_map]at hx
   obtain⟨c,hc,rfl⟩:=Option.map_eq_some_iff.mp hx
   simp only[G4,J3,J2,List.set_cons_succ,List.set_cons_zero]
   refine A3 (!Lj c) (fun Q' h'=>?_) ?_
   ·simp (disch:=first|decide|omega) only[Jg,Jm,Ag,Aj,Pu hF,Zw]
    rw[Xs];exact h'
   cases hdc:Lj c with
   | true=>
     simp only[Bool.not_true,Bool.false_eq_true,if_false,J2]
     refine hK _ _ ⟨_,rfl,rfl,fun y hy=>?_⟩
     rw[List.take_add_one,hc]at hy
     rcases List.mem_append.mp hy with hy|hy
     ·exact hd y hy
     ·have:y=c:=by simpa using hy
      rw[this];exact hdc
   | false=>
     simp only[Bool.not_false,if_true,J3,Bo]
     exact⟨hX,e (T3 (List.mem_of_getElem? hc) hdc)⟩
  ·rintro ρ _ ⟨r1,rfl,rfl,hd⟩
   rw[List.length_map,List.take_of_length_le (Nat.le_refl _)]at hd
   exact hN _ _ ⟨_,rfl,rfl,hd⟩
 rintro _ _ ⟨r1,rfl,rfl,hd⟩
 obtain⟨i,hi⟩:=Rh z1 z2 hd
 rw[J3,J0]
 simp (disch:=first|decide|omega) only[Jg,Jq,Jw,Jx,Ag]
 rw[Xq hi]
 exact q i hi
noncomputable def Ai(w:List Nat):Nat:=(Bg w).getD 99
theorem Fe(hS:G.fn "_law_number" = some Ga){w:List Nat}(hw:w.length<=1048576)(q:Q (.int (Ai w)) H):Ab G (n+1) "_law_number" [.str w] H Q E:=by
 have q0:Bg w=none->Q (.int 99) H:=fun h=>by
  unfold Ai at q
  rw[h]at q
  exact q
 refine Al hS rfl ?_
 simp only[Ga,List.map,List.replicate,List.cons_append,List.nil_append]
 refine seq (fun ρ H₁=>ρ = [some (.str w),none]/\H=H₁/\w≠[]/\w.length<=2) (fun N hN=>?_) ?_
 ·refine A3 (decide (w = []\/2<w.length)) (fun Q' h'=>?_) ?_
  ·simp (disch:=first|decide|omega) only[Je,Jf,Jg,Jk,Jm,Jq,Jw,Jx,Be,Ag,T1,Xp]
   by_cases z:w = []
   ·simp only[z,decide_true,if_true,true_or]at h' ⊢;exact h'
   ·simp only[z,decide_false,Bool.false_eq_true,if_false,false_or]at h' ⊢
    simp (disch:=first|decide|omega) only[Cv,Mo hw]
    have:decide ((2:Int)<(w.length:Int))=decide (2<w.length):=by rw[Bool.eq_iff_iff];simp;omega
    rw[this];exact h'
  split
  ·rename_i z
   simp (disch:=first|decide|omega) only[Je,J0,J2,J3]
   refine q0 ?_
   rcases of_decide_eq_true z with rfl|z
   ·exact T2
   ·exact Rg z
  ·rename_i z
   have z:¬(w = []\/2<w.length):=of_decide_eq_false (by simpa using z)
   simp (disch:=first|decide|omega) only[J2]
   exact hN _ _ ⟨rfl,rfl,fun h=>z (.inl h),by omega⟩
 rintro _ _ ⟨rfl,rfl,z1,z2⟩
 refine seq (fun ρ H₁=>(Li fun(r1:Option V)=>Go (ρ = [some (.str w),r1]) (H=H₁) (∀c∈w,Lj c=true))) (fun N hN=>?_) ?_
 ·rw[Bm,C2]
  simp (disch:=first|decide|omega) only[Jg,Ag]
  rw[Xr]
  refine Nu (fun i ρ H₁=>(Li fun(r1:Option V)=>Go (ρ = [some (.str w),r1]) (H=H₁) (∀c∈w.take i,Lj c=true))) ⟨_,rfl,rfl,by simp⟩ (fun _ _ _ _=>trivial) ?_ ?_
  ·rintro i x ρ _ K hx ⟨r1,rfl,rfl,hd⟩ hK
   rw[List.getElem?_map]at hx
   obtain⟨c,hc,rfl⟩:=Option.map_eq_some_iff.mp hx
   simp only[Gr,J3,J2,List.set_cons_succ,List.set_cons_zero]
   refine A3 (!Lj c) (fun Q' h'=>?_) ?_
   ·simp (disch:=first|decide|omega) only[Jf,Jg,Jm,Ag,Aj,Aa2,Zw]
    rw[Xs];exact h'
   cases hdc:Lj c with
   | true=>
     simp only[Bool.not_true,Bool.false_eq_true,if_false,J2]
     refine hK _ _ ⟨_,rfl,rfl,fun y hy=>?_⟩
     rw[List.take_add_one,hc]at hy
     rcases List.mem_append.mp hy with hy|hy
     ·exact hd y hy
     ·have:y=c:=by simpa using hy
      rw[this];exact hdc
   | false=>
     simp only[Bool.not_false,if_true]
     simp (disch:=first|decide|omega) only[Je,J0,J2,J3]
     exact q0 (T3 (List.mem_of_getElem? hc) hdc)
  ·rintro ρ _ ⟨r1,rfl,rfl,hd⟩
   rw[List.length_map,List.take_of_length_le (Nat.le_refl _)]at hd
   exact hN _ _ ⟨_,rfl,rfl,hd⟩
 rintro _ _ ⟨r1,rfl,rfl,hd⟩
 obtain⟨i,hi⟩:=Rh z1 z2 hd
 rw[J3,J0]
 simp (disch:=first|decide|omega) only[Jg,Jq,Jw,Jx,Ag]
 rw[Xq hi]
 unfold Ai at q
 rw[hi]at q
 exact q
/-! parts of a text -/
theorem Ep{c:Nat}:∀ {x:List Nat},(Af c x).length<=x.length+1/\∀p∈Af c x,p.length<=x.length
 | []=>⟨Nat.le_refl _,fun p hp=>by simp[Af]at hp;simp[hp]⟩
 | d::r=>by
   obtain⟨h1,h2⟩:=Ep (c:=c) (x:=r)
   show ((if d=c then []::Af c r else Kh d (Af c r)).length<=(d::r).length+1)/\∀p∈(if d=c then []::Af c r else Kh d (Af c r)),p.length<=(d::r).length
   split
   ·refine⟨by simp;omega,fun p hp=>?_⟩
    rcases List.mem_cons.mp hp with rfl|hp
    ·simp
    ·have:=h2 p hp;simp;omega
   ·generalize Af c r=l at h1 h2
    cases l with
    | nil=>
      refine⟨by show 1<=_;simp,fun p hp=>?_⟩
      have z:p = [d]:=by simpa[Kh]using hp
      simp[z]
    | cons u v=>
      refine⟨by show (v.length+1)<=_;simp at h1 ⊢;omega,fun p hp=>?_⟩
      rcases List.mem_cons.mp (show p∈(d::u)::v from hp)with rfl|hp
      ·have:=h2 u (.head _);simp;omega
      ·have:=h2 p (.tail _ hp);simp;omega
theorem Nw{c:Nat}{x:List Nat}:Af c x≠[]:=by
 cases x with
 | nil=>nofun
 | cons d r=>
   show (if d=c then []::Af c r else Kh d (Af c r))≠[]
   split
   ·nofun
   ·cases Af c r<;>nofun
noncomputable def P3:List (List Nat)->Option (Int×Int)
 | [a,b]=>(match Bg a,Bg b with
   | some i,some j=>some ((i:Int),(j:Int))
   | _,_=>none)
 | _=>none
noncomputable def Ee(w:List Nat):Option (Int×Int):=P3 (Af 45 w)
theorem P4{ps:List (List Nat)}{a b:List Nat}{i j:Nat}(h:ps = [a,b])(ha:Bg a=some i)(hb:Bg b=some j):P3 ps=some ((i:Int),(j:Int)):=by
 subst h
 show (match Bg a,Bg b with|some i,some j=>some ((i:Int),(j:Int))|_,_=>none)=_
 rw[ha,hb]
theorem T4{ps:List (List Nat)}(h:ps.length≠2):P3 ps=none:=by
 rcases ps with _ | ⟨a,_ | ⟨b,_ | ⟨c,r⟩⟩⟩
 ·rfl
 ·rfl
 ·exact absurd rfl h
 ·rfl
theorem Mp{a b:List Nat}(h:Bg a=none\/Bg b=none):P3 [a,b]=none:=by
 show (match Bg a,Bg b with|some i,some j=>some ((i:Int),(j:Int))|_,_=>none)=_
 rcases h with h|h
 ·rw[h]
 ·rw[h]
  cases Bg a<;>rfl
theorem Zc(hS:G.fn "tie_of" = some Mx)(hN:G.fn "number_of" = some E6)(hF:G.const "FIGURES" = some (.str [48,49,50,51,52,53,54,55,56,57]))(hX:G.exc .badText=true){w:List Nat}(hw:w.length<=1000000)
 (q:∀p t H',Ee w=some p->Av H H'->H t=none->H' t=some (F3 p)->Q (.ref t) H') (e:Ee w=none->∀a H',Av H H'->H' a=none->E (.ref a) (upd H' a (.exc .badText))):Ab G (n+2) "tie_of" [.str w] H Q E:=by
 obtain⟨hl1,hl2⟩:=Ep (c:=45) (x:=w)
 refine Al hS rfl ?_
 simp only[Mx,List.map,List.replicate,List.cons_append,List.nil_append]
 refine seq (fun ρ H₁=>∃a,ρ = [some (.str w),some (.ref a)]/\WL H H₁ a (Af 45 w)) (fun N hN'=>?_) ?_
 ·simp (disch:=first|decide|omega) only[Jf,Jg,Jw,Jx,Jy,Ag,Ba,Bb,true_and,Bq,Pz,Fd]
  rw[Lh (by omega)]
  exact Am fun a H₁ e n v=>hN' _ _ ⟨a,rfl,e,n,v⟩
 rintro _ H₁ ⟨a,rfl,b⟩
 refine seq (fun ρ H₂=>H₁=H₂/\ρ = [some (.str w),some (.ref a)]/\(Af 45 w).length=2) (fun N hN'=>?_) ?_
 ·refine A3 (!decide ((Af 45 w).length=2)) (fun Q' h'=>?_) ?_
  ·simp (disch:=first|decide|omega) only[Je,Jg,Jm,Jq,Jw,Jx,C0,Ag,Aj,Fl b.at_]
   rw[List.length_map]
   have:decide (((Af 45 w).length:Int)=2)=decide ((Af 45 w).length=2):=by rw[Bool.eq_iff_iff];simp;omega
   rw[this];exact h'
  by_cases z:(Af 45 w).length=2
  ·rw[decide_eq_true z]
   simp only[Bool.not_true,Bool.false_eq_true,if_false,J2]
   exact hN' _ _ ⟨rfl,rfl,z⟩
  ·rw[decide_eq_false z]
   simp only[Bool.not_false,if_true,J3,Bo]
   exact⟨hX,fun x hx=>e (T4 z) x H₁ b.ext hx⟩
 rintro _ _ ⟨rfl,rfl,z⟩
 obtain⟨u,v,huv⟩:(Gx fun u v=>Af 45 w = [u,v]):=by
  rcases h:Af 45 w with _ | ⟨u,_ | ⟨v,_ | ⟨c,r⟩⟩⟩
  ·rw[h]at z;cases z
  ·rw[h]at z;cases z
  ·exact⟨u,v,rfl⟩
  ·rw[h]at z;simp at z
 have hb:=b.at_
 rw[huv]at hb
 have hu:=hl2 u (by rw[huv];exact .head _)
 have hv:=hl2 v (by rw[huv];exact .tail _ (.head _))
 have g0:∀ {Q':Ad},Cj (.ref a) (.int 0) H₁ Q'=Q' (.str u) H₁:=A1 hb (by decide) rfl
 have g1:∀ {Q':Ad},Cj (.ref a) (.int 1) H₁ Q'=Q' (.str v) H₁:=A1 hb (by decide) rfl
 rw[J3,J0]
 simp (disch:=first|decide|omega) only[Je,Jg,Jp,Js,Jv,Jw,Jx,Ag,Aj,Bf,true_and,hN,g0]
 refine Kg hN hF hX (by omega) (fun i hi=>?_) fun hi x hx=>e (by unfold Ee;rw[huv];exact Mp (.inl hi)) x H₁ b.ext hx
 (try dsimp only);(try simp (disch:=first|decide|omega) only[Jb,Jc,Jd,Je,Jf,Jg,Jh,Ji,Jj,Jk,Jl,Jm,Jn,Jo,Jp,Jq,Jr,Js,Jt,Ju,Jv,Jw,Jx,Jy,Jz,J0,J1,J2,J3,J4,J5,J6,J7,J8,J9,Cu,Cz,Cv,Dl,Ck,C0,Dz,Dm,Dr,Ds,D0,D1,Be,Dn,Du,Dt,Cm,D2,Dv,Dp,List.map,Br,Bs,Ag,Aj,List.replicate,Ba,Bb,Bf,true_and])
 simp (disch:=first|decide|omega) only[g1]
 refine Kg hN hF hX (by omega) (fun j hj=>?_) fun hj x hx=>e (by unfold Ee;rw[huv];exact Mp (.inr hj)) x H₁ b.ext hx
 exact Am fun t H₂ e2 n2 v2=>q ((i:Int),(j:Int)) t H₂ (P4 huv hi hj) (b.ext.trans e2) (b.ext.isNone n2) v2
set_option linter.all false
variable {G:Ap} {n:Nat} {H H':AH} {Q:Ad} {E:EP} {C:CS} {ρ:Ao} {m:Nat} {A:Nat->Nat->Bool}
noncomputable def Gw:List (List Nat)->Option (List (Int×Int))
 | []=>some []
 | w::r=>(match Ee w with
   | some p=>(Gw r).map (p :: ·)
   | none=>none)
theorem Lw{w:List Nat}(h:Ee w=none):∀ {ws:List (List Nat)},w∈ws->Gw ws=none
 | u::r,hm=>by
   show (match Ee u with|some p=>(Gw r).map (p :: ·)|none=>none)=none
   rcases List.mem_cons.mp hm with rfl|hm
   ·rw[h]
   ·rw[Lw h hm]
    cases Ee u<;>rfl
theorem Lx{w:List Nat}{p:Int×Int}(h:Ee w=some p):∀ {ws:List (List Nat)} {ps:List (Int×Int)},Gw ws=some ps->Gw (ws ++ [w])=some (ps ++ [p])
 | [],ps,e=>by
   cases e
   show (match Ee w with|some p=>(Gw []).map (p :: ·)|none=>none)=_
   rw[h];rfl
 | u::r,ps,e=>by
   replace e:(match Ee u with|some p=>(Gw r).map (p :: ·)|none=>none)=some ps:=e
   show (match Ee u with|some p=>(Gw (r ++ [w])).map (p :: ·)|none=>none)=_
   cases hu:Ee u with
   | none=>rw[hu]at e;cases e
   | some z=>
     rw[hu]at e
     obtain⟨l,h1,rfl⟩:=Option.map_eq_some_iff.mp e
     show (Gw (r ++ [w])).map (z :: ·)=_
     rw[Lx h h1];rfl
theorem Rj{w:List Nat}{p:Int×Int}(h:Ee w=some p):∀ {ws:List (List Nat)} {ps:List (Int×Int)},w∈ws->Gw ws=some ps->p∈ps
 | u::r,ps,hm,e=>by
   replace e:(match Ee u with|some p=>(Gw r).map (p :: ·)|none=>none)=some ps:=e
   cases hu:Ee u with
   | none=>rw[hu]at e;cases e
   | some z=>
     rw[hu]at e
     obtain⟨l,h1,rfl⟩:=Option.map_eq_some_iff.mp e
     rcases List.mem_cons.mp hm with rfl|hm
     ·rw[h]at hu;cases hu;exact .head _
     ·exact .tail _ (Rj h hm h1)
structure Gn(t:List Nat)(m:Nat)(ps:List (Int×Int))(w:List Nat)(ws:List (List Nat)):Prop where
 words:Af 32 t=w::ws
 colon:cut w (some (-1)) none = [58]
 num:Bg (cut w none (some (-1)))=some m
 ties:Gw ws=some ps
 few:m<=60
 good:Dk m ps
 back:Bv m (Cr ps)=t
noncomputable def Ly(t:List Nat):Prop:=∀m ps w ws,¬Gn t m ps w ws
theorem Gn.eq{t:List Nat}{m m':Nat}{ps ps':List (Int×Int)}{w w':List Nat}{ws ws':List (List Nat)}(h:Gn t m ps w ws)(h':Gn t m' ps' w' ws'):m'=m/\ps'=ps:=by
 have e:=h.words.symm.trans h'.words
 cases e
 have e1:=h.num.symm.trans h'.num
 have e2:=h.ties.symm.trans h'.ties
 cases e1;cases e2
 exact⟨rfl,rfl⟩
structure Aa6(G:Ap):Prop where
 fb:Aa0 G
 excs:Ab7 G
 shown:G.fn "shown" = some O8
 number:G.fn "number_of" = some E6
 tie:G.fn "tie_of" = some Mx
 read:G.fn "read" = some Vn
 figs:G.const "FIGURES" = some (.str [48,49,50,51,52,53,54,55,56,57])
theorem S2(F:Aa6 G){t:List Nat}(ht:t.length<=1000000)(q:∀m ps w ws x H',Gn t m ps w ws->Av H H'->H x=none->F5 H' x m (Cr ps)->Q (.ref x) H')
 (e:Ly t->∀a H',Av H H'->H' a=none->E (.ref a) (upd H' a (.exc .badText))):Ab G (n+3) "read" [.str t] H Q E:=by
 have B:=F.fb.base
 have X:=F.excs
 obtain⟨hl1,hl2⟩:=Ep (c:=32) (x:=t)
 obtain⟨w,ws,hsp⟩:(Gx fun w ws=>Af 32 t=w::ws):=by
  cases h:Af 32 t with
  | nil=>exact absurd h Nw
  | cons w ws=>exact⟨w,ws,rfl⟩
 rw[hsp]at hl1 hl2
 have hw:=hl2 w (.head _)
 refine Al F.read rfl ?_
 simp only[Vn,List.map,List.replicate,List.cons_append,List.nil_append]
 refine seq (fun ρ H₁=>∃a,ρ = [some (.str t),some (.ref a),none,none,none]/\WL H H₁ a (w::ws)) (fun N hN=>?_) ?_
 ·simp (disch:=first|decide|omega) only[Jf,Jg,Jw,Jx,Jy,Ag,Ba,Bb,true_and,Bq,Ib,Fd]
  rw[Lh (by omega),hsp]
  exact Am fun a H₁ e n v=>hN _ _ ⟨a,rfl,e,n,v⟩
 rintro _ H₁ ⟨a,rfl,b⟩
 have g0:∀ {Q':Ad},Cj (.ref a) (.int 0) H₁ Q'=Q' (.str w) H₁:=A1 b.at_ (by decide) rfl
 refine seq (fun ρ H₂=>H₁=H₂/\ρ = [some (.str t),some (.ref a),none,none,none]/\cut w (some (-1)) none = [58]) (fun N hN=>?_) ?_
 ·refine A3 (!decide (cut w (some (-1)) none = [58])) (fun Q' h'=>?_) ?_
  ·simp (disch:=first|decide|omega) only[Jc,Je,Jf,Jg,Ji,Jm,Js,Jt,Ag,Aj,g0]
   rw[Di (by omega) Ey D3]
   simp (disch:=first|decide|omega) only[Mn,Re]
   exact h'
  by_cases z:cut w (some (-1)) none = [58]
  ·rw[decide_eq_true z]
   simp only[Bool.not_true,Bool.false_eq_true,if_false,J2]
   exact hN _ _ ⟨rfl,rfl,z⟩
  ·rw[decide_eq_false z]
   simp only[Bool.not_false,if_true,J3,Bo]
   refine⟨X.badText,fun x hx=>e (fun m ps w' ws' r=>?_) x H₁ b.ext hx⟩
   have e:=hsp.symm.trans r.words
   cases e
   exact z r.colon
 rintro _ _ ⟨rfl,rfl,hc⟩
 refine seq (fun ρ H₂=>H₁=H₂/\∃m:Nat,ρ = [some (.str t),some (.ref a),some (.int m),none,none]/\Bg (cut w none (some (-1)))=some m) (fun N hN=>?_) ?_
 ·simp (disch:=first|decide|omega) only[Jc,Je,Jg,Ji,Jp,Js,Jt,Jw,Jx,Jy,Ag,Aj,Ba,Bb,Bf,true_and,g0,F.number]
  rw[Di (by omega) D3 Ey]
  refine Kg F.number F.figs X.badText (by
   have:(cut w none (some (-1))).length<=w.length:=by unfold cut;simp only[List.length_drop,List.length_take];omega
   omega) (fun i hi=>hN _ _ ⟨rfl,i,rfl,hi⟩) fun hi x hx=>e (fun m ps w' ws' r=>?_) x H₁ b.ext hx
  have e:=hsp.symm.trans r.words
  cases e
  rw[r.num]at hi;cases hi
 rintro _ _ ⟨rfl,m,rfl,hm⟩
 have hm100:=Aa4 hm
 refine seq (fun ρ H₂=>(Rm fun(c:Nat) (as:List Nat) (ps:List (Int×Int))=>Xx (ρ = [some (.str t),some (.ref a),some (.int m),some (.ref c),none]) (Av H H₂) (H₂ c=some (.list (as.map V.ref))) (Ah H₂ as ps) (Gw ws=some ps))) (fun N hN=>?_) ?_
 ·rw[Jy,Ar,C2]
  simp (disch:=first|decide|omega) only[Jc,Je,Jg,Jt,J4,Br,Bs,Ag,Aj,List.replicate,Ba,Bb]
  rw[Le b.at_ Ey D3,Xd (by decide)]
  refine Am fun c H₂ e2 n2 v2=>?_
  replace v2:H₂ c=some (.list (ws.map V.str)):=v2
  rw[C1 v2]
  refine⟨by rw[List.length_map,List.length_map];simp at hl1;exact Nat.le_trans (by omega) (show 1048576<=B6 by decide),?_⟩
  refine Cd (k:=0) (fun i acc H₃=>(Gx fun(as:List Nat) (ps:List (Int×Int))=>Rq (acc=as.map V.ref) (Av H₂ H₃) (Ah H₃ as ps) (Gw (ws.take i)=some ps))) ⟨[],[],rfl,Av.refl,rfl,rfl⟩ ?_ ?_
  ·rintro i x acc H₃ K hx ⟨as,ps,rfl,e3,hP,hT⟩ hK
   rw[List.getElem?_map,List.getElem?_map]at hx
   obtain⟨v,hv,rfl⟩:=Option.map_eq_some_iff.mp hx
   obtain⟨u,hu,rfl⟩:=Option.map_eq_some_iff.mp hv
   refine⟨e3 _ _ v2,_,rfl,?_⟩
   have hul:=hl2 u (.tail _ (List.mem_of_getElem? hu))
   simp (disch:=first|decide|omega) only[Jg,Jp,Jw,Jx,Ag,Bf,true_and,Oc,F.tie]
   refine Zc F.tie F.number F.figs X.badText (by omega) (fun p x H₄ hp e4 n4 v4=>?_) fun hp x H₄ e4 hx=>e (fun m ps w' ws' r=>?_) x H₄ ((b.ext.trans e2).trans (e3.trans e4)) hx
   ·refine hK _ _ ⟨as ++ [x],ps ++ [p],by simp,e3.trans e4,(hP.ext e4).app (Ah.one v4),?_⟩
    rw[Nat.zero_add,List.take_add_one,hu]
    rw[Nat.zero_add]at hT
    exact Lx hp hT
   ·have e:=hsp.symm.trans r.words
    cases e
    have:=r.ties
    rw[Lw hp (List.mem_of_getElem? hu)]at this;cases this
  ·rintro acc H₃ ⟨as,ps,rfl,e3,hP,hT⟩
   refine⟨e3 _ _ v2,?_⟩
   refine Am fun d H₄ e4 n4 v4=>hN _ _ ⟨d,as,ps,rfl,(b.ext.trans e2).trans (e3.trans e4),v4,hP.ext e4,?_⟩
   rw[Nat.zero_add,List.length_map,List.length_map,List.take_of_length_le (Nat.le_refl _)]at hT
   exact hT
 rintro _ H₂ ⟨c,as,ps,rfl,e2,hA,hP,hT⟩
 refine seq (fun ρ H₃=>(Li fun(x:Nat)=>Z0 (ρ = [some (.str t),some (.ref a),some (.int m),some (.ref c),some (.ref x)]) (Av H H₃) (H x=none) (F5 H₃ x m (Cr ps)) (m<=60) (Dk m ps))) (fun N hN=>?_) ?_
 ·rw[Vk]
  refine⟨⟨X.badWeb,X.badText,rfl,rfl⟩,?_⟩
  rw[J3]
  simp (disch:=first|decide|omega) only[Jg,Jp,Jw,Jx,Jy,J2,Ag,Aj,Ba,Bb,Bf,true_and,B.webOf]
  by_cases h60:m<=60
  ·by_cases hg:Dk m ps
   ·exact Tx B h60 hA hP hg fun x H₃ e3 n3 hW=>hN _ _ ⟨x,rfl,e2.trans e3,e2.isNone n3,hW,h60,hg⟩
   ·have hex:∃p∈ps,¬((0<=p.1/\p.1<(m:Int))/\(0<=p.2/\p.2<(m:Int))/\p.1≠p.2):=Classical.byContradiction fun no=>hg fun p hp=>Classical.byContradiction fun no'=>no ⟨p,hp,no'⟩
    obtain⟨p,hp,hb⟩:=hex
    refine Xm B X.badWeb h60 hA hP hp hb fun x hx=>?_
    rw[Ch]
    refine fun y hy=>e (fun m' ps' w' ws' r=>?_) y _ (e2.trans (Av.upd hx)) hy
    have e:=hsp.symm.trans r.words
    cases e
    have e1:=hm.symm.trans r.num
    have e3:=hT.symm.trans r.ties
    cases e1;cases e3
    exact hg r.good
  ·refine U3 B X.badWeb (.inr (by omega)) fun x hx=>?_
   rw[Ch]
   refine fun y hy=>e (fun m' ps' w' ws' r=>?_) y _ (e2.trans (Av.upd hx)) hy
   have e:=hsp.symm.trans r.words
   cases e
   have e1:=hm.symm.trans r.num
   cases e1
   exact h60 r.few
 rintro _ H₃ ⟨x,rfl,e3,n3,hW,h60,hg⟩
 refine seq (fun ρ H₄=>ρ = [some (.str t),some (.ref a),some (.int m),some (.ref c),some (.ref x)]/\Av H₃ H₄/\Bv m (Cr ps)=t) (fun N hN=>?_) ?_
 ·rw[Ja]
  simp (disch:=first|decide|omega) only[Jg,Jm,Jp,Jw,Jx,J2,J3,Ag,Aj,Bf,true_and,F.shown]
  refine P2 B F.shown h60 hW fun H₄ e4=>?_
  (try dsimp only);(try simp (disch:=first|decide|omega) only[Jb,Jc,Jd,Je,Jf,Jg,Jh,Ji,Jj,Jk,Jl,Jm,Jn,Jo,Jp,Jq,Jr,Js,Jt,Ju,Jv,Jw,Jx,Jy,Jz,J0,J1,J2,J3,J4,J5,J6,J7,J8,J9,Cu,Cz,Cv,Dl,Ck,C0,Dz,Dm,Dr,Ds,D0,D1,Be,Dn,Du,Dt,Cm,D2,Dv,Dp,List.map,Br,Bs,Ag,Aj,List.replicate,Ba,Bb,Bf,true_and])
  rw[Re]
  (try dsimp only);(try simp (disch:=first|decide|omega) only[Be])
  by_cases z:Bv m (Cr ps)=t
  ·rw[decide_eq_true z]
   simp only[Bool.not_true,Bool.false_eq_true,if_false]
   exact hN _ _ ⟨rfl,e4,z⟩
  ·rw[decide_eq_false z]
   simp only[Bool.not_false,if_true,Bo]
   refine⟨X.badText,fun y hy=>e (fun m' ps' w' ws' r=>?_) y H₄ (e3.trans e4) hy⟩
   have e:=hsp.symm.trans r.words
   cases e
   have e1:=hm.symm.trans r.num
   have e3:=hT.symm.trans r.ties
   cases e1;cases e3
   exact z r.back
 rintro _ H₄ ⟨rfl,e4,z⟩
 rw[J3,J0]
 simp (disch:=first|decide|omega) only[Jg,Ag,Aj]
 exact q m ps w ws x H₄ ⟨hsp,hc,hm,hT,h60,hg,z⟩ (e3.trans e4) n3 (hW.ext e4)
set_option linter.all false
variable {G:Ap} {n:Nat} {H H':AH} {Q:Ad} {E:EP} {C:CS} {ρ:Ao} {m:Nat} {A:Nat->Nat->Bool}
theorem Es{w:List Nat}{i:Nat}(h:Bg w=some i):Ai w=i:=by unfold Ai;rw[h];rfl
theorem Lz{w:List Nat}(h:Bg w=none):Ai w=99:=by unfold Ai;rw[h];rfl
theorem Zd{m:Nat}{u:List Nat}{a b:List Nat}(hm:m<=60)(hsp:Af 45 u = [a,b])(hb:m<=Ai a\/m<=Ai b\/Ai a=Ai b) :
 ∀p,Ee u=some p->¬((0<=p.1/\p.1<(m:Int))/\(0<=p.2/\p.2<(m:Int))/\p.1≠p.2):=fun p hp hg=>by
 unfold Ee at hp
 rw[hsp]at hp
 cases ha:Bg a with
 | none=>rw[Mp (.inl ha)]at hp;cases hp
 | some i=>cases hb':Bg b with
   | none=>rw[Mp (.inr hb')]at hp;cases hp
   | some j=>
     rw[P4 rfl ha hb']at hp
     cases hp
     rw[Es ha,Es hb']at hb
     dsimp only at hg
     omega
theorem Xv{m:Nat}{u:List Nat}{a b:List Nat}(hm:m<=60)(hsp:Af 45 u = [a,b])(hb:¬(m<=Ai a\/m<=Ai b\/Ai a=Ai b)) :
 Ee u=some ((Ai a:Int),(Ai b:Int)):=by
 unfold Ee
 cases ha:Bg a with
 | none=>rw[Lz ha]at hb;omega
 | some i=>cases hb':Bg b with
   | none=>rw[Lz hb']at hb;omega
   | some j=>rw[Es ha,Es hb'];exact P4 hsp ha hb'
structure S3(G:Ap):Prop where
 txt:Aa6 G
 shown:G.fn "_law_shown" = some G8
 number:G.fn "_law_number" = some Ga
 read:G.fn "_law_read" = some My
 odd:G.fn "_law_odd_text" = some Ev
 by_:G.fn "_law_text_by" = some Io
 refused:G.fn "_law_refused" = some Fv
 base:G.fn "_law_by_base" = some Fw
 noPoint:G.fn "_law_no_point" = some E7
theorem U7(F:S3 G){t:List Nat}(ht:t.length<=1000000)(q0:Ly t->∀H',Av H H'->Q .none H')
 (q:∀m ps w ws x nr H',Gn t m ps w ws->Av H H'->H' x=some (.tuple [.int m,.ref nr])->Dh H' nr m (Cr ps)->Q (.ref x) H'):Ab G (n+2) "_law_read" [.str t] H Q E:=by
 have B:=F.txt.fb.base
 obtain⟨hl1,hl2⟩:=Ep (c:=32) (x:=t)
 obtain⟨w,ws,hsp⟩:(Gx fun w ws=>Af 32 t=w::ws):=by
  cases h:Af 32 t with
  | nil=>exact absurd h Nw
  | cons w ws=>exact⟨w,ws,rfl⟩
 rw[hsp]at hl1 hl2
 have hw:=hl2 w (.head _)
 have hwl:(cut w none (some (-1))).length<=1000000:=by
  have:(cut w none (some (-1))).length<=w.length:=by unfold cut;simp only[List.length_drop,List.length_take];omega
  omega
 refine Al F.read rfl ?_
 simp only[My,List.map,List.replicate,List.cons_append,List.nil_append]
 refine seq (fun ρ H₁=>∃a,ρ = [some (.str t),some (.ref a),none,none,none,none,none,none,none]/\WL H H₁ a (w::ws)) (fun N hN=>?_) ?_
 ·simp (disch:=first|decide|omega) only[Jf,Jg,Jw,Jx,Jy,Ag,Ba,Bb,true_and,Bq,Ib,Fd]
  rw[Lh (by omega),hsp]
  exact Am fun a H₁ e n v=>hN _ _ ⟨a,rfl,e,n,v⟩
 rintro _ H₁ ⟨a,rfl,b⟩
 have g0:∀ {Q':Ad},Cj (.ref a) (.int 0) H₁ Q'=Q' (.str w) H₁:=A1 b.at_ (by decide) rfl
 refine seq (fun ρ H₂=>H₁=H₂/\ρ = [some (.str t),some (.ref a),none,none,none,none,none,none,none]/\cut w (some (-1)) none = [58]/\∃m:Nat,Bg (cut w none (some (-1)))=some m/\m<=60) (fun N hN=>?_) ?_
 ·rw[Ja]
  simp (disch:=first|decide|omega) only[Jb,Jc,Je,Jf,Jg,Ji,Jk,Jm,Jp,Js,Jt,Jw,Jx,J0,J2,J3,Be,Ag,Aj,g0]
  rw[Di (by omega) Ey D3]
  simp (disch:=first|decide|omega) only[Be,Mn,Re]
  by_cases z:cut w (some (-1)) none = [58]
  ·rw[decide_eq_true z]
   simp only[Bool.not_true,Bool.false_eq_true,if_false]
   simp (disch:=first|decide|omega) only[Bf,true_and,g0,F.number]
   rw[Di (by omega) D3 Ey]
   refine Fe F.number (by omega) ?_
   (try dsimp only);(try simp (disch:=first|decide|omega) only[Cv,Be])
   cases hn:Bg (cut w none (some (-1)))with
   | none=>
     rw[Lz hn]
     simp only[show decide ((60:Int)<((99:Nat):Int))=true by decide,if_true]
     try simp (disch:=first|decide|omega) only[Jb,Jc,Jd,Je,Jf,Jg,Jh,Ji,Jj,Jk,Jl,Jm,Jn,Jo,Jp,Jq,Jr,Js,Jt,Ju,Jv,Jw,Jx,Jy,Jz,J0,J1,J2,J3,J4,J5,J6,J7,J8,J9,Cu,Cz,Cv,Dl,Ck,C0,Dz,Dm,Dr,Ds,D0,D1,Be,Dn,Du,Dt,Cm,D2,Dv,Dp,List.map,Br,Bs,Ag,Aj,List.replicate,Ba,Bb,Bf,true_and]
     refine q0 (fun m ps w' ws' r=>?_) _ b.ext
     have e:=hsp.symm.trans r.words
     cases e
     rw[r.num]at hn;cases hn
   | some i=>
     rw[Es hn]
     by_cases h60:i<=60
     ·rw[decide_eq_false (by omega)]
      simp only[Bool.false_eq_true,if_false]
      exact hN _ _ ⟨rfl,rfl,z,i,hn,h60⟩
     ·rw[decide_eq_true (by omega)]
      simp only[if_true]
      try simp (disch:=first|decide|omega) only[Jb,Jc,Jd,Je,Jf,Jg,Jh,Ji,Jj,Jk,Jl,Jm,Jn,Jo,Jp,Jq,Jr,Js,Jt,Ju,Jv,Jw,Jx,Jy,Jz,J0,J1,J2,J3,J4,J5,J6,J7,J8,J9,Cu,Cz,Cv,Dl,Ck,C0,Dz,Dm,Dr,Ds,D0,D1,Be,Dn,Du,Dt,Cm,D2,Dv,Dp,List.map,Br,Bs,Ag,Aj,List.replicate,Ba,Bb,Bf,true_and]
      refine q0 (fun m ps w' ws' r=>?_) _ b.ext
      have e:=hsp.symm.trans r.words
      cases e
      have e1:=hn.symm.trans r.num
      cases e1
      exact h60 r.few
  ·rw[decide_eq_false z]
   simp only[Bool.not_false,if_true]
   try simp (disch:=first|decide|omega) only[Jb,Jc,Jd,Je,Jf,Jg,Jh,Ji,Jj,Jk,Jl,Jm,Jn,Jo,Jp,Jq,Jr,Js,Jt,Ju,Jv,Jw,Jx,Jy,Jz,J0,J1,J2,J3,J4,J5,J6,J7,J8,J9,Cu,Cz,Cv,Dl,Ck,C0,Dz,Dm,Dr,Ds,D0,D1,Be,Dn,Du,Dt,Cm,D2,Dv,Dp,List.map,Br,Bs,Ag,Aj,List.replicate,Ba,Bb,Bf,true_and]
   refine q0 (fun m ps w' ws' r=>?_) _ b.ext
   have e:=hsp.symm.trans r.words
   cases e
   exact z r.colon
 rintro _ _ ⟨rfl,rfl,hc,m,hm,h60⟩
 refine seq (fun ρ H₂=>H₁=H₂/\ρ = [some (.str t),some (.ref a),some (.int m),none,none,none,none,none,none]) (fun N hN=>?_) ?_
 ·simp (disch:=first|decide|omega) only[Jc,Je,Jg,Ji,Jp,Js,Jt,Jw,Jx,Jy,Ag,Aj,Ba,Bb,Bf,true_and,g0,F.number]
  rw[Di (by omega) D3 Ey]
  refine Fe F.number (by omega) ?_
  rw[Es hm]
  exact hN _ _ ⟨rfl,rfl⟩
 rintro _ _ ⟨rfl,rfl⟩
 refine seq (fun ρ H₂=>∃l,ρ = [some (.str t),some (.ref a),some (.int m),some (.ref l),none,none,none,none,none]/\TB H₁ H₂ l [] []) (fun N hN=>?_) ?_
 ·simp (disch:=first|decide|omega) only[Ju,Jw,Jy,Ba,Bb]
  exact Am fun l H₂ e n v=>hN _ _ ⟨l,rfl,⟨e,n,v,rfl,by simp⟩⟩
 rintro _ H₂ ⟨l,rfl,b2⟩
 refine seq (fun ρ H₃=>(Zz fun(r4 r5 r6 r7:Option V) (as:List Nat) (ps:List (Int×Int))=>Rq (ρ = [some (.str t),some (.ref a),some (.int m),some (.ref l),r4,r5,r6,r7,none]) (TB H₁ H₃ l as ps) (Gw ws=some ps) (Dk m ps))) (fun N hN=>?_) ?_
 ·rw[Bm,C2]
  simp (disch:=first|decide|omega) only[Jc,Je,Jg,Jt,Ag,Aj]
  rw[Le (b2.ext _ _ b.at_) Ey D3,Xd (by decide)]
  refine Am fun c H₃ e3 n3 v3=>?_
  replace v3:H₃ c=some (.list (ws.map V.str)):=v3
  rw[C1 v3]
  have hcl:c≠l:=fun h=>by rw[h,b2.at_]at n3;cases n3
  refine Ia (fun i ρ H₄=>(Zz fun(r4 r5 r6 r7:Option V) (as:List Nat) (ps:List (Int×Int))=>Xx (ρ = [some (.str t),some (.ref a),some (.int m),some (.ref l),r4,r5,r6,r7,none]) (TB H₁ H₄ l as ps) (H₄ c=some (.list (ws.map V.str))) (Gw (ws.take i)=some ps) (Dk m ps)))
   ⟨_,_,_,_,[],[],rfl,⟨b2.ext.trans e3,b2.new,e3 _ _ b2.at_,rfl,by simp⟩,v3,rfl,fun p hp=>by cases hp⟩ ?_ ?_ ?_
  ·rintro i ρ H₄ ⟨r4,r5,r6,r7,as,ps,rfl,_,h,_,_⟩;exact h
  ·rintro i v ρ H₄ K hv ⟨r4,r5,r6,r7,as,ps,rfl,b4,h4,hT,hG⟩ hK
   rw[List.getElem?_map]at hv
   obtain⟨u,hu,rfl⟩:=Option.map_eq_some_iff.mp hv
   have hul:=hl2 u (.tail _ (List.mem_of_getElem? hu))
   obtain⟨k1,k2⟩:=Ep (c:=45) (x:=u)
   have stop:(∀p,Ee u=some p->¬((0<=p.1/\p.1<(m:Int))/\(0<=p.2/\p.2<(m:Int))/\p.1≠p.2))->Ly t:=fun no m' ps' w' ws' r=>by
    have e:=hsp.symm.trans r.words
    cases e
    have e1:=hm.symm.trans r.num
    cases e1
    have hin:=List.mem_of_getElem? hu
    cases hp:Ee u with
    | none=>have:=r.ties;rw[Lw hp hin]at this;cases this
    | some p=>exact no p hp (r.good p (Rj hp hin r.ties))
   simp only[Im,List.set_cons_succ,List.set_cons_zero]
   refine seq (fun ρ H₅=>∃d,ρ = [some (.str t),some (.ref a),some (.int m),some (.ref l),some (.str u),some (.ref d),r6,r7,none]/\WL H₄ H₅ d (Af 45 u)) (fun N hN=>?_) ?_
   ·simp (disch:=first|decide|omega) only[Jf,Jg,Jw,Jx,Jy,Ag,Aj,Ba,Bb,true_and,Bq,Pz,Fd]
    rw[Lh (by omega)]
    exact Am fun d H₅ e n v=>hN _ _ ⟨d,rfl,e,n,v⟩
   rintro _ H₅ ⟨d,rfl,b5⟩
   have e15:Av H H₅:=b.ext.trans (b4.ext.trans b5.ext)
   refine seq (fun ρ H₆=>H₅=H₆/\ρ = [some (.str t),some (.ref a),some (.int m),some (.ref l),some (.str u),some (.ref d),r6,r7,none]/\(Gx fun x y=>Af 45 u = [x,y])) (fun N hN=>?_) ?_
   ·refine A3 (!decide ((Af 45 u).length=2)) (fun Q' h'=>?_) ?_
    ·simp (disch:=first|decide|omega) only[Je,Jg,Jm,Jq,Jw,Jx,C0,Ag,Aj,Fl b5.at_]
     rw[List.length_map]
     have:decide (((Af 45 u).length:Int)=2)=decide ((Af 45 u).length=2):=by rw[Bool.eq_iff_iff];simp;omega
     rw[this];exact h'
    by_cases z:(Af 45 u).length=2
    ·rw[decide_eq_true z]
     simp only[Bool.not_true,Bool.false_eq_true,if_false,J2]
     refine hN _ _ ⟨rfl,rfl,?_⟩
     rcases h:Af 45 u with _ | ⟨x,_ | ⟨y,_ | ⟨c,r⟩⟩⟩
     ·rw[h]at z;cases z
     ·rw[h]at z;cases z
     ·exact⟨x,y,rfl⟩
     ·rw[h]at z;simp at z
    ·rw[decide_eq_false z]
     simp only[Bool.not_false,if_true]
     try simp (disch:=first|decide|omega) only[Jb,J0,J2,J3]
     refine q0 (stop fun p hp=>?_) _ e15
     unfold Ee at hp
     rw[T4 z]at hp;cases hp
   rintro _ _ ⟨rfl,rfl,x,y,hxy⟩
   have hd:=b5.at_
   rw[hxy]at hd
   have hxl:=k2 x (by rw[hxy];exact .head _)
   have hyl:=k2 y (by rw[hxy];exact .tail _ (.head _))
   have g1:∀ {Q':Ad},Cj (.ref d) (.int 0) H₅ Q'=Q' (.str x) H₅:=A1 hd (by decide) rfl
   have g2:∀ {Q':Ad},Cj (.ref d) (.int 1) H₅ Q'=Q' (.str y) H₅:=A1 hd (by decide) rfl
   refine seq (fun ρ H₆=>H₅=H₆/\ρ = [some (.str t),some (.ref a),some (.int m),some (.ref l),some (.str u),some (.ref d),some (.int (Ai x)),r7,none]) (fun N hN=>?_) ?_
   ·simp (disch:=first|decide|omega) only[Je,Jg,Jp,Js,Jw,Jx,Jy,Ag,Aj,Ba,Bb,Bf,true_and,g1,F.number]
    exact Fe F.number (by omega) (hN _ _ ⟨rfl,rfl⟩)
   rintro _ _ ⟨rfl,rfl⟩
   refine seq (fun ρ H₆=>H₅=H₆/\ρ = [some (.str t),some (.ref a),some (.int m),some (.ref l),some (.str u),some (.ref d),some (.int (Ai x)),some (.int (Ai y)),none]) (fun N hN=>?_) ?_
   ·simp (disch:=first|decide|omega) only[Je,Jg,Jp,Js,Jw,Jx,Jy,Ag,Aj,Ba,Bb,Bf,true_and,g2,F.number]
    exact Fe F.number (by omega) (hN _ _ ⟨rfl,rfl⟩)
   rintro _ _ ⟨rfl,rfl⟩
   refine seq (fun ρ H₆=>H₅=H₆/\ρ = [some (.str t),some (.ref a),some (.int m),some (.ref l),some (.str u),some (.ref d),some (.int (Ai x)),some (.int (Ai y)),none]/\¬(m<=Ai x\/m<=Ai y\/Ai x=Ai y)) (fun N hN=>?_) ?_
   ·refine A3 (decide (m<=Ai x\/m<=Ai y\/Ai x=Ai y)) (fun Q' h'=>?_) ?_
    ·simp (disch:=first|decide|omega) only[Jg,Jk,Jm,Dl,Ck,Be,Ag,Aj]
     by_cases z1:m<=Ai x
     ·rw[decide_eq_true (.inl z1)]at h'
      simp only[show decide ((m:Int)<=(Ai x:Int))=true by simp;omega,if_true]
      exact h'
     ·simp only[show decide ((m:Int)<=(Ai x:Int))=false by simp;omega,Bool.false_eq_true,if_false]
      by_cases z2:m<=Ai y
      ·rw[decide_eq_true (.inr (.inl z2))]at h'
       simp only[show decide ((m:Int)<=(Ai y:Int))=true by simp;omega,if_true]
       exact h'
      ·simp only[show decide ((m:Int)<=(Ai y:Int))=false by simp;omega,Bool.false_eq_true,if_false]
       have:decide ((Ai x:Int)=(Ai y:Int))=decide (m<=Ai x\/m<=Ai y\/Ai x=Ai y):=by rw[Bool.eq_iff_iff];simp;omega
       rw[this];exact h'
    by_cases z:m<=Ai x\/m<=Ai y\/Ai x=Ai y
    ·rw[decide_eq_true z]
     simp only[if_true]
     simp (disch:=first|decide|omega) only[Jb,J0,J2,J3]
     exact q0 (stop (Zd h60 hxy z)) _ e15
    ·rw[decide_eq_false z]
     simp only[Bool.false_eq_true,if_false,J2]
     exact hN _ _ ⟨rfl,rfl,z⟩
   rintro _ _ ⟨rfl,rfl,hz⟩
   have hp:=Xv h60 hxy hz
   have hl5:H₅ l=some (.list (as.map V.ref)):=b5.ext _ _ b4.at_
   have hal:as.length<1048576:=by
    have h1:=b4.prs.len
    have h2:ps.length=(ws.take i).length:=by
     have:∀ {l:List (List Nat)} {ps:List (Int×Int)},Gw l=some ps->ps.length=l.length:=by
      intro l
      induction l with
      | nil=>intro ps e;cases e;rfl
      | cons u r ih=>
        intro ps e
        replace e:(match Ee u with|some p=>(Gw r).map (p :: ·)|none=>none)=some ps:=e
        cases hu:Ee u with
        | none=>rw[hu]at e;cases e
        | some z=>
          rw[hu]at e
          obtain⟨l,h1,rfl⟩:=Option.map_eq_some_iff.mp e
          simp[ih h1]
     exact this hT
    rw[List.length_take]at h2
    simp at hl1
    omega
   rw[J3]
   simp (disch:=first|decide|omega) only[Jg,Jv,Jw,Jx,Jz,J2,Ag,Aj,true_and,Bq,Ej hl5]
   refine Am fun tp H₆ e6 n6 v6=>?_
   (try dsimp only);(try simp (disch:=first|decide|omega) only[Jb,Jc,Jd,Je,Jf,Jg,Jh,Ji,Jj,Jk,Jl,Jm,Jn,Jo,Jp,Jq,Jr,Js,Jt,Ju,Jv,Jw,Jx,Jy,Jz,J0,J1,J2,J3,J4,J5,J6,J7,J8,J9,Cu,Cz,Cv,Dl,Ck,C0,Dz,Dm,Dr,Ds,D0,D1,Be,Dn,Du,Dt,Cm,D2,Dv,Dp,List.map,Br,Bs,Ag,Aj,List.replicate,Ba,Bb,Bf,true_and])
   rw[Df (e6 _ _ hl5) (by rw[List.length_map];exact hal)]
   have b4':TB H₁ H₅ l as ps:=⟨b4.ext.trans b5.ext,b4.new,hl5,b4.prs.ext b5.ext,b4.ne⟩
   have hb:=b4'.snoc (p:=((Ai x:Int),(Ai y:Int))) e6 n6 v6
   refine hK _ _ ⟨_,_,_,_,as ++ [tp],ps ++ [((Ai x:Int),(Ai y:Int))],rfl,hb,?_,?_,fun p hp'=>?_⟩
   ·rw[upd_ne hcl];exact e6 _ _ (b5.ext _ _ h4)
   ·rw[List.take_add_one,hu];exact Lx hp hT
   ·rcases List.mem_append.mp hp' with h|h
    ·exact hG p h
    ·have:p=((Ai x:Int),(Ai y:Int)):=by simpa using h
     subst this
     dsimp only
     omega
  ·rintro ρ H₄ ⟨r4,r5,r6,r7,as,ps,rfl,b4,h4,hT,hG⟩
   rw[List.length_map,List.take_of_length_le (Nat.le_refl _)]at hT
   exact hN _ _ ⟨_,_,_,_,as,ps,rfl,b4,hT,hG⟩
 rintro _ H₃ ⟨r4,r5,r6,r7,as,ps,rfl,b3,hT,hG⟩
 refine seq (fun ρ H₄=>(Li fun nr=>Go (ρ = [some (.str t),some (.ref a),some (.int m),some (.ref l),r4,r5,r6,r7,some (.ref nr)]) (Av H₃ H₄) (Dh H₄ nr m (Cr ps)))) (fun N hN=>?_) ?_
 ·simp (disch:=first|decide|omega) only[Jg,Jp,Jw,Jx,Jy,Ag,Aj,Ba,Bb,Bf,true_and,B.near]
  exact Xj B h60 b3.at_ b3.prs hG fun nr H₄ e4 _ hNr=>hN _ _ ⟨nr,rfl,e4,hNr⟩
 rintro _ H₄ ⟨nr,rfl,e4,hNr⟩
 have e04:Av H H₄:=b.ext.trans (b3.ext.trans e4)
 refine seq (fun ρ H₅=>ρ = [some (.str t),some (.ref a),some (.int m),some (.ref l),r4,r5,r6,r7,some (.ref nr)]/\Av H₄ H₅/\Bv m (Cr ps)=t) (fun N hN=>?_) ?_
 ·rw[Ja]
  simp (disch:=first|decide|omega) only[Jb,Jg,Jm,Jp,Jw,Jx,J0,J2,J3,Ag,Aj,Bf,true_and,F.shown]
  refine Nv F.shown h60 hNr fun H₅ e5=>?_
  (try dsimp only);(try simp (disch:=first|decide|omega) only[Jb,Jc,Jd,Je,Jf,Jg,Jh,Ji,Jj,Jk,Jl,Jm,Jn,Jo,Jp,Jq,Jr,Js,Jt,Ju,Jv,Jw,Jx,Jy,Jz,J0,J1,J2,J3,J4,J5,J6,J7,J8,J9,Cu,Cz,Cv,Dl,Ck,C0,Dz,Dm,Dr,Ds,D0,D1,Be,Dn,Du,Dt,Cm,D2,Dv,Dp,List.map,Br,Bs,Ag,Aj,List.replicate,Ba,Bb,Bf,true_and])
  rw[Re]
  (try dsimp only);(try simp (disch:=first|decide|omega) only[Be])
  by_cases z:Bv m (Cr ps)=t
  ·rw[decide_eq_true z]
   simp only[Bool.not_true,Bool.false_eq_true,if_false]
   exact hN _ _ ⟨rfl,e5,z⟩
  ·rw[decide_eq_false z]
   simp only[Bool.not_false,if_true]
   try simp (disch:=first|decide|omega) only[Jb,Jc,Jd,Je,Jf,Jg,Jh,Ji,Jj,Jk,Jl,Jm,Jn,Jo,Jp,Jq,Jr,Js,Jt,Ju,Jv,Jw,Jx,Jy,Jz,J0,J1,J2,J3,J4,J5,J6,J7,J8,J9,Cu,Cz,Cv,Dl,Ck,C0,Dz,Dm,Dr,Ds,D0,D1,Be,Dn,Du,Dt,Cm,D2,Dv,Dp,List.map,Br,Bs,Ag,Aj,List.replicate,Ba,Bb,Bf,true_and]
   refine q0 (fun m' ps' w' ws' r=>?_) H₅ (e04.trans e5)
   have e:=hsp.symm.trans r.words
   cases e
   have e1:=hm.symm.trans r.num
   have e3:=hT.symm.trans r.ties
   cases e1;cases e3
   exact z r.back
 rintro _ H₅ ⟨rfl,e5,z⟩
 rw[J3,J0]
 simp (disch:=first|decide|omega) only[Jg,Jv,Jw,Jx,Ag,Aj]
 exact Am fun x H₆ e6 n6 v6=>q m ps w ws x nr H₆ ⟨hsp,hc,hm,hT,h60,hG,z⟩ (e04.trans (e5.trans e6)) v6 (hNr.ext (e5.trans e6))
set_option linter.all false
variable {G:Ap} {n:Nat} {H H':AH} {Q:Ad} {E:EP} {C:CS} {ρ:Ao} {m:Nat} {A:Nat->Nat->Bool}
noncomputable def Ab8:V->Bool
 | .str s=>decide (s.length<=20)
 | _=>false
theorem Ze{a:Nat}{xs:List V}{c:Int}(h:H a=some (.list xs))(hs:xs.all Ab8=true)(hl:xs.length=22)(q:∀s:List Nat,s.length<=20->Q (.str s) H):Cj (.ref a) (.int (c%22)) H Q:=by
 have hk:(c%22).toNat<xs.length:=by omega
 have hx:=List.getElem?_eq_getElem hk
 have hv:=List.all_eq_true.mp hs _ (List.getElem_mem hk)
 generalize xs[(c%22).toNat]=v at hx hv
 cases v<;>first|exact absurd hv Bool.false_ne_true|skip
 rw[A1 h (by omega) hx]
 exact q _ (of_decide_eq_true hv)
theorem Ab9(hS:G.fn "_law_odd_text" = some Ev){c:Int}(q:∀(s:List Nat) H',s.length<=20->Av H H'->Q (.str s) H'):Ab G (n+1) "_law_odd_text" [.int c] H Q E:=by
 refine Al hS rfl ?_
 simp only[Ev,List.map,List.replicate,List.cons_append,List.nil_append]
 rw[J3]
 simp (disch:=first|decide|omega) only[Je,Jf,Jg,Jl,Js,Ju,Jw,Jx,Jy,J0,J2,J3,J6,Ag,Aj,Ba,Bb]
 refine Am fun a H₁ e1 n1 v1=>?_
 refine Am fun b H₂ e2 n2 v2=>?_
 (try dsimp only);(try simp (disch:=first|decide|omega) only[Jb,Jc,Jd,Je,Jf,Jg,Jh,Ji,Jj,Jk,Jl,Jm,Jn,Jo,Jp,Jq,Jr,Js,Jt,Ju,Jv,Jw,Jx,Jy,Jz,J0,J1,J2,J3,J4,J5,J6,J7,J8,J9,Cu,Cz,Cv,Dl,Ck,C0,Dz,Dm,Dr,Ds,D0,D1,Be,Dn,Du,Dt,Cm,D2,Dv,Dp,List.map,Br,Bs,Ag,Aj,List.replicate,Ba,Bb,Bf,true_and])
 rw[Kd (e2 _ _ v1) v2 (by decide)]
 refine Am fun a H₃ e3 n3 v3=>?_
 (try dsimp only);(try simp (disch:=first|decide|omega) only[Jb,Jc,Jd,Je,Jf,Jg,Jh,Ji,Jj,Jk,Jl,Jm,Jn,Jo,Jp,Jq,Jr,Js,Jt,Ju,Jv,Jw,Jx,Jy,Jz,J0,J1,J2,J3,J4,J5,J6,J7,J8,J9,Cu,Cz,Cv,Dl,Ck,C0,Dz,Dm,Dr,Ds,D0,D1,Be,Dn,Du,Dt,Cm,D2,Dv,Dp,List.map,Br,Bs,Ag,Aj,List.replicate,Ba,Bb,Bf,true_and])
 refine Am fun b H₄ e4 n4 v4=>?_
 (try dsimp only);(try simp (disch:=first|decide|omega) only[Jb,Jc,Jd,Je,Jf,Jg,Jh,Ji,Jj,Jk,Jl,Jm,Jn,Jo,Jp,Jq,Jr,Js,Jt,Ju,Jv,Jw,Jx,Jy,Jz,J0,J1,J2,J3,J4,J5,J6,J7,J8,J9,Cu,Cz,Cv,Dl,Ck,C0,Dz,Dm,Dr,Ds,D0,D1,Be,Dn,Du,Dt,Cm,D2,Dv,Dp,List.map,Br,Bs,Ag,Aj,List.replicate,Ba,Bb,Bf,true_and])
 rw[Kd (e4 _ _ v3) v4 (by decide)]
 refine Am fun a H₅ e5 n5 v5=>?_
 (try dsimp only);(try simp (disch:=first|decide|omega) only[Jb,Jc,Jd,Je,Jf,Jg,Jh,Ji,Jj,Jk,Jl,Jm,Jn,Jo,Jp,Jq,Jr,Js,Jt,Ju,Jv,Jw,Jx,Jy,Jz,J0,J1,J2,J3,J4,J5,J6,J7,J8,J9,Cu,Cz,Cv,Dl,Ck,C0,Dz,Dm,Dr,Ds,D0,D1,Be,Dn,Du,Dt,Cm,D2,Dv,Dp,List.map,Br,Bs,Ag,Aj,List.replicate,Ba,Bb,Bf,true_and])
 exact Ze v5 (by decide +kernel) (by decide +kernel) fun s hs=>q s H₅ hs (e1.trans (e2.trans (e3.trans (e4.trans e5))))
theorem P5{α:Type}(xs:List α)(l u:Option Int):(cut xs l u).length<=xs.length:=by
 delta cut
 simp only[List.length_drop,List.length_take]
 omega
noncomputable def S4:List (List Nat)->Nat
 | []=>0
 | t::r=>t.length+1+S4 r
theorem Rk:∀ {ts:List (List Nat)},(B7 [32] ts).length<=S4 ts
 | []=>Nat.le_refl _
 | [t]=>by show t.length<=t.length+1+0;omega
 | t::u::r=>by
   have:=Rk (ts:=u::r)
   show (t ++ [32]++B7 [32] (u::r)).length<=t.length+1+S4 (u::r)
   simp only[List.length_append,List.length_cons,List.length_nil]
   omega
theorem O4{c:Nat}:∀ {x:List Nat},S4 (Af c x)<=x.length+1
 | []=>Nat.le_refl _
 | d::r=>by
   have h:=O4 (c:=c) (x:=r)
   show S4 (if d=c then []::Af c r else Kh d (Af c r))<=_
   split
   ·show 0+1+S4 (Af c r)<=_
    simp only[List.length_cons];omega
   ·generalize Af c r=l at h
    cases l with
    | nil=>show 1+1+0<=_;simp
    | cons u v=>
      have h':u.length+1+S4 v<=r.length+1:=h
      show (u.length+1)+1+S4 v<=_
      simp only[List.length_cons];omega
theorem P6{y:List Nat}:∀ {ts:List (List Nat)} {i:Nat},S4 (ts.set i y)<=S4 ts+y.length
 | [],_=>by simp[S4]
 | t::r,0=>by show y.length+1+S4 r<=t.length+1+S4 r+y.length;omega
 | t::r,i+1=>by
   have:=P6 (y:=y) (ts:=r) (i:=i)
   show t.length+1+S4 (r.set i y)<=t.length+1+S4 r+y.length
   omega
theorem T5{ts:List (List Nat)}{i:Nat}{y:List Nat}:(ts.map V.str).set i (.str y)=(ts.set i y).map V.str:=by rw[List.map_set]
theorem Xw(F:S3 G){t:List Nat}{c k:Int}(h0:0<t.length)(h1:t.length<=30000)(q:∀(s:List Nat) H',s.length<=100000->Av H H'->Q (.str s) H'):Ab G (n+2) "_law_text_by" [.str t,.int c,.int k] H Q E:=by
 refine Al F.by_ rfl ?_
 simp only[Io,List.map,List.replicate,List.cons_append,List.nil_append]
 refine seq (fun ρ H₁=>ρ = [some (.str t),some (.int c),some (.int k),none,none,none,none,none]/\H=H₁) (fun N hN=>?_) ?_
 ·refine A3 (decide (k=2)) (fun Q' h'=>?_) ?_
  ·simp (disch:=first|decide|omega) only[Je,Jg,Jm,Ck,Ag,Aj];exact h'
  split
  ·rw[J3]
   simp (disch:=first|decide|omega) only[Jc,Je,Jf,Jg,Jl,Jq,Js,Jt,Jw,Jx,Jy,J0,J2,J3,J6,J7,J8,Ag,Aj,Ba,Bb,Mo]
   have l1:=P5 t none (some (c%((t.length:Int)+1)))
   have l2:=P5 t (some (c%((t.length:Int)+1))) none
   rw[Di (by omega) D3 Ey,Zb]
   obtain⟨ch,hch⟩:∃ch,([48,49,50,51,52,53,54,55,56,57,45,58,32,97,10,9,43,95,59]:List Nat)[(c/997%19).toNat]? = some ch:=
    ⟨_,List.getElem?_eq_getElem (show (c/997%19).toNat<19 by omega)⟩
   rw[Aa3 (by decide) (by omega) hch,Gm (by simp only[List.length_cons,List.length_nil];omega),Di (by omega) Ey D3,Gm (by simp only[List.length_append,List.length_cons,List.length_nil];omega)]
   refine q _ H ?_ Av.refl
   simp only[List.length_append,List.length_cons,List.length_nil];omega
  ·simp (disch:=first|decide|omega) only[J2]
   exact hN _ _ ⟨rfl,rfl⟩
 rintro _ _ ⟨rfl,rfl⟩
 refine seq (fun ρ H₁=>ρ = [some (.str t),some (.int c),some (.int k),none,none,none,none,none]/\H=H₁) (fun N hN=>?_) ?_
 ·refine A3 (decide (k=3)) (fun Q' h'=>?_) ?_
  ·simp (disch:=first|decide|omega) only[Je,Jg,Jm,Ck,Ag,Aj];exact h'
  split
  ·rw[J3]
   simp (disch:=first|decide|omega) only[Jc,Je,Jg,Jl,Jq,Jt,Jw,Jx,Jy,J0,J2,J3,J6,J8,Ag,Aj,Ba,Bb,Mo]
   have l1:=P5 t none (some (c%(t.length:Int)))
   have l2:=P5 t (some (c%(t.length:Int)+1)) none
   rw[Di (by omega) D3 Ey,Di (by omega) Ey D3,Gm (by omega)]
   refine q _ H ?_ Av.refl
   simp only[List.length_append];omega
  ·simp (disch:=first|decide|omega) only[J2]
   exact hN _ _ ⟨rfl,rfl⟩
 rintro _ _ ⟨rfl,rfl⟩
 refine seq (fun ρ H₁=>ρ = [some (.str t),some (.int c),some (.int k),none,none,none,none,none]/\H=H₁) (fun N hN=>?_) ?_
 ·refine A3 (decide (k=4)) (fun Q' h'=>?_) ?_
  ·simp (disch:=first|decide|omega) only[Je,Jg,Jm,Ck,Ag,Aj];exact h'
  split
  ·obtain⟨hl1,hl2⟩:=Ep (c:=32) (x:=t)
   have hne:0<(Af 32 t).length:=List.length_pos_iff.mpr Nw
   have htot:=O4 (c:=32) (x:=t)
   rw[J3]
   simp (disch:=first|decide|omega) only[Je,Jf,Jg,Jl,Jq,Js,Jw,Jx,Jy,J0,J2,J3,J7,Ag,Aj,Ba,Bb,true_and,Bq,Ib,Fd]
   rw[Lh (by omega)]
   generalize Af 32 t=ts at *
   refine Am fun a H₁ e1 n1 v1=>?_
   have hlen:((ts.map V.str).length:Int)=ts.length:=by simp
   (try dsimp only);(try simp (disch:=first|decide|omega) only[Jb,Jc,Jd,Je,Jf,Jg,Jh,Ji,Jj,Jk,Jl,Jm,Jn,Jo,Jp,Jq,Jr,Js,Jt,Ju,Jv,Jw,Jx,Jy,Jz,J0,J1,J2,J3,J4,J5,J6,J7,J8,J9,Cu,Cz,Cv,Dl,Ck,C0,Dz,Dm,Dr,Ds,D0,D1,Be,Dn,Du,Dt,Cm,D2,Dv,Dp,List.map,Br,Bs,Ag,Aj,List.replicate,Ba,Bb,Bf,true_and])
   simp (disch:=first|decide|omega) only[J6,Fl v1,hlen]
   have hi:(c%(ts.length:Int)).toNat<ts.length:=by have:=Int.emod_nonneg c (show (ts.length:Int)≠0 by omega);have:=Int.emod_lt_of_pos c (show (0:Int)<ts.length by omega);omega
   have hj:(c/97%(ts.length:Int)).toNat<ts.length:=by have:=Int.emod_nonneg (c/97) (show (ts.length:Int)≠0 by omega);have:=Int.emod_lt_of_pos (c/97) (show (0:Int)<ts.length by omega);omega
   have hi0:=Int.emod_nonneg c (show (ts.length:Int)≠0 by omega)
   have hj0:=Int.emod_nonneg (c/97) (show (ts.length:Int)≠0 by omega)
   generalize c%(ts.length:Int)=i at *
   generalize c/97%(ts.length:Int)=j at *
   have gx:=List.getElem?_eq_getElem hi
   have gy:=List.getElem?_eq_getElem hj
   have mx:=List.getElem_mem hi
   have my:=List.getElem_mem hj
   generalize ts[i.toNat]=x at *
   generalize ts[j.toNat]=y at *
   have gx':(ts.map V.str)[i.toNat]? = some (.str x):=by rw[List.getElem?_map,gx];rfl
   have gy':(ts.map V.str)[j.toNat]? = some (.str y):=by rw[List.getElem?_map,gy];rfl
   rw[A1 v1 hi0 gx']
   (try dsimp only);(try simp (disch:=first|decide|omega) only[Jb,Jc,Jd,Je,Jf,Jg,Jh,Ji,Jj,Jk,Jl,Jm,Jn,Jo,Jp,Jq,Jr,Js,Jt,Ju,Jv,Jw,Jx,Jy,Jz,J0,J1,J2,J3,J4,J5,J6,J7,J8,J9,Cu,Cz,Cv,Dl,Ck,C0,Dz,Dm,Dr,Ds,D0,D1,Be,Dn,Du,Dt,Cm,D2,Dv,Dp,List.map,Br,Bs,Ag,Aj,List.replicate,Ba,Bb,Bf,true_and])
   simp (disch:=first|decide|omega) only[Jg,Js,Ag,Aj,Bk]
   rw[A1 v1 hj0 gy']
   (try dsimp only);(try simp (disch:=first|decide|omega) only[Jb,Jc,Jd,Je,Jf,Jg,Jh,Ji,Jj,Jk,Jl,Jm,Jn,Jo,Jp,Jq,Jr,Js,Jt,Ju,Jv,Jw,Jx,Jy,Jz,J0,J1,J2,J3,J4,J5,J6,J7,J8,J9,Cu,Cz,Cv,Dl,Ck,C0,Dz,Dm,Dr,Ds,D0,D1,Be,Dn,Du,Dt,Cm,D2,Dv,Dp,List.map,Br,Bs,Ag,Aj,List.replicate,Ba,Bb,Bf,true_and])
   rw[S0 v1 hi0 (by rw[List.length_map];omega),T5]
   try simp (disch:=first|decide|omega) only[Jb,Jc,Jd,Je,Jf,Jg,Jh,Ji,Jj,Jk,Jl,Jm,Jn,Jo,Jp,Jq,Jr,Js,Jt,Ju,Jv,Jw,Jx,Jy,Jz,J0,J1,J2,J3,J4,J5,J6,J7,J8,J9,Cu,Cz,Cv,Dl,Ck,C0,Dz,Dm,Dr,Ds,D0,D1,Be,Dn,Du,Dt,Cm,D2,Dv,Dp,List.map,Br,Bs,Ag,Aj,List.replicate,Ba,Bb,Bf,true_and,Bk]
   rw[S0 Ae hj0 (by rw[List.length_map,List.length_set];omega),T5]
   try simp (disch:=first|decide|omega) only[Jb,Jc,Jd,Je,Jf,Jg,Jh,Ji,Jj,Jk,Jl,Jm,Jn,Jo,Jp,Jq,Jr,Js,Jt,Ju,Jv,Jw,Jx,Jy,Jz,J0,J1,J2,J3,J4,J5,J6,J7,J8,J9,Cu,Cz,Cv,Dl,Ck,C0,Dz,Dm,Dr,Ds,D0,D1,Be,Dn,Du,Dt,Cm,D2,Dv,Dp,List.map,Br,Bs,Ag,Aj,List.replicate,Ba,Bb,Bf,true_and,Bq,Ib,Fd]
   have t1:=P6 (y:=y) (ts:=ts) (i:=i.toNat)
   have t2:=P6 (y:=x) (ts:=ts.set i.toNat y) (i:=j.toNat)
   have t3:=Rk (ts:=(ts.set i.toNat y).set j.toNat x)
   have lx:=hl2 x mx
   have ly:=hl2 y my
   rw[S1 (by decide) Ae (by omega)]
   exact q _ _ (by omega) ((e1.upd' n1).upd' n1)
  ·simp (disch:=first|decide|omega) only[J2]
   exact hN _ _ ⟨rfl,rfl⟩
 rintro _ _ ⟨rfl,rfl⟩
 refine seq (fun ρ H₁=>ρ = [some (.str t),some (.int c),some (.int k),none,none,none,none,none]/\H=H₁) (fun N hN=>?_) ?_
 ·refine A3 (decide (k=5)) (fun Q' h'=>?_) ?_
  ·simp (disch:=first|decide|omega) only[Je,Jg,Jm,Ck,Ag,Aj];exact h'
  split
  ·rw[J3]
   simp (disch:=first|decide|omega) only[Jg,Jp,Jw,Jx,J0,J2,Ag,Aj,Bf,true_and,F.odd]
   exact Ab9 F.odd fun s H₁ hs e=>q s H₁ (by omega) e
  ·simp (disch:=first|decide|omega) only[J2]
   exact hN _ _ ⟨rfl,rfl⟩
 rintro _ _ ⟨rfl,rfl⟩
 rw[J3]
 simp (disch:=first|decide|omega) only[Jg,J0,J2,Ag]
 exact q t H (by omega) Av.refl
theorem Rl(F:S3 G){t:List Nat}(ht:t.length<=1000000)(hno:Ly t)(q:∀H',Av H H'->Q (.bool true) H'):Ab G (n+4) "_law_refused" [.str t] H Q E:=by
 have X:=F.txt.excs
 refine Al F.refused rfl ?_
 simp only[Fv,List.map,List.replicate,List.cons_append,List.nil_append]
 rw[J3,Rv]
 refine⟨X.badText,?_⟩
 rw[J3]
 simp (disch:=first|decide|omega) only[Jd,Jg,Jh,Jj,Jp,Jw,Jx,Jz,J0,J2,J3,Be,Ag,Bf,true_and,F.txt.read]
 refine S2 F.txt ht (fun m ps w ws x H' r=>absurd r (hno m ps w ws)) fun _ a H' e ha=>?_
 rw[Ch]
 show Ny G (Ab G (n+3)) (.ite (.or (.isown .badWeb (.var 1)) (.isown .noPoint (.var 1))) [.ret (.cbool false)] []) [some (.str t),some (.ref a)] (upd H' a (.exc .badText)) (fun ρ H=>Ay G (Ab G (n+3)) (.and (.not (.isown .badOrder (.var 1))) (.not (.isown .hasGap (.var 1)))) ρ H Q EF) Q EF
 refine A3 false (fun Q' h'=>?_) ?_
 ·simp (disch:=first|decide|omega) only[Jg,Jk,Be,Ag,Aj,true_and,Kn,X.badWeb]
  rw[Ch]
  show Ay G (Ab G (n+3)) (.isown .noPoint (.var 1)) [some (.str t),some (.ref a)] (upd H' a (.exc .badText)) Q' EF
  simp (disch:=first|decide|omega) only[Jg,Ag,Aj,true_and,Kn,X.noPoint]
  rw[Ch]
  exact h'
 rw[if_neg (by decide),J2]
 simp (disch:=first|decide|omega) only[Jg,Jh,Jj,Be,Ag,Aj,true_and,Kn,X.badOrder]
 rw[Ch]
 show Ay G (Ab G (n+3)) (.not (.isown .hasGap (.var 1))) [some (.str t),some (.ref a)] (upd H' a (.exc .badText)) Q EF
 simp (disch:=first|decide|omega) only[Jg,Jh,Be,Ag,Aj,true_and,Kn,X.hasGap]
 rw[Ch]
 exact q _ (e.trans (Av.upd ha))
theorem S5(F:S3 G){t:List Nat}(ht:t.length<=1000000)(hno:Ly t)(q:∀H',Av H H'->Q (.bool true) H'):Ab G (n+4) "_law_by_base" [.str t] H Q E:=by
 have X:=F.txt.excs
 refine Al F.base rfl ?_
 simp only[Fw,List.map,List.replicate,List.cons_append,List.nil_append]
 rw[J3,Vl]
 refine⟨X.webError,X.badText,?_⟩
 rw[J3]
 simp (disch:=first|decide|omega) only[Jd,Jg,Jp,Jw,Jx,Jz,J0,J2,J3,Ag,Bf,true_and,F.txt.read]
 refine S2 F.txt ht (fun m ps w ws x H' r=>absurd r (hno m ps w ws)) fun _ a H' e ha=>?_
 rw[Ch]
 show Ay G (Ab G (n+3)) (Mine.Internal.X.var 1).isVE [some (.str t),some (.ref a)] (upd H' a (.exc .badText)) Q EF
 simp (disch:=first|decide|omega) only[Jg,Ag,Aj,Vm]
 rw[Ch]
 exact q _ (e.trans (Av.upd ha))
theorem Mb(F:S3 G){w:Nat}{k:Int}(hW:F5 H w m A)(q:∀H',Av H H'->Q (.bool true) H'):Ab G (n+3) "_law_no_point" [.ref w,.int m,.int k] H Q E:=by
 have X:=F.txt.excs
 have B:=F.txt.fb.base
 obtain⟨d,rs,w1,w2,w3⟩:=hW
 have hW:F5 H w m A:=⟨d,rs,w1,w2,w3⟩
 refine Al F.noPoint rfl ?_
 simp only[E7,List.map,List.cons_append,List.nil_append]
 rw[J3,Rv]
 refine⟨X.noPoint,?_⟩
 have fin:∀a,H a=none->(match Ct .noPoint (.ref a) (upd H a (.exc .noPoint))with
  | some true=>Bt G (Ab G (n+2)) [.ret (.cbool true)] (T9 none (some (.ref a)) [some (.ref w),some (.int m),some (.int k)]) (upd H a (.exc .noPoint)) (fun ρ H=>Bt G (Ab G (n+2)) [.ret (.cbool false)] (T8 none ρ) H (fun _ H=>Q .none H) Q E) Q EF
  | _=>False):=by
  intro a na
  rw[Ch]
  show Ay G (Ab G (n+2)) (.cbool true) [some (.ref w),some (.int m),some (.int k)] (upd H a (.exc .noPoint)) Q EF
  simp (disch:=first|decide|omega) only[Jd]
  exact q _ (Av.upd na)
 rw[J3]
 refine A3 (decide (k=0)) (fun Q' h'=>?_) ?_
 ·simp (disch:=first|decide|omega) only[Jd,Je,Jg,Jm,J0,J2,J3,Ck,Ag,Aj];exact h'
 split
 ·simp (disch:=first|decide|omega) only[Jd,Jg,Jw,Jx,Jz,J0,J2,J3,Ag,Aj,Bf,true_and,Aq,C7,C8,E3,w1,w2,F.txt.fb.beside]
  exact Rd F.txt.fb X.noPoint hW (by omega) fin
 ·simp (disch:=first|decide|omega) only[Jd,Je,Jg,Jw,Jx,Jz,J0,J2,J3,Ag,Aj,Bf,true_and,Aq,C7,C8,E3,w1,w2,B.tied]
  exact U4 B X.noPoint hW (.inr (by omega)) fin
set_option linter.all false
variable {G:Ap} {n:Nat} {H H':AH} {Q:Ad} {E:EP} {C:CS} {ρ:Ao} {m:Nat} {A:Nat->Nat->Bool}
theorem U8{ps:List (Int×Int)}{i j:Nat}:Cr ps i j=Cr ps j i:=by
 unfold Cr
 rw[Bool.eq_iff_iff,decide_eq_true_eq,decide_eq_true_eq]
 exact⟨P7.symm,P7.symm⟩
structure F02(G:Ap):Prop where
 law_:S3 G
 many:G.fn "_law_many" = some Fi
 whole:G.fn "_law_whole" = some D9
 numbers:G.fn "_law_numbers" = some Fg
 pairs:G.fn "_law_pairs" = some G3
 law:G.fn "law" = some Qb
theorem Acb{x nr i:Nat}(h7:ρ[7]? = some (some (.ref x)))(h9:ρ[9]? = some (some (.int i)))(hx:H x=some (.tuple [.int m,.ref nr]))(hm:m<=60)(hi:i<m)(hN:Dh H nr m A)
 (q:∀a as H',Av H H'->H' a=some (.list (as.map V.ref))->Ah H' as (Hx m A i)->Q (.ref a) H') :
 Ay G C (.compIf 1 (.val (.sub (.sub (.var 7) (.cint 1)) (.var 9))) Hc Hd) ρ H Q E:=by
 obtain⟨as',z,a1,a2,a3,a4⟩:=hN.row (x:=i) (by omega) (by omega)
 rw[Int.toNat_natCast]at a4
 have hlen:=D4 (m:=m) (A:=A) (i:=i)
 rw[An,C2]
 simp (disch:=first|decide|omega) only[Je,Jg,Js,J4,Br,Bs,List.replicate,h7,h9]
 rw[Fm hx (by decide) rfl]
 (try dsimp only);(try simp (disch:=first|decide|omega) only[Jb,Jc,Jd,Je,Jf,Jg,Jh,Ji,Jj,Jk,Jl,Jm,Jn,Jo,Jp,Jq,Jr,Js,Jt,Ju,Jv,Jw,Jx,Jy,Jz,J0,J1,J2,J3,J4,J5,J6,J7,J8,J9,Cu,Cz,Cv,Dl,Ck,C0,Dz,Dm,Dr,Ds,D0,D1,Be,Dn,Du,Dt,Cm,D2,Dv,Dp,List.map,Br,Bs,Ag,Aj,List.replicate,Ba,Bb,Bf,true_and])
 rw[A1 a1 (by omega) a3,C1 a4]
 refine⟨by simp[B6];omega,?_⟩
 refine Cd (k:=0) (fun j acc H'=>(Li fun(as:List Nat)=>Go (acc=as.map V.ref) (Av H H') (Ah H' as ((((Bc m A i).take j).filter fun y=>decide ((i:Int)<y)).map fun y=>((i:Int),y))))) ⟨[],rfl,Av.refl,rfl⟩ ?_ ?_
 ·rintro j x acc H₁ K hx ⟨as,rfl,e1,p1⟩ hK
  rw[List.getElem?_map]at hx
  obtain⟨v,hv,rfl⟩:=Option.map_eq_some_iff.mp hx
  obtain⟨y,hy,rfl⟩:=LI.at_ (a:=z) hv
  refine⟨e1 _ _ a4,_,rfl,?_⟩
  simp (disch:=first|decide|omega) only[Jg,Jm,Jv,Jw,Jx,Cv,Be,Ag,Aj,Hc,Hd,h9]
  rw[Nat.zero_add]at hK p1
  rw[List.take_add_one,hy]at hK
  split
  ·rename_i hlt
   refine Am fun tp H₂ e2 n2 v2=>hK _ _ ⟨as ++ [tp],by simp,e1.trans e2,?_⟩
   have:=(p1.ext e2).app (Ah.one (p:=((i:Int),y)) v2)
   simpa[hlt]using this
  ·rename_i hlt
   refine hK _ _ ⟨as,rfl,e1,?_⟩
   simpa[hlt]using p1
 ·rintro acc H₁ ⟨as,rfl,e1,p1⟩
  refine⟨e1 _ _ a4,Am fun a H₂ e2 n2 v2=>q a as H₂ (e1.trans e2) v2 ?_⟩
  rw[List.length_map,List.length_map,Nat.zero_add,List.take_of_length_le (Nat.le_refl _)]at p1
  exact p1.ext e2
theorem Aa7(F:F02 G){x nr w i:Nat}{y:Int}{r0 r1 r2 r3 r4 r5 r6 r10 r12:Option V}{N:Ao->AH->Prop}(hm:m<=60)(hi:i<m)(hx:H x=some (.tuple [.int m,.ref nr]))(hN:Dh H nr m A)(hW:F5 H w m A)(sy:∀i j,A i j=A j i)(hy:0<=y/\y<(m:Int))
 (q:N [r0,r1,r2,r3,r4,r5,r6,some (.ref x),some (.ref w),some (.int i),r10,some (.int y),r12] H) :
 Bt G (Ab G (n+2)) Ha [r0,r1,r2,r3,r4,r5,r6,some (.ref x),some (.ref w),some (.int i),r10,some (.int y),r12] H N Q E:=by
 have B:=F.law_.txt.fb.base
 obtain⟨d,rs,w1,w2,w3⟩:=hW
 obtain⟨as',z,a1,a2,a3,a4⟩:=hN.row (x:=i) (by omega) (by omega)
 have g:∀ {Q':Ad},Cj (.ref x) (.int 1) H Q'=Q' (.ref nr) H:=Fm hx (by decide) rfl
 simp only[Ha]
 rw[J3]
 refine A3 false (fun Q' h'=>?_) ?_
 ·simp (disch:=first|decide|omega) only[Je,Jg,Jk,Jm,Js,Jw,Jx,Ag,Aj,Bf,true_and,Aq,C7,C8,E3,w1,w2,B.tied]
  refine Xk B ⟨d,rs,w1,w2,w3⟩ (by omega) (by omega) hy.1 hy.2 ?_
  (try dsimp only);(try simp (disch:=first|decide|omega) only[Jb,Jc,Jd,Je,Jf,Jg,Jh,Ji,Jj,Jk,Jl,Jm,Jn,Jo,Jp,Jq,Jr,Js,Jt,Ju,Jv,Jw,Jx,Jy,Jz,J0,J1,J2,J3,J4,J5,J6,J7,J8,J9,Cu,Cz,Cv,Dl,Ck,C0,Dz,Dm,Dr,Ds,D0,D1,Be,Dn,Du,Dt,Cm,D2,Dv,Dp,List.map,Br,Bs,Ag,Aj,List.replicate,Ba,Bb,Bf,true_and])
  rw[g]
  (try dsimp only);(try simp (disch:=first|decide|omega) only[Jb,Jc,Jd,Je,Jf,Jg,Jh,Ji,Jj,Jk,Jl,Jm,Jn,Jo,Jp,Jq,Jr,Js,Jt,Ju,Jv,Jw,Jx,Jy,Jz,J0,J1,J2,J3,J4,J5,J6,J7,J8,J9,Cu,Cz,Cv,Dl,Ck,C0,Dz,Dm,Dr,Ds,D0,D1,Be,Dn,Du,Dt,Cm,D2,Dv,Dp,List.map,Br,Bs,Ag,Aj,List.replicate,Ba,Bb,Bf,true_and])
  rw[A1 a1 (by omega) a3,Aaz a4,Px hy.1 hy.2]
  (try dsimp only);(try simp (disch:=first|decide|omega) only[Dm,Be])
  simp only[Int.toNat_natCast,beq_self_eq_true,Bool.not_true,Bool.false_eq_true,if_false]
  simp (disch:=first|decide|omega) only[C7,w1,C8,w2,E3]
  refine Xk B ⟨d,rs,w1,w2,w3⟩ hy.1 hy.2 (by omega) (by omega) ?_
  (try dsimp only);(try simp (disch:=first|decide|omega) only[Jb,Jc,Jd,Je,Jf,Jg,Jh,Ji,Jj,Jk,Jl,Jm,Jn,Jo,Jp,Jq,Jr,Js,Jt,Ju,Jv,Jw,Jx,Jy,Jz,J0,J1,J2,J3,J4,J5,J6,J7,J8,J9,Cu,Cz,Cv,Dl,Ck,C0,Dz,Dm,Dr,Ds,D0,D1,Be,Dn,Du,Dt,Cm,D2,Dv,Dp,List.map,Br,Bs,Ag,Aj,List.replicate,Ba,Bb,Bf,true_and])
  rw[g]
  (try dsimp only);(try simp (disch:=first|decide|omega) only[Jb,Jc,Jd,Je,Jf,Jg,Jh,Ji,Jj,Jk,Jl,Jm,Jn,Jo,Jp,Jq,Jr,Js,Jt,Ju,Jv,Jw,Jx,Jy,Jz,J0,J1,J2,J3,J4,J5,J6,J7,J8,J9,Cu,Cz,Cv,Dl,Ck,C0,Dz,Dm,Dr,Ds,D0,D1,Be,Dn,Du,Dt,Cm,D2,Dv,Dp,List.map,Br,Bs,Ag,Aj,List.replicate,Ba,Bb,Bf,true_and])
  rw[A1 a1 (by omega) a3,Aaz a4,Px hy.1 hy.2]
  (try dsimp only);(try simp (disch:=first|decide|omega) only[Dm])
  simp only[Int.toNat_natCast,sy y.toNat i,beq_self_eq_true,Bool.not_true]
  exact h'
 rw[if_neg (by decide),J2,J2]
 exact q
theorem Aa8(F:F02 G){x nr w:Nat}{cell:Int}{t:List Nat}{r0 r1 r2 r3 r4:Option V}{N:Ao->AH->Prop}(hm:m<=60)(hx:H x=some (.tuple [.int m,.ref nr]))(hN:Dh H nr m A)(hW:F5 H w m A)(sy:∀i j,A i j=A j i)(ht:Bv m A=t)(q:∀H',Q (.bool true) H') :
 Bt G (Ab G (n+4)) [.ite (.or (.not (.call "_law_whole" [(.attr (.var 8) .many)])) (.cmp .NotEq (.attr (.var 8) .many) (.sub (.var 7) (.cint 0)))) [.ret (.cbool false)] [],.assign 10 (.comp 1 (.range [(.sub (.var 7) (.cint 0))]) G9),.for (.one 9) (.range [(.sub (.var 7) (.cint 0))]) Hb,.assign 12 (.list []),.for (.one 9) (.range [(.sub (.var 7) (.cint 0))]) He,.ite (.or (.not (.call "_law_no_point" [(.var 8),(.sub (.var 7) (.cint 0)),(.cint 0)])) (.not (.call "_law_no_point" [(.var 8),(.sub (.var 7) (.cint 0)),(.cint 1)]))) [.ret (.cbool false)] [],.ret (.and (.call "_law_pairs" [(.meth "Web.ties" (.var 8) []),(.var 12)]) (.cmp .Eq (.call "shown" [(.var 8)]) (.var 6)))]
  [r0,r1,r2,r3,r4,some (.int cell),some (.str t),some (.ref x),some (.ref w),none,none,none,none] H N Q E:=by
 have L:=F.law_
 have B:=L.txt.fb.base
 have g0:∀ {X:AH} {Q':Ad},Av H X->Cj (.ref x) (.int 0) X Q'=Q' (.int m) X:=fun e=>Fm (e _ _ hx) (by decide) rfl
 have g1:∀ {X:AH} {Q':Ad},Av H X->Cj (.ref x) (.int 1) X Q'=Q' (.ref nr) X:=fun e=>Fm (e _ _ hx) (by decide) rfl
 refine seq (fun ρ H₁=>ρ = [r0,r1,r2,r3,r4,some (.int cell),some (.str t),some (.ref x),some (.ref w),none,none,none,none]/\H=H₁) (fun N hN'=>?_) ?_
 ·obtain⟨dd,rs,w1,w2,w3⟩:=hW
  rw[Ja]
  simp (disch:=first|decide|omega) only[Jd,Je,Jg,Jh,Jk,Jm,Jp,Jr,Js,Jw,Jx,J0,J2,J3,Be,Ag,Aj,Bf,true_and,F.whole,Gk w1 w2 (show Iv [(C6.many,V.int m),(C6.rows,V.ref rs)] .many=some (.int m)from rfl)]
  refine Mm F.whole ?_
  (try dsimp only);(try simp (disch:=first|decide|omega) only[Be])
  simp only[Bool.not_true,Bool.false_eq_true,if_false]
  rw[Gk w1 w2 (show Iv [(C6.many,V.int m),(C6.rows,V.ref rs)] .many=some (.int m)from rfl),g0 Av.refl,C0,Be,decide_eq_true rfl]
  exact hN' _ _ ⟨rfl,rfl⟩
 rintro _ _ ⟨rfl,rfl⟩
 refine seq (fun ρ H₄=>(Gx fun(a:Nat) (as:List Nat)=>ρ = [r0,r1,r2,r3,r4,some (.int cell),some (.str t),some (.ref x),some (.ref w),none,some (.ref a),none,none]/\F4 H H₄ a as m (fun i=> .list ((Bc m A i).map V.int)))) (fun N hN'=>?_) ?_
 ·rw[Jy,Ar,Bh]
  simp (disch:=first|decide|omega) only[Je,Jg,Js,Jw,Jx,J4,Cm,Br,Bs,Ag,Aj,List.replicate,Ba,Bb,g0 Av.refl]
  refine⟨by simp[B6];omega,Py (f:=fun i=> .list ((Bc m A i).map V.int)) (fun i H' K hi e hK=>?_) fun as H' a ha c=>hN' _ _ ⟨a,as,rfl,c⟩⟩
  obtain⟨dd,rs,w1,w2,w3⟩:=hW.ext e
  have hi':i<m:=by simpa using hi
  simp (disch:=first|decide|omega) only[Jg,Jw,Jx,Ag,Aj,Bf,true_and,G9,Aq,C7,C8,E3,w1,w2,L.txt.fb.beside]
  refine Xl B L.txt.fb.beside ⟨dd,rs,w1,w2,w3⟩ (by omega) (by omega) fun b H₄ e4 n4 v4=>hK b H₄ e4 n4 ?_
  rw[Int.toNat_natCast]at v4
  exact v4
 rintro _ H₁ ⟨a,as,rfl,c⟩
 refine seq (fun ρ H₂=>(Gx fun(r9 r11:Option V)=>ρ = [r0,r1,r2,r3,r4,some (.int cell),some (.str t),some (.ref x),some (.ref w),r9,some (.ref a),r11,none]/\Av H₁ H₂)) (fun N hN'=>?_) ?_
 ·rw[Bm,Bh]
  simp (disch:=first|decide|omega) only[Je,Jg,Js,Jw,Jx,Cm,Ag,Aj,g0 c.ext]
  refine Bj (fun i ρ H₂=>(Gx fun(r9 r11:Option V)=>ρ = [r0,r1,r2,r3,r4,some (.int cell),some (.str t),some (.ref x),some (.ref w),r9,some (.ref a),r11,none]/\Av H₁ H₂)) ⟨_,_,rfl,Av.refl⟩ ?_ ?_
  ·rintro i ρ H₂ K hi ⟨r9,r11,rfl,e2⟩ hK
   have hi':i<m:=by simpa using hi
   have e02:=c.ext.trans e2
   simp only[Hb,List.set_cons_succ,List.set_cons_zero]
   refine seq (fun ρ H₃=>ρ = [r0,r1,r2,r3,r4,some (.int cell),some (.str t),some (.ref x),some (.ref w),some (.int i),some (.ref a),r11,none]/\H₂=H₃) (fun N hN'=>?_) ?_
   ·obtain⟨as',z,a1,a2,a3,a4⟩:=(hN.ext e02).row (x:=i) (by omega) (by omega)
    rw[Int.toNat_natCast]at a4
    have hl:i<as.length:=by rw[c.len];exact hi'
    have hob:=c.obj i _ (List.getElem?_eq_getElem hl)
    refine A3 false (fun Q' h'=>?_) ?_
    ·simp (disch:=first|decide|omega) only[Je,Jg,Jh,Jp,Js,Jw,Jx,Ag,Aj,Bf,true_and,F.numbers]
     rw[A1 (e2 _ _ c.at_) (by omega) (show (as.map V.ref)[(i:Int).toNat]? = some (.ref as[i]) by rw[Int.toNat_natCast,List.getElem?_map,List.getElem?_eq_getElem hl];rfl)]
     (try dsimp only);(try simp (disch:=first|decide|omega) only[Jb,Jc,Jd,Je,Jf,Jg,Jh,Ji,Jj,Jk,Jl,Jm,Jn,Jo,Jp,Jq,Jr,Js,Jt,Ju,Jv,Jw,Jx,Jy,Jz,J0,J1,J2,J3,J4,J5,J6,J7,J8,J9,Cu,Cz,Cv,Dl,Ck,C0,Dz,Dm,Dr,Ds,D0,D1,Be,Dn,Du,Dt,Cm,D2,Dv,Dp,List.map,Br,Bs,Ag,Aj,List.replicate,Ba,Bb,Bf,true_and])
     rw[g1 e02]
     (try dsimp only);(try simp (disch:=first|decide|omega) only[Jb,Jc,Jd,Je,Jf,Jg,Jh,Ji,Jj,Jk,Jl,Jm,Jn,Jo,Jp,Jq,Jr,Js,Jt,Ju,Jv,Jw,Jx,Jy,Jz,J0,J1,J2,J3,J4,J5,J6,J7,J8,J9,Cu,Cz,Cv,Dl,Ck,C0,Dz,Dm,Dr,Ds,D0,D1,Be,Dn,Du,Dt,Cm,D2,Dv,Dp,List.map,Br,Bs,Ag,Aj,List.replicate,Ba,Bb,Bf,true_and])
     rw[A1 a1 (by omega) a3]
     refine U2 F.whole F.numbers (show LI H₂ as[i] (Bc m A i)from e2 _ _ hob) a4 (Nat.le_trans D4 (by omega)) ?_
     (try dsimp only);(try simp (disch:=first|decide|omega) only[Be])
     simp only[Bool.not_true]
     exact h'
    rw[if_neg (by decide),J2]
    exact hN' _ _ ⟨rfl,rfl⟩
   rintro _ _ ⟨rfl,rfl⟩
   rw[J3,Bm,C2]
   simp (disch:=first|decide|omega) only[Je,Jg,Jl,Js,Jv,Jw,Jx,J2,J6,J9,Ag,Aj,g0 e02]
   refine Am fun tp H₃ e3 n3 v3=>?_
   rw[Aat v3]
   refine Nu (ys:=[.int 0,.int (cell%m),.int (m-1)]) (fun j ρ H₄=>∃r11:Option V,ρ = [r0,r1,r2,r3,r4,some (.int cell),some (.str t),some (.ref x),some (.ref w),some (.int i),some (.ref a),r11,none]/\Av H₃ H₄) ⟨_,rfl,Av.refl⟩ (fun j ρ H₄ h=>?_) ?_ ?_
   ·obtain⟨r11,_,e4⟩:=h;exact e4 _ _ v3
   ·rintro j v ρ H₄ K4 hv ⟨r11,rfl,e4⟩ hK4
    have hv':(Li fun(y:Int)=>Go (v = .int y) (0<=y) (y<(m:Int))):=by
     have hp:(0:Int)<m:=by omega
     have h1:=Int.emod_nonneg cell (show (m:Int)≠0 by omega)
     have h2:=Int.emod_lt_of_pos cell hp
     rcases List.mem_cons.mp (List.mem_of_getElem? hv)with h|h
     ·exact⟨0,h,by omega,hp⟩
     ·rcases List.mem_cons.mp h with h|h
      ·exact⟨_,h,h1,h2⟩
      ·exact⟨(m:Int)-1,by simpa using h,by omega,by omega⟩
    obtain⟨y,rfl,hy1,hy2⟩:=hv'
    have e04:=e02.trans (e3.trans e4)
    simp only[List.set_cons_succ,List.set_cons_zero]
    exact Aa7 F hm hi' (e04 _ _ hx) (hN.ext e04) (hW.ext e04) sy ⟨hy1,hy2⟩ (hK4 _ _ ⟨_,rfl,e4⟩)
   ·rintro ρ H₄ ⟨r11,rfl,e4⟩
    try simp (disch:=first|decide|omega) only[Jb,Jc,Jd,Je,Jf,Jg,Jh,Ji,Jj,Jk,Jl,Jm,Jn,Jo,Jp,Jq,Jr,Js,Jt,Ju,Jv,Jw,Jx,Jy,Jz,J0,J1,J2,J3,J4,J5,J6,J7,J8,J9,Cu,Cz,Cv,Dl,Ck,C0,Dz,Dm,Dr,Ds,D0,D1,Be,Dn,Du,Dt,Cm,D2,Dv,Dp,List.map,Br,Bs,Ag,Aj,List.replicate,Ba,Bb,Bf,true_and]
    exact hK _ _ ⟨_,_,rfl,e2.trans (e3.trans e4)⟩
  ·rintro ρ H₂ ⟨r9,r11,rfl,e2⟩
   exact hN' _ _ ⟨_,_,rfl,e2⟩
 rintro _ H₂ ⟨r9,r11,rfl,e2⟩
 have e02:=c.ext.trans e2
 refine seq (fun ρ H₃=>(Li fun d=>Go (ρ = [r0,r1,r2,r3,r4,some (.int cell),some (.str t),some (.ref x),some (.ref w),r9,some (.ref a),r11,some (.ref d)]) (Av H H₃) (H₃ d=some (.list [])))) (fun N hN'=>?_) ?_
 ·simp (disch:=first|decide|omega) only[Ju,Jw,Jy,Ba,Bb]
  exact Am fun d H₃ e3 n3 v3=>hN' _ _ ⟨d,rfl,e02.trans e3,v3⟩
 rintro _ H₃ ⟨d,rfl,e3,v3⟩
 refine seq (fun ρ H₄=>(Rm fun(d:Nat) (ds:List Nat) (r9:Option V)=>Rq (ρ = [r0,r1,r2,r3,r4,some (.int cell),some (.str t),some (.ref x),some (.ref w),r9,some (.ref a),r11,some (.ref d)]) (Av H H₄) (H₄ d=some (.list (ds.map V.ref))) (Ah H₄ ds (C5 m A m)))) (fun N hN'=>?_) ?_
 ·rw[Bm,Bh]
  simp (disch:=first|decide|omega) only[Je,Jg,Js,Jw,Jx,Cm,Ag,Aj,g0 e3]
  refine Bj (fun i ρ H₄=>(Rm fun(d:Nat) (ds:List Nat) (r9:Option V)=>Rq (ρ = [r0,r1,r2,r3,r4,some (.int cell),some (.str t),some (.ref x),some (.ref w),r9,some (.ref a),r11,some (.ref d)]) (Av H H₄) (H₄ d=some (.list (ds.map V.ref))) (Ah H₄ ds (C5 m A i)))) ⟨d,[],_,rfl,e3,v3,rfl⟩ ?_ ?_
  ·rintro i ρ H₄ K hi ⟨d,ds,r9,rfl,e4,v4,p4⟩ hK
   have hi':i<m:=by simpa using hi
   simp only[He,J3,J2,List.set_cons_succ,List.set_cons_zero]
   rw[Jy,Jl]
   simp (disch:=first|decide|omega) only[Jg,Ag,Aj,Ba,Bb]
   refine Acb (x:=x) rfl rfl (e4 _ _ hx) hm hi' (hN.ext e4) fun b bs H₅ e5 v5 p5=>?_
   have hl1:=Eo (m:=m) (A:=A) (k:=i)
   have hl2:=Kf (m:=m) (A:=A) (i:=i)
   have hmm:m*i<=60*60:=Nat.mul_le_mul hm (by omega)
   have q4:=p4.len
   have q5:=p5.len
   rw[Kd (e5 _ _ v4) v5 (by rw[List.length_map,List.length_map];omega)]
   refine Am fun z H₆ e6 n6 v6=>hK _ _ ⟨z,ds++bs,_,rfl,e4.trans (e5.trans e6),by rw[v6,List.map_append],?_⟩
   rw[Gl]
   exact(p4.ext (e5.trans e6)).app (p5.ext e6)
  ·rintro ρ H₄ ⟨d,ds,r9,rfl,e4,v4,p4⟩
   exact hN' _ _ ⟨d,ds,_,rfl,e4,v4,p4⟩
 rintro _ H₄ ⟨d,ds,r9,rfl,e4,v4,p4⟩
 refine seq (fun ρ H₅=>ρ = [r0,r1,r2,r3,r4,some (.int cell),some (.str t),some (.ref x),some (.ref w),r9,some (.ref a),r11,some (.ref d)]/\Av H₄ H₅) (fun N hN'=>?_) ?_
 ·rw[Ja]
  simp (disch:=first|decide|omega) only[Jd,Je,Jg,Jh,Jk,Jp,Js,Jw,Jx,J0,J2,J3,Be,Ag,Aj,Bf,true_and,g0 e4,L.noPoint]
  refine Mb L (hW.ext e4) fun H₅ e5=>?_
  (try dsimp only);(try simp (disch:=first|decide|omega) only[Be])
  simp only[Bool.not_true,Bool.false_eq_true,if_false]
  rw[g0 (e4.trans e5)]
  (try dsimp only);(try simp (disch:=first|decide|omega) only[Jb,Jc,Jd,Je,Jf,Jg,Jh,Ji,Jj,Jk,Jl,Jm,Jn,Jo,Jp,Jq,Jr,Js,Jt,Ju,Jv,Jw,Jx,Jy,Jz,J0,J1,J2,J3,J4,J5,J6,J7,J8,J9,Cu,Cz,Cv,Dl,Ck,C0,Dz,Dm,Dr,Ds,D0,D1,Be,Dn,Du,Dt,Cm,D2,Dv,Dp,List.map,Br,Bs,Ag,Aj,List.replicate,Ba,Bb,Bf,true_and])
  refine Mb L (hW.ext (e4.trans e5)) fun H₆ e6=>?_
  (try dsimp only);(try simp (disch:=first|decide|omega) only[Be])
  simp only[Bool.not_true,Bool.false_eq_true,if_false]
  exact hN' _ _ ⟨rfl,e5.trans e6⟩
 rintro _ H₅ ⟨rfl,e5⟩
 have e05:=e4.trans e5
 obtain⟨dd,rs,w1,w2,w3⟩:=hW.ext e05
 have hl1:=Eo (m:=m) (A:=A) (k:=m)
 have hmm:m*m<=60*60:=Nat.mul_le_mul hm hm
 rw[J3,J0]
 simp (disch:=first|decide|omega) only[Jg,Jj,Jm,Jp,Jw,Jx,Ag,Aj,Bf,true_and,Aq,C7,C8,E3,w1,w2,B.wties,F.pairs]
 refine T0 B hm ⟨dd,rs,w1,w2,w3⟩ fun b bs H₆ tb=>?_
 (try dsimp only);(try simp (disch:=first|decide|omega) only[Jb,Jc,Jd,Je,Jf,Jg,Jh,Ji,Jj,Jk,Jl,Jm,Jn,Jo,Jp,Jq,Jr,Js,Jt,Ju,Jv,Jw,Jx,Jy,Jz,J0,J1,J2,J3,J4,J5,J6,J7,J8,J9,Cu,Cz,Cv,Dl,Ck,C0,Dz,Dm,Dr,Ds,D0,D1,Be,Dn,Du,Dt,Cm,D2,Dv,Dp,List.map,Br,Bs,Ag,Aj,List.replicate,Ba,Bb,Bf,true_and])
 refine Za F.whole F.pairs tb.at_ (tb.ext _ _ (e5 _ _ v4)) tb.prs (p4.ext (e5.trans tb.ext)) (by omega) ?_
 (try dsimp only);(try simp (disch:=first|decide|omega) only[Be])
 simp only[if_true]
 simp (disch:=first|decide|omega) only[Bf,true_and,L.txt.shown]
 refine P2 B L.txt.shown hm (hW.ext (e05.trans tb.ext)) fun H₇ e7=>?_
 (try dsimp only);(try simp (disch:=first|decide|omega) only[Jb,Jc,Jd,Je,Jf,Jg,Jh,Ji,Jj,Jk,Jl,Jm,Jn,Jo,Jp,Jq,Jr,Js,Jt,Ju,Jv,Jw,Jx,Jy,Jz,J0,J1,J2,J3,J4,J5,J6,J7,J8,J9,Cu,Cz,Cv,Dl,Ck,C0,Dz,Dm,Dr,Ds,D0,D1,Be,Dn,Du,Dt,Cm,D2,Dv,Dp,List.map,Br,Bs,Ag,Aj,List.replicate,Ba,Bb,Bf,true_and])
 rw[Xp,decide_eq_true ht]
 exact q _
theorem Aa9(F:F02 G){ns:List Int}(H:AH):Ab G (n+8) "law" [.script ns] H (fun v _=>v = .bool true) E:=by
 have L:=F.law_
 have B:=L.txt.fb.base
 refine Al F.law rfl ?_
 simp only[Qb,List.map,List.replicate,List.cons_append,List.nil_append]
 refine seq (fun ρ H₁=>∃m:Nat,m<=60/\ρ = [some (.script ns),some (.int m),none,none,none,none,none,none,none,none,none,none,none]) (fun N hN=>?_) ?_
 ·simp (disch:=first|decide|omega) only[Jg,Jp,Jw,Jx,Jy,Ag,Ba,Bb,Bf,true_and,F.many]
  exact Aau B.cellAt F.many fun m hm=>hN _ _ ⟨m,hm,rfl⟩
 rintro _ H₁ ⟨m,hm,rfl⟩
 refine seq (fun ρ H₂=>(Rm fun(t:Nat) (ts:List Nat) (ps:List (Int×Int))=>Rq (ρ = [some (.script ns),some (.int m),some (.ref t),none,none,none,none,none,none,none,none,none,none]) (H₂ t=some (.list (ts.map V.ref))) (Ah H₂ ts ps) (Dk m ps))) (fun N hN=>?_) ?_
 ·simp (disch:=first|decide|omega) only[Jg,Jp,Jw,Jx,Jy,Ag,Aj,Ba,Bb,Bf,true_and,B.ties,B.rows]
  refine Aav B hm fun a as rows H₁ e _ h1 h2 h3=>?_
  exact Aax B hm h1 h2 h3 fun t ts ps H₂ e _ h1 h2 h4 h5=>hN _ _ ⟨t,ts,ps,rfl,h1,h2,Y8 h3 h4⟩
 rintro _ H₂ ⟨t,ts,ps,rfl,hT,hP,hgood⟩
 refine seq (fun ρ H₃=>(Li fun nr=>Go (ρ = [some (.script ns),some (.int m),some (.ref t),some (.ref nr),none,none,none,none,none,none,none,none,none]) (Av H₂ H₃) (Dh H₃ nr m (Cr ps)))) (fun N hN=>?_) ?_
 ·simp (disch:=first|decide|omega) only[Jg,Jp,Jw,Jx,Jy,Ag,Aj,Ba,Bb,Bf,true_and,B.near]
  exact Xj B hm hT hP hgood fun nr H₃ e3 _ h=>hN _ _ ⟨nr,rfl,e3,h⟩
 rintro _ H₃ ⟨nr,rfl,e3,hNr⟩
 refine seq (fun ρ H₄=>ρ = [some (.script ns),some (.int m),some (.ref t),some (.ref nr),some (.str (Bv m (Cr ps))),none,none,none,none,none,none,none,none]/\Av H₃ H₄) (fun N hN=>?_) ?_
 ·simp (disch:=first|decide|omega) only[Jg,Jp,Jq,Jw,Jx,Jy,Ag,Aj,Ba,Bb,Bf,true_and,L.txt.shown,B.webOf,Tz (e3 _ _ hT)]
  refine Am fun l H₄ e4 n4 v4=>?_
  (try dsimp only);(try simp (disch:=first|decide|omega) only[Jb,Jc,Jd,Je,Jf,Jg,Jh,Ji,Jj,Jk,Jl,Jm,Jn,Jo,Jp,Jq,Jr,Js,Jt,Ju,Jv,Jw,Jx,Jy,Jz,J0,J1,J2,J3,J4,J5,J6,J7,J8,J9,Cu,Cz,Cv,Dl,Ck,C0,Dz,Dm,Dr,Ds,D0,D1,Be,Dn,Du,Dt,Cm,D2,Dv,Dp,List.map,Br,Bs,Ag,Aj,List.replicate,Ba,Bb,Bf,true_and])
  refine Tx B hm v4 (hP.ext (e3.trans e4)) hgood fun w H₅ e5 n5 hW=>?_
  (try dsimp only);(try simp (disch:=first|decide|omega) only[Jb,Jc,Jd,Je,Jf,Jg,Jh,Ji,Jj,Jk,Jl,Jm,Jn,Jo,Jp,Jq,Jr,Js,Jt,Ju,Jv,Jw,Jx,Jy,Jz,J0,J1,J2,J3,J4,J5,J6,J7,J8,J9,Cu,Cz,Cv,Dl,Ck,C0,Dz,Dm,Dr,Ds,D0,D1,Be,Dn,Du,Dt,Cm,D2,Dv,Dp,List.map,Br,Bs,Ag,Aj,List.replicate,Ba,Bb,Bf,true_and])
  exact P2 B L.txt.shown hm hW fun H₆ e6=>hN _ _ ⟨rfl,e4.trans (e5.trans e6)⟩
 rintro _ H₄ ⟨rfl,e4⟩
 refine seq (fun ρ H₅=>ρ = [some (.script ns),some (.int m),some (.ref t),some (.ref nr),some (.str (Bv m (Cr ps))),none,none,none,none,none,none,none,none]/\Av H₄ H₅) (fun N hN=>?_) ?_
 ·rw[Ja]
  simp (disch:=first|decide|omega) only[Jd,Jg,Jh,Jk,Jm,Jp,Jq,Jw,Jx,J0,J2,J3,Be,Ag,Aj]
  rw[show D7 (.isinst .str) [V.str (Bv m (Cr ps))] H₄=fun Q':Ad=>Q' (.bool true) H₄ from funext fun Q'=>propext ⟨fun z=>z.2,fun z=>⟨rfl,z⟩⟩]
  (try dsimp only);(try simp (disch:=first|decide|omega) only[Be])
  simp only[Bool.not_true,Bool.false_eq_true,if_false]
  simp (disch:=first|decide|omega) only[Bf,true_and,L.shown]
  refine Nv L.shown hm (hNr.ext e4) fun H₅ e5=>?_
  (try dsimp only);(try simp (disch:=first|decide|omega) only[Jb,Jc,Jd,Je,Jf,Jg,Jh,Ji,Jj,Jk,Jl,Jm,Jn,Jo,Jp,Jq,Jr,Js,Jt,Ju,Jv,Jw,Jx,Jy,Jz,J0,J1,J2,J3,J4,J5,J6,J7,J8,J9,Cu,Cz,Cv,Dl,Ck,C0,Dz,Dm,Dr,Ds,D0,D1,Be,Dn,Du,Dt,Cm,D2,Dv,Dp,List.map,Br,Bs,Ag,Aj,List.replicate,Ba,Bb,Bf,true_and])
  rw[Re,decide_eq_true rfl]
  exact hN _ _ ⟨rfl,e5⟩
 rintro _ H₅ ⟨rfl,e5⟩
 refine seq (fun ρ H₆=>∃cell:Int,ρ = [some (.script ns),some (.int m),some (.ref t),some (.ref nr),some (.str (Bv m (Cr ps))),some (.int cell),none,none,none,none,none,none,none]/\H₅=H₆) (fun N hN=>?_) ?_
 ·simp (disch:=first|decide|omega) only[Je,Jg,Jp,Jw,Jx,Jy,Ag,Ba,Bb,Bf,true_and,B.mixed,B.cellAt]
  refine Dg B.cellAt (by decide) ?_
  (try dsimp only);(try simp (disch:=first|decide|omega) only[Jb,Jc,Jd,Je,Jf,Jg,Jh,Ji,Jj,Jk,Jl,Jm,Jn,Jo,Jp,Jq,Jr,Js,Jt,Ju,Jv,Jw,Jx,Jy,Jz,J0,J1,J2,J3,J4,J5,J6,J7,J8,J9,Cu,Cz,Cv,Dl,Ck,C0,Dz,Dm,Dr,Ds,D0,D1,Be,Dn,Du,Dt,Cm,D2,Dv,Dp,List.map,Br,Bs,Ag,Aj,List.replicate,Ba,Bb,Bf,true_and])
  exact Ml B.mixed fun c c0 c1=>hN _ _ ⟨c,rfl,rfl⟩
 rintro _ _ ⟨cell,rfl,rfl⟩
 have h21:=Lv (m:=m) (A:=Cr ps) hm
 have hpos:=U6 (m:=m) (A:=Cr ps)
 refine seq (fun ρ H₆=>∃tx:List Nat,ρ = [some (.script ns),some (.int m),some (.ref t),some (.ref nr),some (.str (Bv m (Cr ps))),some (.int cell),some (.str tx),none,none,none,none,none,none]/\tx.length<=100000) (fun N hN=>?_) ?_
 ·simp (disch:=first|decide|omega) only[Je,Jg,Jl,Jp,Jw,Jx,Jy,Ag,Aj,Ba,Bb,Bf,true_and,L.by_,B.mixed,B.cellAt]
  refine Dg B.cellAt (by decide) ?_
  (try dsimp only);(try simp (disch:=first|decide|omega) only[Jb,Jc,Jd,Je,Jf,Jg,Jh,Ji,Jj,Jk,Jl,Jm,Jn,Jo,Jp,Jq,Jr,Js,Jt,Ju,Jv,Jw,Jx,Jy,Jz,J0,J1,J2,J3,J4,J5,J6,J7,J8,J9,Cu,Cz,Cv,Dl,Ck,C0,Dz,Dm,Dr,Ds,D0,D1,Be,Dn,Du,Dt,Cm,D2,Dv,Dp,List.map,Br,Bs,Ag,Aj,List.replicate,Ba,Bb,Bf,true_and])
  refine Ml B.mixed fun c c0 c1=>?_
  (try dsimp only);(try simp (disch:=first|decide|omega) only[J6])
  exact Xw L hpos (by omega) fun s H₆ hs e=>hN _ _ ⟨s,rfl,hs⟩
 rintro _ H₆ ⟨tx,rfl,htx⟩
 refine seq (fun ρ H₇=>(Ly tx/\ρ = [some (.script ns),some (.int m),some (.ref t),some (.ref nr),some (.str (Bv m (Cr ps))),some (.int cell),some (.str tx),some .none,none,none,none,none,none])\/
  (Zz fun(k:Nat) (qs:List (Int×Int)) (w:List Nat) (ws:List (List Nat)) (x nr2:Nat)=>Rq (ρ = [some (.script ns),some (.int m),some (.ref t),some (.ref nr),some (.str (Bv m (Cr ps))),some (.int cell),some (.str tx),some (.ref x),none,none,none,none,none]) (Gn tx k qs w ws) (H₇ x=some (.tuple [.int k,.ref nr2])) (Dh H₇ nr2 k (Cr qs)))) (fun N hN=>?_) ?_
 ·simp (disch:=first|decide|omega) only[Jg,Jp,Jw,Jx,Jy,Ag,Aj,Ba,Bb,Bf,true_and,L.read]
  exact U7 L (by omega) (fun hno H₇ e=>hN _ _ (.inl ⟨hno,rfl⟩)) fun k qs w ws x nr2 H₇ r e hx hn=>hN _ _ (.inr ⟨k,qs,w,ws,x,nr2,rfl,r,hx,hn⟩)
 rintro _ H₇ (⟨hno,rfl⟩ | ⟨k,qs,w,ws,x,nr2,rfl,r,hx,hn⟩)
 ·rw[J3]
  refine A3 true (fun Q' h'=>?_) ?_
  ·simp (disch:=first|decide|omega) only[Jb,Jg,Jm,Dr,Ag,Aj];exact h'
  rw[if_pos rfl]
  simp (disch:=first|decide|omega) only[Jg,Jj,Jm,Jp,Ju,Jw,Jx,Jy,J0,J2,J3,Ag,Aj,Bf,true_and,L.refused]
  refine Rl L (by omega) hno fun H₈ e8=>?_
  (try dsimp only);(try simp (disch:=first|decide|omega) only[Be])
  simp only[if_true]
  simp (disch:=first|decide|omega) only[Bf,true_and,L.base]
  exact S5 L (by omega) hno fun H₉ e9=>rfl
 ·refine seq (fun ρ H₈=>ρ = [some (.script ns),some (.int m),some (.ref t),some (.ref nr),some (.str (Bv m (Cr ps))),some (.int cell),some (.str tx),some (.ref x),none,none,none,none,none]/\H₇=H₈) (fun N hN=>?_) ?_
  ·refine A3 false (fun Q' h'=>?_) ?_
   ·simp (disch:=first|decide|omega) only[Jb,Jg,Jm,Ds,Ag,Aj];exact h'
   rw[if_neg (by decide),J2]
   exact hN _ _ ⟨rfl,rfl⟩
  rintro _ _ ⟨rfl,rfl⟩
  refine seq (fun ρ H₈=>(Li fun y=>Go (ρ = [some (.script ns),some (.int m),some (.ref t),some (.ref nr),some (.str (Bv m (Cr ps))),some (.int cell),some (.str tx),some (.ref x),some (.ref y),none,none,none,none]) (Av H₇ H₈) (F5 H₈ y k (Cr qs)))) (fun N hN=>?_) ?_
  ·simp (disch:=first|decide|omega) only[Jg,Jp,Jw,Jx,Jy,Ag,Aj,Ba,Bb,Bf,true_and,L.txt.read]
   refine S2 L.txt (by omega) (fun k' qs' w' ws' y H₈ r' e8 n8 hW=>?_) fun hno=>absurd r (hno k qs w ws)
   obtain⟨rfl,rfl⟩:=r.eq r'
   exact hN _ _ ⟨y,rfl,e8,hW⟩
  rintro _ H₈ ⟨y,rfl,e8,hW⟩
  exact Aa8 F r.few (e8 _ _ hx) (hn.ext e8) hW (fun i j=>U8) r.back fun _=>rfl
end Mine.Internal.Cl
namespace Mine.Internal.Cl
open PySem PySem.W PyProof.Rows
set_option maxRecDepth 100000
set_option maxHeartbeats 8000000
theorem grd(P:Params):La (kk P)=true:=by kernel_rfl
theorem Acc(P:Params):(K9 (kk P) (Gv (kk P)) "law").isSome=true:=by kernel_rfl
theorem bas(P:Params):Ht (N7 (kk P)):=by
 constructor<;>kernel_rfl
theorem fnb(P:Params):Aa0 (N7 (kk P)):=by
 refine⟨bas P,?_⟩<;>kernel_rfl
theorem exs(P:Params):Ab7 (N7 (kk P)):=by
 constructor<;>kernel_rfl
theorem ftx(P:Params):Aa6 (N7 (kk P)):=by
 refine⟨fnb P,exs P,?_,?_,?_,?_,?_⟩<;>kernel_rfl
theorem flw(P:Params):S3 (N7 (kk P)):=by
 refine⟨ftx P,?_,?_,?_,?_,?_,?_,?_,?_⟩<;>kernel_rfl
theorem fns(P:Params):F02 (N7 (kk P)):=by
 refine⟨flw P,?_,?_,?_,?_,?_⟩<;>kernel_rfl
theorem main{G:Ap}(F:F02 G)(H:AH){ns:List Int}:Ab G 40 "law" [.script ns] H (fun v _=>v = .bool true) EF:=Aa9 (n:=32) F H
theorem Acp:PySem.Challenge.rw_uf020033_02.wellSaid=true:=by
 delta OpenLaw.wellSaid
 iterate 18 (refine look_both ?_ (by decide +kernel))
 decide +kernel
noncomputable def N9:DefRec×List (Str×Expr):=(defOf kq PySem.Challenge.rw_uf020033_02.row.name).get (by kernel_rfl)
theorem hD1:defOf kq PySem.Challenge.rw_uf020033_02.row.name=some (N9.1,N9.2):=by kernel_rfl
theorem hD2:PySem.Challenge.pw_uf020033_02.theDef PySem.Challenge.rw_uf020033_02.row.name=some (N9.1.params,N9.1.body,N9.1.scope):=by kernel_rfl
theorem hD3:kwWritten? N9.1.params.kwonlyargs N9.1.params.kw_defaults=some N9.2:=by kernel_rfl
theorem Acd:PySem.Challenge.rw_uf020033_02.row.prog.bare:=⟨rfl,rfl,rfl,rfl,rfl,by decide +kernel⟩
theorem fin:PySem.Challenge.rw_uf020033_02.Holds:=by
 w_on
 refine holds_law Acp fun said=>?_
 refine holds_open (q:=kq) (loose:=[]) (Xt:=fun s=>xlAt kq [] s&&recOk (RowW.records PySem.Challenge.rw_uf020033_02.row.toRowW) s) (XP:=XL kq []) (Yf:=Hook.obs kH) (Ya:=Hook.val kH) (YP:=Hook.says kH) (d:=N9.1) (kwd:=N9.2) (N:=5164) Acf (Hook.of kH) (Hook.keeps kH) (fun s e=>xl_of s (Bool.and_eq_true_iff.mp e).1) XL.keeps hD1 hD2 hD3 (fun s e=>recFacts_of (Bool.and_eq_true_iff.mp e).2) (by rfl) (by first|assumption|decide +kernel) (by decide +kernel) Acd ?hw ?hc
 case hw=>w_witness2
 case hc=>
  intro w s₀ s₁ mg mb G Y fa o pm cd doc dV kV ho hd hcd hD hmg hg args vals as hpre hlay hrd hwl hlo
  have KX:(kk w.params).In s₁.heap:=kIn_of Y
  refine Ground.open G ?_
  intro T B D TE TW
  wrow_args hpre hlay hrd hwl hlo
  clear hcd hd hD ho Y G B TE TW D
  rename_i nsL _ _ _ _ _ _ _ la items _ hL _ _ _ hI _ hlen _
  exact Y2 KX (topRead_of T) (grd _) (Acc _) hmg hg hL hI (by omega) (main (fns _) _) (fun _=>rfl) (by first|kernel_rfl|decide +kernel|exact postW_of (X:=true) (by kernel_rfl) (by kernel_rfl) rfl)
end Mine.Internal.Cl
theorem PySem.Challenge.cw_uf020033_02_holds : PySem.Challenge.rw_uf020033_02.Holds :=
 Mine.Internal.Cl.fin

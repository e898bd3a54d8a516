import PyProof.Rows.All
import Wide.All
import OpenK.AllK
import Wide.FinOn
import PySem.Challenge.RW_uf020033_11
set_option Elab.async false
set_option maxHeartbeats 4000000
set_option linter.all false
set_option genSizeOf false
set_option genSizeOfSpec false
set_option genInjectivity false
set_option bootstrap.genMatcherCode false
namespace Mine.Cl
open PySem PySem.W PyProof.Rows
set_option maxRecDepth 100000
set_option maxHeartbeats 8000000
noncomputable def stAt (i:Nat):Stmt := PySem.Challenge.pw_uf020033_11.main.body.getD i (.Pass default)
noncomputable def stIn (i j:Nat):Stmt := match stAt i with
  | .ClassDef _ _ _ b ..=>b.getD j (.Pass default)
  | s=>s
noncomputable def fnO (st:Stmt) (q:Str) (md:Value) (cd:Addr):Obj := match st with
  | .FunctionDef name args body _ _ _ scope _ _ _=>{ cls := .type "function",data := .func { name := name,qualname := q,params := args,body := .stmts body,scope := scope,globals := 3,closure := [],defaults := .none,kwdefaults := .none,pyModule := md,code := .ref cd } }
  | _=>default
noncomputable def prO (st:Stmt) (q:Str):Obj := match st with
  | .FunctionDef name args body _ _ _ scope _ _ _=>{ cls := .none,data := .func { name := name,qualname := q,params := args,body := .stmts body,scope := scope,globals := 0,closure := [],defaults := .none,kwdefaults := .none } }
  | _=>default
noncomputable def vs (s:String) (n:Nat):Value := .str (Str.ofString s) n
noncomputable def rf (n:Nat):Value := .ref n
noncomputable def vi (n:Int):Value := .int n 0
noncomputable def dE (P:Params) (s:String) (n:Nat) (v:Value):DictEntry := { hash := PyData.keyHash P (Str.ofString s),key := .str (Str.ofString s) n,val := v }
noncomputable def tO (c:String) (a:Array Value):Obj := { cls := .type c,data := .seq a }
noncomputable def cO (c:String) (a:Array Value):Obj := { cls := .type c,data := .fields a }
noncomputable def dO (c:String) (a:Array DictEntry):Obj := { cls := .type c,data := .dict a }
noncomputable def fO (a:Array (Option Value)):Obj := { cls := .type "frame",slots := a }
noncomputable def kk (P:Params):Frag := [
  (2,{ cls := Value.none,data := Data.dict #[] }),
  (3,{ cls := Value.type "dict",data := Data.dict #[dE P "__name__" 165 (vs "law_uf020033_11" 568),dE P "__doc__" 166 (Value.none),dE P "__package__" 167 (Value.none),dE P "__loader__" 168 (Value.builtin "__main__.__loader__#opaque"),dE P "__spec__" 169 (Value.none),dE P "__annotations__" 170 (rf 6),dE P "__builtins__" 171 (rf 4),dE P "__file__" 173 (vs "/claim/cut.py" 172),dE P "__cached__" 174 (Value.none),dE P "WebError" 206 (rf 24),dE P "BadWeb" 222 (rf 37),dE P "NoPoint" 238 (rf 49),dE P "BadOrder" 254 (rf 61),dE P "HasGap" 270 (rf 73),dE P "is_order" 280 (rf 82),dE P "need_order" 288 (rf 89),dE P "those_behind" 294 (rf 94),dE P "first_untied" 305 (rf 101),dE P "gap" 315 (rf 108),dE P "least_to_go" 321 (rf 113),dE P "taken" 331 (rf 120),dE P "need_whole" 341 (rf 127),dE P "crowd_at" 350 (rf 134),dE P "is_full" 356 (rf 139),dE P "full_crowds" 367 (rf 146),dE P "least_free" 375 (rf 153),dE P "coloured" 381 (rf 158),dE P "apart" 387 (rf 163),dE P "steps_from" 403 (rf 170),dE P "way" 415 (rf 177),dE P "pieces" 426 (rf 184),dE P "ring_at" 432 (rf 189),dE P "long_ring" 441 (rf 196),dE P "Verdict" 480 (rf 213),dE P "judged" 491 (rf 224),dE P "MOST" 495 (Value.int 60 494),dE P "Web" 561 (rf 269),dE P "web_of" 567 (rf 278),dE P "_law_cell_at" 577 (rf 285),dE P "_law_whole" 584 (rf 292),dE P "_law_numbers" 593 (rf 299),dE P "_law_mixed" 601 (rf 306),dE P "_law_earlier" 617 (rf 313),dE P "_law_any_rows" 623 (rf 318),dE P "_law_many" 631 (rf 325),dE P "_law_banded" 637 (rf 330),dE P "_law_ringed" 643 (rf 335),dE P "_law_hubbed" 649 (rf 340),dE P "_law_rows" 659 (rf 347),dE P "_law_name" 669 (rf 354),dE P "_law_ties" 675 (rf 359),dE P "_law_near" 681 (rf 364),dE P "_law_keyed" 687 (rf 369),dE P "_law_behind" 693 (rf 374),dE P "_law_untied" 703 (rf 381),dE P "_law_stays" 712 (rf 388),dE P "_law_free" 718 (rf 393),dE P "_law_order" 730 (rf 400),dE P "_law_least_order" 740 (rf 407),dE P "_law_right" 746 (rf 412),dE P "law" 752 (rf 417)] 61 }),
  (23,{ cls := Value.type "dict",data := Data.dict #[dE P "__module__" 196 (vs "shortring.errors" 187),dE P "__firstlineno__" 200 (Value.int 2 199),dE P "__static_attributes__" 201 (rf 22),dE P "__weakref__" 203 (rf 25),dE P "__doc__" 204 (Value.none)] 3 }),
  (24,{ cls := Value.type "type",data := Data.cls { name := Str.ofString "WebError",bases := [Value.type "ValueError"],mro := [rf 24,Value.type "ValueError",Value.type "Exception",Value.type "BaseException",Value.type "object"],ns := 23,qualname := Str.ofString "WebError",subclasses := [rf 37,rf 49,rf 61,rf 73] },slots := #[some (rf 15),none,some (vs "WebError" 189),some (vs "WebError" 197),some (Value.builtin "ValueError.__new__"),some (Value.bool true)] }),
  (36,{ cls := Value.type "dict",data := Data.dict #[dE P "__module__" 214 (vs "shortring.errors" 187),dE P "__firstlineno__" 218 (Value.int 4 217),dE P "__static_attributes__" 219 (rf 35),dE P "__doc__" 220 (Value.none)] 2 }),
  (37,{ cls := Value.type "type",data := Data.cls { name := Str.ofString "BadWeb",bases := [rf 24],mro := [rf 37,rf 24,Value.type "ValueError",Value.type "Exception",Value.type "BaseException",Value.type "object"],ns := 36,qualname := Str.ofString "BadWeb" },slots := #[some (rf 28),none,some (vs "BadWeb" 207),some (vs "BadWeb" 215),some (Value.builtin "ValueError.__new__"),some (Value.bool true)] }),
  (48,{ cls := Value.type "dict",data := Data.dict #[dE P "__module__" 230 (vs "shortring.errors" 187),dE P "__firstlineno__" 234 (Value.int 6 233),dE P "__static_attributes__" 235 (rf 47),dE P "__doc__" 236 (Value.none)] 2 }),
  (49,{ cls := Value.type "type",data := Data.cls { name := Str.ofString "NoPoint",bases := [rf 24],mro := [rf 49,rf 24,Value.type "ValueError",Value.type "Exception",Value.type "BaseException",Value.type "object"],ns := 48,qualname := Str.ofString "NoPoint" },slots := #[some (rf 40),none,some (vs "NoPoint" 223),some (vs "NoPoint" 231),some (Value.builtin "ValueError.__new__"),some (Value.bool true)] }),
  (60,{ cls := Value.type "dict",data := Data.dict #[dE P "__module__" 246 (vs "shortring.errors" 187),dE P "__firstlineno__" 250 (Value.int 8 249),dE P "__static_attributes__" 251 (rf 59),dE P "__doc__" 252 (Value.none)] 2 }),
  (61,{ cls := Value.type "type",data := Data.cls { name := Str.ofString "BadOrder",bases := [rf 24],mro := [rf 61,rf 24,Value.type "ValueError",Value.type "Exception",Value.type "BaseException",Value.type "object"],ns := 60,qualname := Str.ofString "BadOrder" },slots := #[some (rf 52),none,some (vs "BadOrder" 239),some (vs "BadOrder" 247),some (Value.builtin "ValueError.__new__"),some (Value.bool true)] }),
  (72,{ cls := Value.type "dict",data := Data.dict #[dE P "__module__" 262 (vs "shortring.errors" 187),dE P "__firstlineno__" 266 (Value.int 10 265),dE P "__static_attributes__" 267 (rf 71),dE P "__doc__" 268 (Value.none)] 2 }),
  (73,{ cls := Value.type "type",data := Data.cls { name := Str.ofString "HasGap",bases := [rf 24],mro := [rf 73,rf 24,Value.type "ValueError",Value.type "Exception",Value.type "BaseException",Value.type "object"],ns := 72,qualname := Str.ofString "HasGap" },slots := #[some (rf 64),none,some (vs "HasGap" 255),some (vs "HasGap" 263),some (Value.builtin "ValueError.__new__"),some (Value.bool true)] }),
  (81,cO "code" #[vs "is_order" 273,vs "is_order" 274,vs "/claim/cut.py" 275,vi 13,vi 2,vi 0,vi 0,vi 3,rf 76,Value.bool true,vi 181,rf 77,Value.none,rf 78,rf 79,rf 80,vi 278,vi 13,vs "/claim/cut.py" 279]),
  (82,fnO (stAt 7) (Str.ofString "is_order") (vs "shortring.orders" 271) 81),
  (88,cO "code" #[vs "need_order" 281,vs "need_order" 282,vs "/claim/cut.py" 283,vi 15,vi 2,vi 0,vi 0,vi 3,rf 83,Value.bool true,vi 181,rf 84,Value.none,rf 85,rf 86,rf 87,vi 286,vi 15,vs "/claim/cut.py" 287]),
  (89,fnO (stAt 8) (Str.ofString "need_order") (vs "shortring.orders" 271) 88),
  (93,cO "code" #[vs "those_behind" 289,vs "those_behind" 290,vs "/claim/cut.py" 291,vi 18,vi 3,vi 0,vi 0,vi 3,rf 90,Value.bool true,vi 181,rf 91,Value.none,Value.none,Value.none,rf 92,vi 292,vi 18,vs "/claim/cut.py" 293]),
  (94,fnO (stAt 9) (Str.ofString "those_behind") (vs "shortring.orders" 271) 93),
  (100,cO "code" #[vs "first_untied" 295,vs "first_untied" 296,vs "/claim/cut.py" 297,vi 21,vi 2,vi 0,vi 0,vi 3,rf 95,Value.bool true,vi 181,rf 96,Value.none,rf 97,rf 98,rf 99,vi 303,vi 21,vs "/claim/cut.py" 304]),
  (101,fnO (stAt 10) (Str.ofString "first_untied") (vs "shortring.orders" 271) 100),
  (107,cO "code" #[vs "gap" 306,vs "gap" 307,vs "/claim/cut.py" 308,vi 27,vi 2,vi 0,vi 0,vi 3,rf 102,Value.bool true,vi 181,rf 103,Value.none,rf 104,rf 105,rf 106,vi 313,vi 27,vs "/claim/cut.py" 314]),
  (108,fnO (stAt 11) (Str.ofString "gap") (vs "shortring.orders" 271) 107),
  (112,cO "code" #[vs "least_to_go" 316,vs "least_to_go" 317,vs "/claim/cut.py" 318,vi 34,vi 2,vi 0,vi 0,vi 3,rf 109,Value.bool true,vi 181,rf 110,Value.none,Value.none,Value.none,rf 111,vi 319,vi 34,vs "/claim/cut.py" 320]),
  (113,fnO (stAt 12) (Str.ofString "least_to_go") (vs "shortring.orders" 271) 112),
  (119,cO "code" #[vs "taken" 322,vs "taken" 323,vs "/claim/cut.py" 324,vi 39,vi 1,vi 0,vi 0,vi 3,rf 114,Value.bool true,vi 181,rf 115,Value.none,rf 116,rf 117,rf 118,vi 329,vi 39,vs "/claim/cut.py" 330]),
  (120,fnO (stAt 13) (Str.ofString "taken") (vs "shortring.orders" 271) 119),
  (126,cO "code" #[vs "need_whole" 334,vs "need_whole" 335,vs "/claim/cut.py" 336,vi 49,vi 2,vi 0,vi 0,vi 3,rf 121,Value.bool true,vi 181,rf 122,Value.none,rf 123,rf 124,rf 125,vi 339,vi 49,vs "/claim/cut.py" 340]),
  (127,fnO (stAt 15) (Str.ofString "need_whole") (vs "shortring.crowds" 332) 126),
  (133,cO "code" #[vs "crowd_at" 342,vs "crowd_at" 343,vs "/claim/cut.py" 344,vi 52,vi 3,vi 0,vi 0,vi 3,rf 128,Value.bool true,vi 181,rf 129,Value.none,rf 130,rf 131,rf 132,vi 348,vi 52,vs "/claim/cut.py" 349]),
  (134,fnO (stAt 16) (Str.ofString "crowd_at") (vs "shortring.crowds" 332) 133),
  (138,cO "code" #[vs "is_full" 351,vs "is_full" 352,vs "/claim/cut.py" 353,vi 54,vi 2,vi 0,vi 0,vi 3,rf 135,Value.bool true,vi 181,rf 136,Value.none,Value.none,Value.none,rf 137,vi 354,vi 54,vs "/claim/cut.py" 355]),
  (139,fnO (stAt 17) (Str.ofString "is_full") (vs "shortring.crowds" 332) 138),
  (145,cO "code" #[vs "full_crowds" 357,vs "full_crowds" 358,vs "/claim/cut.py" 359,vi 59,vi 2,vi 0,vi 0,vi 3,rf 140,Value.bool true,vi 181,rf 141,Value.none,rf 142,rf 143,rf 144,vi 365,vi 59,vs "/claim/cut.py" 366]),
  (146,fnO (stAt 18) (Str.ofString "full_crowds") (vs "shortring.crowds" 332) 145),
  (152,cO "code" #[vs "least_free" 368,vs "least_free" 369,vs "/claim/cut.py" 370,vi 67,vi 1,vi 0,vi 0,vi 3,rf 147,Value.bool true,vi 181,rf 148,Value.none,rf 149,rf 150,rf 151,vi 373,vi 67,vs "/claim/cut.py" 374]),
  (153,fnO (stAt 19) (Str.ofString "least_free") (vs "shortring.crowds" 332) 152),
  (157,cO "code" #[vs "coloured" 376,vs "coloured" 377,vs "/claim/cut.py" 378,vi 72,vi 2,vi 0,vi 0,vi 3,rf 154,Value.bool true,vi 181,rf 155,Value.none,Value.none,Value.none,rf 156,vi 379,vi 72,vs "/claim/cut.py" 380]),
  (158,fnO (stAt 20) (Str.ofString "coloured") (vs "shortring.crowds" 332) 157),
  (162,cO "code" #[vs "apart" 382,vs "apart" 383,vs "/claim/cut.py" 384,vi 78,vi 2,vi 0,vi 0,vi 3,rf 159,Value.bool true,vi 181,rf 160,Value.none,Value.none,Value.none,rf 161,vi 385,vi 78,vs "/claim/cut.py" 386]),
  (163,fnO (stAt 21) (Str.ofString "apart") (vs "shortring.crowds" 332) 162),
  (169,cO "code" #[vs "steps_from" 390,vs "steps_from" 391,vs "/claim/cut.py" 392,vi 88,vi 3,vi 0,vi 0,vi 3,rf 164,Value.bool true,vi 181,rf 165,Value.none,rf 166,rf 167,rf 168,vi 401,vi 88,vs "/claim/cut.py" 402]),
  (170,fnO (stAt 23) (Str.ofString "steps_from") (vs "shortring.rings" 388) 169),
  (176,cO "code" #[vs "way" 404,vs "way" 405,vs "/claim/cut.py" 406,vi 100,vi 4,vi 0,vi 0,vi 3,rf 171,Value.bool true,vi 181,rf 172,Value.none,rf 173,rf 174,rf 175,vi 413,vi 100,vs "/claim/cut.py" 414]),
  (177,fnO (stAt 24) (Str.ofString "way") (vs "shortring.rings" 388) 176),
  (183,cO "code" #[vs "pieces" 416,vs "pieces" 417,vs "/claim/cut.py" 418,vi 113,vi 2,vi 0,vi 0,vi 3,rf 178,Value.bool true,vi 181,rf 179,Value.none,rf 180,rf 181,rf 182,vi 424,vi 113,vs "/claim/cut.py" 425]),
  (184,fnO (stAt 25) (Str.ofString "pieces") (vs "shortring.rings" 388) 183),
  (188,cO "code" #[vs "ring_at" 427,vs "ring_at" 428,vs "/claim/cut.py" 429,vi 120,vi 2,vi 0,vi 0,vi 3,rf 185,Value.bool true,vi 181,rf 186,Value.none,Value.none,Value.none,rf 187,vi 430,vi 120,vs "/claim/cut.py" 431]),
  (189,fnO (stAt 26) (Str.ofString "ring_at") (vs "shortring.rings" 388) 188),
  (195,cO "code" #[vs "long_ring" 433,vs "long_ring" 434,vs "/claim/cut.py" 435,vi 136,vi 1,vi 0,vi 0,vi 3,rf 190,Value.bool true,vi 181,rf 191,Value.none,rf 192,rf 193,rf 194,vi 439,vi 136,vs "/claim/cut.py" 440]),
  (196,fnO (stAt 27) (Str.ofString "long_ring") (vs "shortring.rings" 388) 195),
  (209,cO "code" #[vs "__init__" 456,vs "Verdict.__init__" 457,vs "/claim/cut.py" 458,vi 145,vi 6,vi 0,vi 0,vi 3,rf 204,Value.bool true,vi 181,rf 205,Value.none,rf 206,rf 207,rf 208,vi 465,vi 145,vs "/claim/cut.py" 466]),
  (210,fnO (stIn 29 0) (Str.ofString "Verdict.__init__") (vs "shortring.verdicts" 442) 209),
  (212,{ cls := Value.type "dict",data := Data.dict #[dE P "__module__" 451 (vs "shortring.verdicts" 442),dE P "__firstlineno__" 455 (Value.int 143 454),dE P "__init__" 467 (rf 210),dE P "__static_attributes__" 473 (rf 211),dE P "__dict__" 475 (rf 214),dE P "__weakref__" 477 (rf 215),dE P "__doc__" 478 (Value.none)] 4 }),
  (213,{ cls := Value.type "type",data := Data.cls { name := Str.ofString "Verdict",bases := [Value.type "object"],mro := [rf 213,Value.type "object"],ns := 212,qualname := Str.ofString "Verdict" },slots := #[none,none,some (vs "Verdict" 444),some (vs "Verdict" 452),some (Value.builtin "object.__new__"),some (Value.bool true)] }),
  (223,cO "code" #[vs "judged" 481,vs "judged" 482,vs "/claim/cut.py" 483,vi 151,vi 1,vi 0,vi 0,vi 3,rf 218,Value.bool true,vi 181,rf 219,Value.none,rf 220,rf 221,rf 222,vi 489,vi 151,vs "/claim/cut.py" 490]),
  (224,fnO (stAt 30) (Str.ofString "judged") (vs "shortring.verdicts" 442) 223),
  (237,cO "code" #[vs "__init__" 508,vs "Web.__init__" 509,vs "/claim/cut.py" 510,vi 165,vi 3,vi 0,vi 0,vi 3,rf 232,Value.bool true,vi 181,rf 233,Value.none,rf 234,rf 235,rf 236,vi 514,vi 165,vs "/claim/cut.py" 515]),
  (238,fnO (stIn 33 0) (Str.ofString "Web.__init__") (vs "shortring.webs" 492) 237),
  (244,cO "code" #[vs "need" 517,vs "Web.need" 518,vs "/claim/cut.py" 519,vi 169,vi 2,vi 0,vi 0,vi 3,rf 239,Value.bool true,vi 181,rf 240,Value.none,rf 241,rf 242,rf 243,vi 522,vi 169,vs "/claim/cut.py" 523]),
  (245,fnO (stIn 33 1) (Str.ofString "Web.need") (vs "shortring.webs" 492) 244),
  (251,cO "code" #[vs "beside" 525,vs "Web.beside" 526,vs "/claim/cut.py" 527,vi 173,vi 2,vi 0,vi 0,vi 3,rf 246,Value.bool true,vi 181,rf 247,Value.none,rf 248,rf 249,rf 250,vi 530,vi 173,vs "/claim/cut.py" 531]),
  (252,fnO (stIn 33 2) (Str.ofString "Web.beside") (vs "shortring.webs" 492) 251),
  (258,cO "code" #[vs "tied" 533,vs "Web.tied" 534,vs "/claim/cut.py" 535,vi 177,vi 3,vi 0,vi 0,vi 3,rf 253,Value.bool true,vi 181,rf 254,Value.none,rf 255,rf 256,rf 257,vi 539,vi 177,vs "/claim/cut.py" 540]),
  (259,fnO (stIn 33 3) (Str.ofString "Web.tied") (vs "shortring.webs" 492) 258),
  (265,cO "code" #[vs "ties" 542,vs "Web.ties" 543,vs "/claim/cut.py" 544,vi 182,vi 1,vi 0,vi 0,vi 3,rf 260,Value.bool true,vi 181,rf 261,Value.none,rf 262,rf 263,rf 264,vi 549,vi 182,vs "/claim/cut.py" 550]),
  (266,fnO (stIn 33 4) (Str.ofString "Web.ties") (vs "shortring.webs" 492) 265),
  (268,{ cls := Value.type "dict",data := Data.dict #[dE P "__module__" 503 (vs "shortring.webs" 492),dE P "__firstlineno__" 507 (Value.int 163 506),dE P "__init__" 516 (rf 238),dE P "need" 524 (rf 245),dE P "beside" 532 (rf 252),dE P "tied" 541 (rf 259),dE P "ties" 551 (rf 266),dE P "__static_attributes__" 554 (rf 267),dE P "__dict__" 556 (rf 270),dE P "__weakref__" 558 (rf 271),dE P "__doc__" 559 (Value.none)] 4 }),
  (269,{ cls := Value.type "type",data := Data.cls { name := Str.ofString "Web",bases := [Value.type "object"],mro := [rf 269,Value.type "object"],ns := 268,qualname := Str.ofString "Web" },slots := #[none,none,some (vs "Web" 496),some (vs "Web" 504),some (Value.builtin "object.__new__"),some (Value.bool true)] }),
  (277,cO "code" #[vs "web_of" 562,vs "web_of" 563,vs "/claim/cut.py" 564,vi 189,vi 2,vi 0,vi 0,vi 3,rf 274,Value.bool true,vi 181,rf 275,Value.none,Value.none,Value.none,rf 276,vi 565,vi 189,vs "/claim/cut.py" 566]),
  (278,fnO (stAt 34) (Str.ofString "web_of") (vs "shortring.webs" 492) 277),
  (284,cO "code" #[vs "_law_cell_at" 570,vs "_law_cell_at" 571,vs "/claim/cut.py" 572,vi 201,vi 2,vi 0,vi 0,vi 3,rf 279,Value.bool true,vi 181,rf 280,Value.none,rf 281,rf 282,rf 283,vi 575,vi 201,vs "/claim/cut.py" 576]),
  (285,fnO (stAt 36) (Str.ofString "_law_cell_at") (vs "law_uf020033_11" 568) 284),
  (291,cO "code" #[vs "_law_whole" 578,vs "_law_whole" 579,vs "/claim/cut.py" 580,vi 205,vi 1,vi 0,vi 0,vi 3,rf 286,Value.bool true,vi 181,rf 287,Value.none,rf 288,rf 289,rf 290,vi 582,vi 205,vs "/claim/cut.py" 583]),
  (292,fnO (stAt 37) (Str.ofString "_law_whole") (vs "law_uf020033_11" 568) 291),
  (298,cO "code" #[vs "_law_numbers" 585,vs "_law_numbers" 586,vs "/claim/cut.py" 587,vi 207,vi 2,vi 0,vi 0,vi 3,rf 293,Value.bool true,vi 181,rf 294,Value.none,rf 295,rf 296,rf 297,vi 591,vi 207,vs "/claim/cut.py" 592]),
  (299,fnO (stAt 38) (Str.ofString "_law_numbers") (vs "law_uf020033_11" 568) 298),
  (305,cO "code" #[vs "_law_mixed" 594,vs "_law_mixed" 595,vs "/claim/cut.py" 596,vi 214,vi 2,vi 0,vi 0,vi 3,rf 300,Value.bool true,vi 181,rf 301,Value.none,rf 302,rf 303,rf 304,vi 599,vi 214,vs "/claim/cut.py" 600]),
  (306,fnO (stAt 39) (Str.ofString "_law_mixed") (vs "law_uf020033_11" 568) 305),
  (312,cO "code" #[vs "_law_earlier" 602,vs "_law_earlier" 603,vs "/claim/cut.py" 604,vi 216,vi 3,vi 0,vi 0,vi 3,rf 307,Value.bool true,vi 181,rf 308,Value.none,rf 309,rf 310,rf 311,vi 615,vi 216,vs "/claim/cut.py" 616]),
  (313,fnO (stAt 40) (Str.ofString "_law_earlier") (vs "law_uf020033_11" 568) 312),
  (317,cO "code" #[vs "_law_any_rows" 618,vs "_law_any_rows" 619,vs "/claim/cut.py" 620,vi 235,vi 2,vi 0,vi 0,vi 3,rf 314,Value.bool true,vi 181,rf 315,Value.none,Value.none,Value.none,rf 316,vi 621,vi 235,vs "/claim/cut.py" 622]),
  (318,fnO (stAt 41) (Str.ofString "_law_any_rows") (vs "law_uf020033_11" 568) 317),
  (324,cO "code" #[vs "_law_many" 624,vs "_law_many" 625,vs "/claim/cut.py" 626,vi 245,vi 1,vi 0,vi 0,vi 3,rf 319,Value.bool true,vi 181,rf 320,Value.none,rf 321,rf 322,rf 323,vi 629,vi 245,vs "/claim/cut.py" 630]),
  (325,fnO (stAt 42) (Str.ofString "_law_many") (vs "law_uf020033_11" 568) 324),
  (329,cO "code" #[vs "_law_banded" 632,vs "_law_banded" 633,vs "/claim/cut.py" 634,vi 252,vi 2,vi 0,vi 0,vi 3,rf 326,Value.bool true,vi 181,rf 327,Value.none,Value.none,Value.none,rf 328,vi 635,vi 252,vs "/claim/cut.py" 636]),
  (330,fnO (stAt 43) (Str.ofString "_law_banded") (vs "law_uf020033_11" 568) 329),
  (334,cO "code" #[vs "_law_ringed" 638,vs "_law_ringed" 639,vs "/claim/cut.py" 640,vi 257,vi 2,vi 0,vi 0,vi 3,rf 331,Value.bool true,vi 181,rf 332,Value.none,Value.none,Value.none,rf 333,vi 641,vi 257,vs "/claim/cut.py" 642]),
  (335,fnO (stAt 44) (Str.ofString "_law_ringed") (vs "law_uf020033_11" 568) 334),
  (339,cO "code" #[vs "_law_hubbed" 644,vs "_law_hubbed" 645,vs "/claim/cut.py" 646,vi 265,vi 2,vi 0,vi 0,vi 3,rf 336,Value.bool true,vi 181,rf 337,Value.none,Value.none,Value.none,rf 338,vi 647,vi 265,vs "/claim/cut.py" 648]),
  (340,fnO (stAt 45) (Str.ofString "_law_hubbed") (vs "law_uf020033_11" 568) 339),
  (346,cO "code" #[vs "_law_rows" 650,vs "_law_rows" 651,vs "/claim/cut.py" 652,vi 270,vi 2,vi 0,vi 0,vi 3,rf 341,Value.bool true,vi 181,rf 342,Value.none,rf 343,rf 344,rf 345,vi 657,vi 270,vs "/claim/cut.py" 658]),
  (347,fnO (stAt 46) (Str.ofString "_law_rows") (vs "law_uf020033_11" 568) 346),
  (353,cO "code" #[vs "_law_name" 660,vs "_law_name" 661,vs "/claim/cut.py" 662,vi 284,vi 3,vi 0,vi 0,vi 3,rf 348,Value.bool true,vi 181,rf 349,Value.none,rf 350,rf 351,rf 352,vi 667,vi 284,vs "/claim/cut.py" 668]),
  (354,fnO (stAt 47) (Str.ofString "_law_name") (vs "law_uf020033_11" 568) 353),
  (358,cO "code" #[vs "_law_ties" 670,vs "_law_ties" 671,vs "/claim/cut.py" 672,vi 289,vi 3,vi 0,vi 0,vi 3,rf 355,Value.bool true,vi 181,rf 356,Value.none,Value.none,Value.none,rf 357,vi 673,vi 289,vs "/claim/cut.py" 674]),
  (359,fnO (stAt 48) (Str.ofString "_law_ties") (vs "law_uf020033_11" 568) 358),
  (363,cO "code" #[vs "_law_near" 676,vs "_law_near" 677,vs "/claim/cut.py" 678,vi 298,vi 2,vi 0,vi 0,vi 3,rf 360,Value.bool true,vi 181,rf 361,Value.none,Value.none,Value.none,rf 362,vi 679,vi 298,vs "/claim/cut.py" 680]),
  (364,fnO (stAt 49) (Str.ofString "_law_near") (vs "law_uf020033_11" 568) 363),
  (368,cO "code" #[vs "_law_keyed" 682,vs "_law_keyed" 683,vs "/claim/cut.py" 684,vi 305,vi 2,vi 0,vi 0,vi 3,rf 365,Value.bool true,vi 181,rf 366,Value.none,Value.none,Value.none,rf 367,vi 685,vi 305,vs "/claim/cut.py" 686]),
  (369,fnO (stAt 50) (Str.ofString "_law_keyed") (vs "law_uf020033_11" 568) 368),
  (373,cO "code" #[vs "_law_behind" 688,vs "_law_behind" 689,vs "/claim/cut.py" 690,vi 308,vi 3,vi 0,vi 0,vi 3,rf 370,Value.bool true,vi 181,rf 371,Value.none,Value.none,Value.none,rf 372,vi 691,vi 308,vs "/claim/cut.py" 692]),
  (374,fnO (stAt 51) (Str.ofString "_law_behind") (vs "law_uf020033_11" 568) 373),
  (380,cO "code" #[vs "_law_untied" 694,vs "_law_untied" 695,vs "/claim/cut.py" 696,vi 310,vi 2,vi 0,vi 0,vi 3,rf 375,Value.bool true,vi 181,rf 376,Value.none,rf 377,rf 378,rf 379,vi 701,vi 310,vs "/claim/cut.py" 702]),
  (381,fnO (stAt 52) (Str.ofString "_law_untied") (vs "law_uf020033_11" 568) 380),
  (387,cO "code" #[vs "_law_stays" 704,vs "_law_stays" 705,vs "/claim/cut.py" 706,vi 316,vi 2,vi 0,vi 0,vi 3,rf 382,Value.bool true,vi 181,rf 383,Value.none,rf 384,rf 385,rf 386,vi 710,vi 316,vs "/claim/cut.py" 711]),
  (388,fnO (stAt 53) (Str.ofString "_law_stays") (vs "law_uf020033_11" 568) 387),
  (392,cO "code" #[vs "_law_free" 713,vs "_law_free" 714,vs "/claim/cut.py" 715,vi 321,vi 2,vi 0,vi 0,vi 3,rf 389,Value.bool true,vi 181,rf 390,Value.none,Value.none,Value.none,rf 391,vi 716,vi 321,vs "/claim/cut.py" 717]),
  (393,fnO (stAt 54) (Str.ofString "_law_free") (vs "law_uf020033_11" 568) 392),
  (399,cO "code" #[vs "_law_order" 719,vs "_law_order" 720,vs "/claim/cut.py" 721,vi 326,vi 2,vi 0,vi 0,vi 3,rf 394,Value.bool true,vi 181,rf 395,Value.none,rf 396,rf 397,rf 398,vi 728,vi 326,vs "/claim/cut.py" 729]),
  (400,fnO (stAt 55) (Str.ofString "_law_order") (vs "law_uf020033_11" 568) 399),
  (406,cO "code" #[vs "_law_least_order" 731,vs "_law_least_order" 732,vs "/claim/cut.py" 733,vi 336,vi 1,vi 0,vi 0,vi 3,rf 401,Value.bool true,vi 181,rf 402,Value.none,rf 403,rf 404,rf 405,vi 738,vi 336,vs "/claim/cut.py" 739]),
  (407,fnO (stAt 56) (Str.ofString "_law_least_order") (vs "law_uf020033_11" 568) 406),
  (411,cO "code" #[vs "_law_right" 741,vs "_law_right" 742,vs "/claim/cut.py" 743,vi 343,vi 3,vi 0,vi 0,vi 3,rf 408,Value.bool true,vi 181,rf 409,Value.none,Value.none,Value.none,rf 410,vi 744,vi 343,vs "/claim/cut.py" 745]),
  (412,fnO (stAt 57) (Str.ofString "_law_right") (vs "law_uf020033_11" 568) 411),
  (416,cO "code" #[vs "law" 747,vs "law" 748,vs "/claim/cut.py" 749,vi 358,vi 1,vi 0,vi 0,vi 3,rf 413,Value.bool true,vi 181,rf 414,Value.none,Value.none,Value.none,rf 415,vi 750,vi 358,vs "/claim/cut.py" 751]),
  (417,fnO (stAt 58) (Str.ofString "law") (vs "law_uf020033_11" 568) 416)]
noncomputable def kas:List Addr := [2,3,23,24,36,37,48,49,60,61,72,73,81,82,88,89,93,94,100,101,107,108,112,113,119,120,126,127,133,134,138,139,145,146,152,153,157,158,162,163,169,170,176,177,183,184,188,189,195,196,209,210,212,213,223,224,237,238,244,245,251,252,258,259,265,266,268,269,277,278,284,285,291,292,298,299,305,306,312,313,317,318,324,325,329,330,334,335,339,340,346,347,353,354,358,359,363,364,368,369,373,374,380,381,387,388,392,393,399,400,406,407,411,412,416,417]
noncomputable def kq:Program := { PySem.Challenge.pw_uf020033_11 with main := { PySem.Challenge.pw_uf020033_11.main with body := [1,2,3,4,5,7,8,9,10,11,12,13,15,16,17,18,19,20,21,23,24,25,26,27,29,30,32,33,34,36,37,38,39,40,41,42,43,44,45,46,47,48,49,50,51,52,53,54,55,56,57,58].filterMap fun i=>PySem.Challenge.pw_uf020033_11.main.body[i]? } }
theorem kas_is (P:Params):kas = (kk P).map (·.1) := by kernel_rfl
noncomputable def kH:Hook := kHook kk kas kas_is
noncomputable def hEnv:Env := { scope := PySem.Challenge.pw_uf020033_11.main.scope,locals := mainNs,globals := mainNs,cells := [],code := Value.ref 13,frame := some 14 }
noncomputable abbrev hB:List Stmt := behindTheImports PySem.Challenge.pw_uf020033_11
noncomputable abbrev hC:Code := .body hB hEnv
noncomputable abbrev hF:List Frame := [topFrame { line := 0,col := 0,endLine := 0,endCol := 0 }]
noncomputable def s_a (P:Params) (os:OsState):Shared := ⟨⟨Array.mk [
  boot_o_0 P,
  boot_o_1 P,
  boot_o_2 P,
  boot_o_3 P,
  boot_o_4 P,
  boot_o_5 P,
  boot_o_6 P,
  boot_o_7 P,
  boot_o_8 P,
  boot_o_9 P,
  boot_o_10 P,
  tO "tuple" #[],
  { cls := Value.none,data := Data.fields #[] },
  cO "code" #[vs "<module>" 182,vs "<module>" 183,vs "/claim/cut.py" 184,vi 1,vi 0,vi 0,vi 0,vi 0,rf 11,Value.bool false,vi 181,rf 12,Value.none,Value.none,Value.none,Value.none,vi 185,vi 1,vs "/claim/cut.py" 186],
  fO #[some (rf 13),some (rf 3),some (rf 3),none,some (vs "__main__" 164),none,some (rf 0)]],{ }⟩,Array.mk [],{ },187,os⟩
noncomputable def s_b (P:Params) (os:OsState):Shared := ⟨⟨Array.mk [
  boot_o_0 P,
  boot_o_1 P,
  boot_o_2 P,
  boot_o_3 P,
  boot_o_4 P,
  boot_o_5 P,
  boot_o_6 P,
  boot_o_7 P,
  boot_o_8 P,
  boot_o_9 P,
  boot_o_10 P,
  tO "tuple" #[],
  { cls := Value.none,data := Data.fields #[] },
  cO "code" #[vs "<module>" 182,vs "<module>" 183,vs "/claim/cut.py" 184,vi 1,vi 0,vi 0,vi 0,vi 0,rf 11,Value.bool false,vi 181,rf 12,Value.none,Value.none,Value.none,Value.none,vi 185,vi 1,vs "/claim/cut.py" 186],
  fO #[some (rf 13),some (rf 3),some (rf 3),none,some (vs "__main__" 164),none,some (rf 0)]],{ }⟩,Array.mk [],{ },187,os⟩
noncomputable def s_m27 (P:Params) (os:OsState):Shared := ⟨⟨Array.mk [
  boot_o_0 P,
  boot_o_1 P,
  boot_o_2 P,
  { cls := Value.type "dict",data := Data.dict #[dE P "__name__" 165 (vs "shortring.rings" 388),dE P "__doc__" 166 (Value.none),dE P "__package__" 167 (Value.none),dE P "__loader__" 168 (Value.builtin "__main__.__loader__#opaque"),dE P "__spec__" 169 (Value.none),dE P "__annotations__" 170 (rf 6),dE P "__builtins__" 171 (rf 4),dE P "__file__" 173 (vs "/claim/cut.py" 172),dE P "__cached__" 174 (Value.none),dE P "WebError" 206 (rf 24),dE P "BadWeb" 222 (rf 37),dE P "NoPoint" 238 (rf 49),dE P "BadOrder" 254 (rf 61),dE P "HasGap" 270 (rf 73),dE P "is_order" 280 (rf 82),dE P "need_order" 288 (rf 89),dE P "those_behind" 294 (rf 94),dE P "first_untied" 305 (rf 101),dE P "gap" 315 (rf 108),dE P "least_to_go" 321 (rf 113),dE P "taken" 331 (rf 120),dE P "need_whole" 341 (rf 127),dE P "crowd_at" 350 (rf 134),dE P "is_full" 356 (rf 139),dE P "full_crowds" 367 (rf 146),dE P "least_free" 375 (rf 153),dE P "coloured" 381 (rf 158),dE P "apart" 387 (rf 163),dE P "steps_from" 403 (rf 170),dE P "way" 415 (rf 177),dE P "pieces" 426 (rf 184),dE P "ring_at" 432 (rf 189),dE P "long_ring" 441 (rf 196)] 33 },
  boot_o_4 P,
  boot_o_5 P,
  boot_o_6 P,
  boot_o_7 P,
  boot_o_8 P,
  boot_o_9 P,
  boot_o_10 P,
  tO "tuple" #[],
  { cls := Value.none,data := Data.fields #[vi 2,vi 0,rf 20,vi 4,vi 0,rf 33,vi 6,vi 0,rf 45,vi 8,vi 0,rf 57,vi 10,vi 0,rf 69,vi 13,vi 0,rf 81,vi 15,vi 0,rf 88,vi 18,vi 0,rf 93,vi 21,vi 0,rf 100,vi 27,vi 0,rf 107,vi 34,vi 0,rf 112,vi 39,vi 0,rf 119,vi 49,vi 0,rf 126,vi 52,vi 0,rf 133,vi 54,vi 0,rf 138,vi 59,vi 0,rf 145,vi 67,vi 0,rf 152,vi 72,vi 0,rf 157,vi 78,vi 0,rf 162,vi 88,vi 0,rf 169,vi 100,vi 0,rf 176,vi 113,vi 0,rf 183,vi 120,vi 0,rf 188,vi 136,vi 0,rf 195] },
  cO "code" #[vs "<module>" 182,vs "<module>" 183,vs "/claim/cut.py" 184,vi 1,vi 0,vi 0,vi 0,vi 0,rf 11,Value.bool false,vi 181,rf 12,Value.none,Value.none,Value.none,Value.none,vi 185,vi 1,vs "/claim/cut.py" 186],
  fO #[some (rf 13),some (rf 3),some (rf 3),none,some (vs "__main__" 164),none,some (rf 0)],
  tO "tuple" #[Value.type "ValueError"],
  cO "builtin_function_or_method" #[Value.builtin "type.__prepare__",Value.type "type"],
  { cls := Value.type "dict",data := Data.dict #[dE P "__module__" 196 (vs "shortring.errors" 187),dE P "__qualname__" 198 (vs "WebError" 197),dE P "__firstlineno__" 200 (Value.int 2 199),dE P "__static_attributes__" 201 (rf 22)] 4 },
  tO "tuple" #[],
  { cls := Value.none,data := Data.fields #[] },
  cO "code" #[vs "WebError" 191,vs "WebError" 192,vs "/claim/cut.py" 193,vi 2,vi 0,vi 0,vi 0,vi 0,rf 18,Value.bool false,vi 181,rf 19,Value.none,Value.none,Value.none,Value.none,vi 194,vi 2,vs "/claim/cut.py" 195],
  fO #[some (rf 20),some (rf 3),some (rf 17),none,some (vs "shortring.errors" 187),none,some (rf 0)],
  tO "tuple" #[],
  { cls := Value.type "dict",data := Data.dict #[dE P "__module__" 196 (vs "shortring.errors" 187),dE P "__firstlineno__" 200 (Value.int 2 199),dE P "__static_attributes__" 201 (rf 22),dE P "__weakref__" 203 (rf 25),dE P "__doc__" 204 (Value.none)] 3 },
  { cls := Value.type "type",data := Data.cls { name := Str.ofString "WebError",bases := [Value.type "ValueError"],mro := [rf 24,Value.type "ValueError",Value.type "Exception",Value.type "BaseException",Value.type "object"],ns := 23,qualname := Str.ofString "WebError",subclasses := [rf 37,rf 49,rf 61,rf 73] },slots := #[some (rf 15),none,some (vs "WebError" 189),some (vs "WebError" 197),some (Value.builtin "ValueError.__new__"),some (Value.bool true)] },
  cO "getset_descriptor" #[vs "__weakref__" 202,rf 24,Value.builtin "ExceptionGroup.__weakref__",Value.none],
  cO "super" #[rf 24,rf 24,rf 24],
  cO "builtin_function_or_method" #[Value.builtin "object.__init_subclass__",rf 24],
  tO "tuple" #[rf 24],
  cO "builtin_function_or_method" #[Value.builtin "type.__prepare__",Value.type "type"],
  { cls := Value.type "dict",data := Data.dict #[dE P "__module__" 214 (vs "shortring.errors" 187),dE P "__qualname__" 216 (vs "BadWeb" 215),dE P "__firstlineno__" 218 (Value.int 4 217),dE P "__static_attributes__" 219 (rf 35)] 4 },
  tO "tuple" #[],
  { cls := Value.none,data := Data.fields #[] },
  cO "code" #[vs "BadWeb" 209,vs "BadWeb" 210,vs "/claim/cut.py" 211,vi 4,vi 0,vi 0,vi 0,vi 0,rf 31,Value.bool false,vi 181,rf 32,Value.none,Value.none,Value.none,Value.none,vi 212,vi 4,vs "/claim/cut.py" 213],
  fO #[some (rf 33),some (rf 3),some (rf 30),none,some (vs "shortring.errors" 187),none,some (rf 0)],
  tO "tuple" #[],
  { cls := Value.type "dict",data := Data.dict #[dE P "__module__" 214 (vs "shortring.errors" 187),dE P "__firstlineno__" 218 (Value.int 4 217),dE P "__static_attributes__" 219 (rf 35),dE P "__doc__" 220 (Value.none)] 2 },
  { cls := Value.type "type",data := Data.cls { name := Str.ofString "BadWeb",bases := [rf 24],mro := [rf 37,rf 24,Value.type "ValueError",Value.type "Exception",Value.type "BaseException",Value.type "object"],ns := 36,qualname := Str.ofString "BadWeb" },slots := #[some (rf 28),none,some (vs "BadWeb" 207),some (vs "BadWeb" 215),some (Value.builtin "ValueError.__new__"),some (Value.bool true)] },
  cO "super" #[rf 37,rf 37,rf 37],
  cO "builtin_function_or_method" #[Value.builtin "object.__init_subclass__",rf 37],
  tO "tuple" #[rf 24],
  cO "builtin_function_or_method" #[Value.builtin "type.__prepare__",Value.type "type"],
  { cls := Value.type "dict",data := Data.dict #[dE P "__module__" 230 (vs "shortring.errors" 187),dE P "__qualname__" 232 (vs "NoPoint" 231),dE P "__firstlineno__" 234 (Value.int 6 233),dE P "__static_attributes__" 235 (rf 47)] 4 },
  tO "tuple" #[],
  { cls := Value.none,data := Data.fields #[] },
  cO "code" #[vs "NoPoint" 225,vs "NoPoint" 226,vs "/claim/cut.py" 227,vi 6,vi 0,vi 0,vi 0,vi 0,rf 43,Value.bool false,vi 181,rf 44,Value.none,Value.none,Value.none,Value.none,vi 228,vi 6,vs "/claim/cut.py" 229],
  fO #[some (rf 45),some (rf 3),some (rf 42),none,some (vs "shortring.errors" 187),none,some (rf 0)],
  tO "tuple" #[],
  { cls := Value.type "dict",data := Data.dict #[dE P "__module__" 230 (vs "shortring.errors" 187),dE P "__firstlineno__" 234 (Value.int 6 233),dE P "__static_attributes__" 235 (rf 47),dE P "__doc__" 236 (Value.none)] 2 },
  { cls := Value.type "type",data := Data.cls { name := Str.ofString "NoPoint",bases := [rf 24],mro := [rf 49,rf 24,Value.type "ValueError",Value.type "Exception",Value.type "BaseException",Value.type "object"],ns := 48,qualname := Str.ofString "NoPoint" },slots := #[some (rf 40),none,some (vs "NoPoint" 223),some (vs "NoPoint" 231),some (Value.builtin "ValueError.__new__"),some (Value.bool true)] },
  cO "super" #[rf 49,rf 49,rf 49],
  cO "builtin_function_or_method" #[Value.builtin "object.__init_subclass__",rf 49],
  tO "tuple" #[rf 24],
  cO "builtin_function_or_method" #[Value.builtin "type.__prepare__",Value.type "type"],
  { cls := Value.type "dict",data := Data.dict #[dE P "__module__" 246 (vs "shortring.errors" 187),dE P "__qualname__" 248 (vs "BadOrder" 247),dE P "__firstlineno__" 250 (Value.int 8 249),dE P "__static_attributes__" 251 (rf 59)] 4 },
  tO "tuple" #[],
  { cls := Value.none,data := Data.fields #[] },
  cO "code" #[vs "BadOrder" 241,vs "BadOrder" 242,vs "/claim/cut.py" 243,vi 8,vi 0,vi 0,vi 0,vi 0,rf 55,Value.bool false,vi 181,rf 56,Value.none,Value.none,Value.none,Value.none,vi 244,vi 8,vs "/claim/cut.py" 245],
  fO #[some (rf 57),some (rf 3),some (rf 54),none,some (vs "shortring.errors" 187),none,some (rf 0)],
  tO "tuple" #[],
  { cls := Value.type "dict",data := Data.dict #[dE P "__module__" 246 (vs "shortring.errors" 187),dE P "__firstlineno__" 250 (Value.int 8 249),dE P "__static_attributes__" 251 (rf 59),dE P "__doc__" 252 (Value.none)] 2 },
  { cls := Value.type "type",data := Data.cls { name := Str.ofString "BadOrder",bases := [rf 24],mro := [rf 61,rf 24,Value.type "ValueError",Value.type "Exception",Value.type "BaseException",Value.type "object"],ns := 60,qualname := Str.ofString "BadOrder" },slots := #[some (rf 52),none,some (vs "BadOrder" 239),some (vs "BadOrder" 247),some (Value.builtin "ValueError.__new__"),some (Value.bool true)] },
  cO "super" #[rf 61,rf 61,rf 61],
  cO "builtin_function_or_method" #[Value.builtin "object.__init_subclass__",rf 61],
  tO "tuple" #[rf 24],
  cO "builtin_function_or_method" #[Value.builtin "type.__prepare__",Value.type "type"],
  { cls := Value.type "dict",data := Data.dict #[dE P "__module__" 262 (vs "shortring.errors" 187),dE P "__qualname__" 264 (vs "HasGap" 263),dE P "__firstlineno__" 266 (Value.int 10 265),dE P "__static_attributes__" 267 (rf 71)] 4 },
  tO "tuple" #[],
  { cls := Value.none,data := Data.fields #[] },
  cO "code" #[vs "HasGap" 257,vs "HasGap" 258,vs "/claim/cut.py" 259,vi 10,vi 0,vi 0,vi 0,vi 0,rf 67,Value.bool false,vi 181,rf 68,Value.none,Value.none,Value.none,Value.none,vi 260,vi 10,vs "/claim/cut.py" 261],
  fO #[some (rf 69),some (rf 3),some (rf 66),none,some (vs "shortring.errors" 187),none,some (rf 0)],
  tO "tuple" #[],
  { cls := Value.type "dict",data := Data.dict #[dE P "__module__" 262 (vs "shortring.errors" 187),dE P "__firstlineno__" 266 (Value.int 10 265),dE P "__static_attributes__" 267 (rf 71),dE P "__doc__" 268 (Value.none)] 2 },
  { cls := Value.type "type",data := Data.cls { name := Str.ofString "HasGap",bases := [rf 24],mro := [rf 73,rf 24,Value.type "ValueError",Value.type "Exception",Value.type "BaseException",Value.type "object"],ns := 72,qualname := Str.ofString "HasGap" },slots := #[some (rf 64),none,some (vs "HasGap" 255),some (vs "HasGap" 263),some (Value.builtin "ValueError.__new__"),some (Value.bool true)] },
  cO "super" #[rf 73,rf 73,rf 73],
  cO "builtin_function_or_method" #[Value.builtin "object.__init_subclass__",rf 73],
  tO "tuple" #[],
  { cls := Value.none,data := Data.fields #[] },
  tO "tuple" #[vs "web" 276,vs "order" 277],
  tO "tuple" #[],
  prO (stAt 7) (Str.ofString "is_order"),
  cO "code" #[vs "is_order" 273,vs "is_order" 274,vs "/claim/cut.py" 275,vi 13,vi 2,vi 0,vi 0,vi 3,rf 76,Value.bool true,vi 181,rf 77,Value.none,rf 78,rf 79,rf 80,vi 278,vi 13,vs "/claim/cut.py" 279],
  fnO (stAt 7) (Str.ofString "is_order") (vs "shortring.orders" 271) 81,
  tO "tuple" #[],
  { cls := Value.none,data := Data.fields #[] },
  tO "tuple" #[vs "web" 284,vs "order" 285],
  tO "tuple" #[],
  prO (stAt 8) (Str.ofString "need_order"),
  cO "code" #[vs "need_order" 281,vs "need_order" 282,vs "/claim/cut.py" 283,vi 15,vi 2,vi 0,vi 0,vi 3,rf 83,Value.bool true,vi 181,rf 84,Value.none,rf 85,rf 86,rf 87,vi 286,vi 15,vs "/claim/cut.py" 287],
  fnO (stAt 8) (Str.ofString "need_order") (vs "shortring.orders" 271) 88,
  tO "tuple" #[],
  { cls := Value.none,data := Data.fields #[] },
  prO (stAt 9) (Str.ofString "those_behind"),
  cO "code" #[vs "those_behind" 289,vs "those_behind" 290,vs "/claim/cut.py" 291,vi 18,vi 3,vi 0,vi 0,vi 3,rf 90,Value.bool true,vi 181,rf 91,Value.none,Value.none,Value.none,rf 92,vi 292,vi 18,vs "/claim/cut.py" 293],
  fnO (stAt 9) (Str.ofString "those_behind") (vs "shortring.orders" 271) 93,
  tO "tuple" #[],
  { cls := Value.none,data := Data.fields #[] },
  tO "tuple" #[vs "web" 298,vs "row" 299,vs "k" 300,vs "one" 301,vs "other" 302],
  tO "tuple" #[],
  prO (stAt 10) (Str.ofString "first_untied"),
  cO "code" #[vs "first_untied" 295,vs "first_untied" 296,vs "/claim/cut.py" 297,vi 21,vi 2,vi 0,vi 0,vi 3,rf 95,Value.bool true,vi 181,rf 96,Value.none,rf 97,rf 98,rf 99,vi 303,vi 21,vs "/claim/cut.py" 304],
  fnO (stAt 10) (Str.ofString "first_untied") (vs "shortring.orders" 271) 100,
  tO "tuple" #[],
  { cls := Value.none,data := Data.fields #[] },
  tO "tuple" #[vs "web" 309,vs "order" 310,vs "point" 311,vs "pair" 312],
  tO "tuple" #[],
  prO (stAt 11) (Str.ofString "gap"),
  cO "code" #[vs "gap" 306,vs "gap" 307,vs "/claim/cut.py" 308,vi 27,vi 2,vi 0,vi 0,vi 3,rf 102,Value.bool true,vi 181,rf 103,Value.none,rf 104,rf 105,rf 106,vi 313,vi 27,vs "/claim/cut.py" 314],
  fnO (stAt 11) (Str.ofString "gap") (vs "shortring.orders" 271) 107,
  tO "tuple" #[],
  { cls := Value.none,data := Data.fields #[] },
  prO (stAt 12) (Str.ofString "least_to_go"),
  cO "code" #[vs "least_to_go" 316,vs "least_to_go" 317,vs "/claim/cut.py" 318,vi 34,vi 2,vi 0,vi 0,vi 3,rf 109,Value.bool true,vi 181,rf 110,Value.none,Value.none,Value.none,rf 111,vi 319,vi 34,vs "/claim/cut.py" 320],
  fnO (stAt 12) (Str.ofString "least_to_go") (vs "shortring.orders" 271) 112,
  tO "tuple" #[],
  { cls := Value.none,data := Data.fields #[] },
  tO "tuple" #[vs "web" 325,vs "there" 326,vs "gone" 327,vs "point" 328],
  tO "tuple" #[],
  prO (stAt 13) (Str.ofString "taken"),
  cO "code" #[vs "taken" 322,vs "taken" 323,vs "/claim/cut.py" 324,vi 39,vi 1,vi 0,vi 0,vi 3,rf 114,Value.bool true,vi 181,rf 115,Value.none,rf 116,rf 117,rf 118,vi 329,vi 39,vs "/claim/cut.py" 330],
  fnO (stAt 13) (Str.ofString "taken") (vs "shortring.orders" 271) 119,
  tO "tuple" #[],
  { cls := Value.none,data := Data.fields #[] },
  tO "tuple" #[vs "web" 337,vs "order" 338],
  tO "tuple" #[],
  prO (stAt 15) (Str.ofString "need_whole"),
  cO "code" #[vs "need_whole" 334,vs "need_whole" 335,vs "/claim/cut.py" 336,vi 49,vi 2,vi 0,vi 0,vi 3,rf 121,Value.bool true,vi 181,rf 122,Value.none,rf 123,rf 124,rf 125,vi 339,vi 49,vs "/claim/cut.py" 340],
  fnO (stAt 15) (Str.ofString "need_whole") (vs "shortring.crowds" 332) 126,
  tO "tuple" #[],
  { cls := Value.none,data := Data.fields #[] },
  tO "tuple" #[vs "web" 345,vs "order" 346,vs "point" 347],
  tO "tuple" #[],
  prO (stAt 16) (Str.ofString "crowd_at"),
  cO "code" #[vs "crowd_at" 342,vs "crowd_at" 343,vs "/claim/cut.py" 344,vi 52,vi 3,vi 0,vi 0,vi 3,rf 128,Value.bool true,vi 181,rf 129,Value.none,rf 130,rf 131,rf 132,vi 348,vi 52,vs "/claim/cut.py" 349],
  fnO (stAt 16) (Str.ofString "crowd_at") (vs "shortring.crowds" 332) 133,
  tO "tuple" #[],
  { cls := Value.none,data := Data.fields #[] },
  prO (stAt 17) (Str.ofString "is_full"),
  cO "code" #[vs "is_full" 351,vs "is_full" 352,vs "/claim/cut.py" 353,vi 54,vi 2,vi 0,vi 0,vi 3,rf 135,Value.bool true,vi 181,rf 136,Value.none,Value.none,Value.none,rf 137,vi 354,vi 54,vs "/claim/cut.py" 355],
  fnO (stAt 17) (Str.ofString "is_full") (vs "shortring.crowds" 332) 138,
  tO "tuple" #[],
  { cls := Value.none,data := Data.fields #[] },
  tO "tuple" #[vs "web" 360,vs "order" 361,vs "found" 362,vs "point" 363,vs "crowd" 364],
  tO "tuple" #[],
  prO (stAt 18) (Str.ofString "full_crowds"),
  cO "code" #[vs "full_crowds" 357,vs "full_crowds" 358,vs "/claim/cut.py" 359,vi 59,vi 2,vi 0,vi 0,vi 3,rf 140,Value.bool true,vi 181,rf 141,Value.none,rf 142,rf 143,rf 144,vi 365,vi 59,vs "/claim/cut.py" 366],
  fnO (stAt 18) (Str.ofString "full_crowds") (vs "shortring.crowds" 332) 145,
  tO "tuple" #[],
  { cls := Value.none,data := Data.fields #[] },
  tO "tuple" #[vs "used" 371,vs "colour" 372],
  tO "tuple" #[],
  prO (stAt 19) (Str.ofString "least_free"),
  cO "code" #[vs "least_free" 368,vs "least_free" 369,vs "/claim/cut.py" 370,vi 67,vi 1,vi 0,vi 0,vi 3,rf 147,Value.bool true,vi 181,rf 148,Value.none,rf 149,rf 150,rf 151,vi 373,vi 67,vs "/claim/cut.py" 374],
  fnO (stAt 19) (Str.ofString "least_free") (vs "shortring.crowds" 332) 152,
  tO "tuple" #[],
  { cls := Value.none,data := Data.fields #[] },
  prO (stAt 20) (Str.ofString "coloured"),
  cO "code" #[vs "coloured" 376,vs "coloured" 377,vs "/claim/cut.py" 378,vi 72,vi 2,vi 0,vi 0,vi 3,rf 154,Value.bool true,vi 181,rf 155,Value.none,Value.none,Value.none,rf 156,vi 379,vi 72,vs "/claim/cut.py" 380],
  fnO (stAt 20) (Str.ofString "coloured") (vs "shortring.crowds" 332) 157,
  tO "tuple" #[],
  { cls := Value.none,data := Data.fields #[] },
  prO (stAt 21) (Str.ofString "apart"),
  cO "code" #[vs "apart" 382,vs "apart" 383,vs "/claim/cut.py" 384,vi 78,vi 2,vi 0,vi 0,vi 3,rf 159,Value.bool true,vi 181,rf 160,Value.none,Value.none,Value.none,rf 161,vi 385,vi 78,vs "/claim/cut.py" 386],
  fnO (stAt 21) (Str.ofString "apart") (vs "shortring.crowds" 332) 162,
  tO "tuple" #[],
  { cls := Value.none,data := Data.fields #[] },
  tO "tuple" #[vs "web" 393,vs "start" 394,vs "shut" 395,vs "came" 396,vs "waiting" 397,vs "k" 398,vs "point" 399,vs "other" 400],
  tO "tuple" #[],
  prO (stAt 23) (Str.ofString "steps_from"),
  cO "code" #[vs "steps_from" 390,vs "steps_from" 391,vs "/claim/cut.py" 392,vi 88,vi 3,vi 0,vi 0,vi 3,rf 164,Value.bool true,vi 181,rf 165,Value.none,rf 166,rf 167,rf 168,vi 401,vi 88,vs "/claim/cut.py" 402],
  fnO (stAt 23) (Str.ofString "steps_from") (vs "shortring.rings" 388) 169,
  tO "tuple" #[],
  { cls := Value.none,data := Data.fields #[] },
  tO "tuple" #[vs "web" 407,vs "start" 408,vs "goal" 409,vs "shut" 410,vs "came" 411,vs "found" 412],
  tO "tuple" #[],
  prO (stAt 24) (Str.ofString "way"),
  cO "code" #[vs "way" 404,vs "way" 405,vs "/claim/cut.py" 406,vi 100,vi 4,vi 0,vi 0,vi 3,rf 171,Value.bool true,vi 181,rf 172,Value.none,rf 173,rf 174,rf 175,vi 413,vi 100,vs "/claim/cut.py" 414],
  fnO (stAt 24) (Str.ofString "way") (vs "shortring.rings" 388) 176,
  tO "tuple" #[],
  { cls := Value.none,data := Data.fields #[] },
  tO "tuple" #[vs "web" 419,vs "shut" 420,vs "piece" 421,vs "start" 422,vs "point" 423],
  tO "tuple" #[],
  prO (stAt 25) (Str.ofString "pieces"),
  cO "code" #[vs "pieces" 416,vs "pieces" 417,vs "/claim/cut.py" 418,vi 113,vi 2,vi 0,vi 0,vi 3,rf 178,Value.bool true,vi 181,rf 179,Value.none,rf 180,rf 181,rf 182,vi 424,vi 113,vs "/claim/cut.py" 425],
  fnO (stAt 25) (Str.ofString "pieces") (vs "shortring.rings" 388) 183,
  tO "tuple" #[],
  { cls := Value.none,data := Data.fields #[] },
  prO (stAt 26) (Str.ofString "ring_at"),
  cO "code" #[vs "ring_at" 427,vs "ring_at" 428,vs "/claim/cut.py" 429,vi 120,vi 2,vi 0,vi 0,vi 3,rf 185,Value.bool true,vi 181,rf 186,Value.none,Value.none,Value.none,rf 187,vi 430,vi 120,vs "/claim/cut.py" 431],
  fnO (stAt 26) (Str.ofString "ring_at") (vs "shortring.rings" 388) 188,
  tO "tuple" #[],
  { cls := Value.none,data := Data.fields #[] },
  tO "tuple" #[vs "web" 436,vs "point" 437,vs "found" 438],
  tO "tuple" #[],
  prO (stAt 27) (Str.ofString "long_ring"),
  cO "code" #[vs "long_ring" 433,vs "long_ring" 434,vs "/claim/cut.py" 435,vi 136,vi 1,vi 0,vi 0,vi 3,rf 190,Value.bool true,vi 181,rf 191,Value.none,rf 192,rf 193,rf 194,vi 439,vi 136,vs "/claim/cut.py" 440],
  fnO (stAt 27) (Str.ofString "long_ring") (vs "shortring.rings" 388) 195],{ }⟩,Array.mk [],{ },442,os⟩
noncomputable def s_m42 (P:Params) (os:OsState):Shared := ⟨⟨Array.mk [
  boot_o_0 P,
  boot_o_1 P,
  boot_o_2 P,
  { cls := Value.type "dict",data := Data.dict #[dE P "__name__" 165 (vs "law_uf020033_11" 568),dE P "__doc__" 166 (Value.none),dE P "__package__" 167 (Value.none),dE P "__loader__" 168 (Value.builtin "__main__.__loader__#opaque"),dE P "__spec__" 169 (Value.none),dE P "__annotations__" 170 (rf 6),dE P "__builtins__" 171 (rf 4),dE P "__file__" 173 (vs "/claim/cut.py" 172),dE P "__cached__" 174 (Value.none),dE P "WebError" 206 (rf 24),dE P "BadWeb" 222 (rf 37),dE P "NoPoint" 238 (rf 49),dE P "BadOrder" 254 (rf 61),dE P "HasGap" 270 (rf 73),dE P "is_order" 280 (rf 82),dE P "need_order" 288 (rf 89),dE P "those_behind" 294 (rf 94),dE P "first_untied" 305 (rf 101),dE P "gap" 315 (rf 108),dE P "least_to_go" 321 (rf 113),dE P "taken" 331 (rf 120),dE P "need_whole" 341 (rf 127),dE P "crowd_at" 350 (rf 134),dE P "is_full" 356 (rf 139),dE P "full_crowds" 367 (rf 146),dE P "least_free" 375 (rf 153),dE P "coloured" 381 (rf 158),dE P "apart" 387 (rf 163),dE P "steps_from" 403 (rf 170),dE P "way" 415 (rf 177),dE P "pieces" 426 (rf 184),dE P "ring_at" 432 (rf 189),dE P "long_ring" 441 (rf 196),dE P "Verdict" 480 (rf 213),dE P "judged" 491 (rf 224),dE P "MOST" 495 (Value.int 60 494),dE P "Web" 561 (rf 269),dE P "web_of" 567 (rf 278),dE P "_law_cell_at" 577 (rf 285),dE P "_law_whole" 584 (rf 292),dE P "_law_numbers" 593 (rf 299),dE P "_law_mixed" 601 (rf 306),dE P "_law_earlier" 617 (rf 313),dE P "_law_any_rows" 623 (rf 318),dE P "_law_many" 631 (rf 325)] 45 },
  boot_o_4 P,
  boot_o_5 P,
  boot_o_6 P,
  boot_o_7 P,
  boot_o_8 P,
  boot_o_9 P,
  boot_o_10 P,
  tO "tuple" #[],
  { cls := Value.none,data := Data.fields #[vi 2,vi 0,rf 20,vi 4,vi 0,rf 33,vi 6,vi 0,rf 45,vi 8,vi 0,rf 57,vi 10,vi 0,rf 69,vi 13,vi 0,rf 81,vi 15,vi 0,rf 88,vi 18,vi 0,rf 93,vi 21,vi 0,rf 100,vi 27,vi 0,rf 107,vi 34,vi 0,rf 112,vi 39,vi 0,rf 119,vi 49,vi 0,rf 126,vi 52,vi 0,rf 133,vi 54,vi 0,rf 138,vi 59,vi 0,rf 145,vi 67,vi 0,rf 152,vi 72,vi 0,rf 157,vi 78,vi 0,rf 162,vi 88,vi 0,rf 169,vi 100,vi 0,rf 176,vi 113,vi 0,rf 183,vi 120,vi 0,rf 188,vi 136,vi 0,rf 195,vi 143,vi 0,rf 202,vi 151,vi 0,rf 223,vi 163,vi 0,rf 230,vi 189,vi 0,rf 277,vi 201,vi 0,rf 284,vi 205,vi 0,rf 291,vi 207,vi 0,rf 298,vi 214,vi 0,rf 305,vi 216,vi 0,rf 312,vi 235,vi 0,rf 317,vi 245,vi 0,rf 324] },
  cO "code" #[vs "<module>" 182,vs "<module>" 183,vs "/claim/cut.py" 184,vi 1,vi 0,vi 0,vi 0,vi 0,rf 11,Value.bool false,vi 181,rf 12,Value.none,Value.none,Value.none,Value.none,vi 185,vi 1,vs "/claim/cut.py" 186],
  fO #[some (rf 13),some (rf 3),some (rf 3),none,some (vs "__main__" 164),none,some (rf 0)],
  tO "tuple" #[Value.type "ValueError"],
  cO "builtin_function_or_method" #[Value.builtin "type.__prepare__",Value.type "type"],
  { cls := Value.type "dict",data := Data.dict #[dE P "__module__" 196 (vs "shortring.errors" 187),dE P "__qualname__" 198 (vs "WebError" 197),dE P "__firstlineno__" 200 (Value.int 2 199),dE P "__static_attributes__" 201 (rf 22)] 4 },
  tO "tuple" #[],
  { cls := Value.none,data := Data.fields #[] },
  cO "code" #[vs "WebError" 191,vs "WebError" 192,vs "/claim/cut.py" 193,vi 2,vi 0,vi 0,vi 0,vi 0,rf 18,Value.bool false,vi 181,rf 19,Value.none,Value.none,Value.none,Value.none,vi 194,vi 2,vs "/claim/cut.py" 195],
  fO #[some (rf 20),some (rf 3),some (rf 17),none,some (vs "shortring.errors" 187),none,some (rf 0)],
  tO "tuple" #[],
  { cls := Value.type "dict",data := Data.dict #[dE P "__module__" 196 (vs "shortring.errors" 187),dE P "__firstlineno__" 200 (Value.int 2 199),dE P "__static_attributes__" 201 (rf 22),dE P "__weakref__" 203 (rf 25),dE P "__doc__" 204 (Value.none)] 3 },
  { cls := Value.type "type",data := Data.cls { name := Str.ofString "WebError",bases := [Value.type "ValueError"],mro := [rf 24,Value.type "ValueError",Value.type "Exception",Value.type "BaseException",Value.type "object"],ns := 23,qualname := Str.ofString "WebError",subclasses := [rf 37,rf 49,rf 61,rf 73] },slots := #[some (rf 15),none,some (vs "WebError" 189),some (vs "WebError" 197),some (Value.builtin "ValueError.__new__"),some (Value.bool true)] },
  cO "getset_descriptor" #[vs "__weakref__" 202,rf 24,Value.builtin "ExceptionGroup.__weakref__",Value.none],
  cO "super" #[rf 24,rf 24,rf 24],
  cO "builtin_function_or_method" #[Value.builtin "object.__init_subclass__",rf 24],
  tO "tuple" #[rf 24],
  cO "builtin_function_or_method" #[Value.builtin "type.__prepare__",Value.type "type"],
  { cls := Value.type "dict",data := Data.dict #[dE P "__module__" 214 (vs "shortring.errors" 187),dE P "__qualname__" 216 (vs "BadWeb" 215),dE P "__firstlineno__" 218 (Value.int 4 217),dE P "__static_attributes__" 219 (rf 35)] 4 },
  tO "tuple" #[],
  { cls := Value.none,data := Data.fields #[] },
  cO "code" #[vs "BadWeb" 209,vs "BadWeb" 210,vs "/claim/cut.py" 211,vi 4,vi 0,vi 0,vi 0,vi 0,rf 31,Value.bool false,vi 181,rf 32,Value.none,Value.none,Value.none,Value.none,vi 212,vi 4,vs "/claim/cut.py" 213],
  fO #[some (rf 33),some (rf 3),some (rf 30),none,some (vs "shortring.errors" 187),none,some (rf 0)],
  tO "tuple" #[],
  { cls := Value.type "dict",data := Data.dict #[dE P "__module__" 214 (vs "shortring.errors" 187),dE P "__firstlineno__" 218 (Value.int 4 217),dE P "__static_attributes__" 219 (rf 35),dE P "__doc__" 220 (Value.none)] 2 },
  { cls := Value.type "type",data := Data.cls { name := Str.ofString "BadWeb",bases := [rf 24],mro := [rf 37,rf 24,Value.type "ValueError",Value.type "Exception",Value.type "BaseException",Value.type "object"],ns := 36,qualname := Str.ofString "BadWeb" },slots := #[some (rf 28),none,some (vs "BadWeb" 207),some (vs "BadWeb" 215),some (Value.builtin "ValueError.__new__"),some (Value.bool true)] },
  cO "super" #[rf 37,rf 37,rf 37],
  cO "builtin_function_or_method" #[Value.builtin "object.__init_subclass__",rf 37],
  tO "tuple" #[rf 24],
  cO "builtin_function_or_method" #[Value.builtin "type.__prepare__",Value.type "type"],
  { cls := Value.type "dict",data := Data.dict #[dE P "__module__" 230 (vs "shortring.errors" 187),dE P "__qualname__" 232 (vs "NoPoint" 231),dE P "__firstlineno__" 234 (Value.int 6 233),dE P "__static_attributes__" 235 (rf 47)] 4 },
  tO "tuple" #[],
  { cls := Value.none,data := Data.fields #[] },
  cO "code" #[vs "NoPoint" 225,vs "NoPoint" 226,vs "/claim/cut.py" 227,vi 6,vi 0,vi 0,vi 0,vi 0,rf 43,Value.bool false,vi 181,rf 44,Value.none,Value.none,Value.none,Value.none,vi 228,vi 6,vs "/claim/cut.py" 229],
  fO #[some (rf 45),some (rf 3),some (rf 42),none,some (vs "shortring.errors" 187),none,some (rf 0)],
  tO "tuple" #[],
  { cls := Value.type "dict",data := Data.dict #[dE P "__module__" 230 (vs "shortring.errors" 187),dE P "__firstlineno__" 234 (Value.int 6 233),dE P "__static_attributes__" 235 (rf 47),dE P "__doc__" 236 (Value.none)] 2 },
  { cls := Value.type "type",data := Data.cls { name := Str.ofString "NoPoint",bases := [rf 24],mro := [rf 49,rf 24,Value.type "ValueError",Value.type "Exception",Value.type "BaseException",Value.type "object"],ns := 48,qualname := Str.ofString "NoPoint" },slots := #[some (rf 40),none,some (vs "NoPoint" 223),some (vs "NoPoint" 231),some (Value.builtin "ValueError.__new__"),some (Value.bool true)] },
  cO "super" #[rf 49,rf 49,rf 49],
  cO "builtin_function_or_method" #[Value.builtin "object.__init_subclass__",rf 49],
  tO "tuple" #[rf 24],
  cO "builtin_function_or_method" #[Value.builtin "type.__prepare__",Value.type "type"],
  { cls := Value.type "dict",data := Data.dict #[dE P "__module__" 246 (vs "shortring.errors" 187),dE P "__qualname__" 248 (vs "BadOrder" 247),dE P "__firstlineno__" 250 (Value.int 8 249),dE P "__static_attributes__" 251 (rf 59)] 4 },
  tO "tuple" #[],
  { cls := Value.none,data := Data.fields #[] },
  cO "code" #[vs "BadOrder" 241,vs "BadOrder" 242,vs "/claim/cut.py" 243,vi 8,vi 0,vi 0,vi 0,vi 0,rf 55,Value.bool false,vi 181,rf 56,Value.none,Value.none,Value.none,Value.none,vi 244,vi 8,vs "/claim/cut.py" 245],
  fO #[some (rf 57),some (rf 3),some (rf 54),none,some (vs "shortring.errors" 187),none,some (rf 0)],
  tO "tuple" #[],
  { cls := Value.type "dict",data := Data.dict #[dE P "__module__" 246 (vs "shortring.errors" 187),dE P "__firstlineno__" 250 (Value.int 8 249),dE P "__static_attributes__" 251 (rf 59),dE P "__doc__" 252 (Value.none)] 2 },
  { cls := Value.type "type",data := Data.cls { name := Str.ofString "BadOrder",bases := [rf 24],mro := [rf 61,rf 24,Value.type "ValueError",Value.type "Exception",Value.type "BaseException",Value.type "object"],ns := 60,qualname := Str.ofString "BadOrder" },slots := #[some (rf 52),none,some (vs "BadOrder" 239),some (vs "BadOrder" 247),some (Value.builtin "ValueError.__new__"),some (Value.bool true)] },
  cO "super" #[rf 61,rf 61,rf 61],
  cO "builtin_function_or_method" #[Value.builtin "object.__init_subclass__",rf 61],
  tO "tuple" #[rf 24],
  cO "builtin_function_or_method" #[Value.builtin "type.__prepare__",Value.type "type"],
  { cls := Value.type "dict",data := Data.dict #[dE P "__module__" 262 (vs "shortring.errors" 187),dE P "__qualname__" 264 (vs "HasGap" 263),dE P "__firstlineno__" 266 (Value.int 10 265),dE P "__static_attributes__" 267 (rf 71)] 4 },
  tO "tuple" #[],
  { cls := Value.none,data := Data.fields #[] },
  cO "code" #[vs "HasGap" 257,vs "HasGap" 258,vs "/claim/cut.py" 259,vi 10,vi 0,vi 0,vi 0,vi 0,rf 67,Value.bool false,vi 181,rf 68,Value.none,Value.none,Value.none,Value.none,vi 260,vi 10,vs "/claim/cut.py" 261],
  fO #[some (rf 69),some (rf 3),some (rf 66),none,some (vs "shortring.errors" 187),none,some (rf 0)],
  tO "tuple" #[],
  { cls := Value.type "dict",data := Data.dict #[dE P "__module__" 262 (vs "shortring.errors" 187),dE P "__firstlineno__" 266 (Value.int 10 265),dE P "__static_attributes__" 267 (rf 71),dE P "__doc__" 268 (Value.none)] 2 },
  { cls := Value.type "type",data := Data.cls { name := Str.ofString "HasGap",bases := [rf 24],mro := [rf 73,rf 24,Value.type "ValueError",Value.type "Exception",Value.type "BaseException",Value.type "object"],ns := 72,qualname := Str.ofString "HasGap" },slots := #[some (rf 64),none,some (vs "HasGap" 255),some (vs "HasGap" 263),some (Value.builtin "ValueError.__new__"),some (Value.bool true)] },
  cO "super" #[rf 73,rf 73,rf 73],
  cO "builtin_function_or_method" #[Value.builtin "object.__init_subclass__",rf 73],
  tO "tuple" #[],
  { cls := Value.none,data := Data.fields #[] },
  tO "tuple" #[vs "web" 276,vs "order" 277],
  tO "tuple" #[],
  prO (stAt 7) (Str.ofString "is_order"),
  cO "code" #[vs "is_order" 273,vs "is_order" 274,vs "/claim/cut.py" 275,vi 13,vi 2,vi 0,vi 0,vi 3,rf 76,Value.bool true,vi 181,rf 77,Value.none,rf 78,rf 79,rf 80,vi 278,vi 13,vs "/claim/cut.py" 279],
  fnO (stAt 7) (Str.ofString "is_order") (vs "shortring.orders" 271) 81,
  tO "tuple" #[],
  { cls := Value.none,data := Data.fields #[] },
  tO "tuple" #[vs "web" 284,vs "order" 285],
  tO "tuple" #[],
  prO (stAt 8) (Str.ofString "need_order"),
  cO "code" #[vs "need_order" 281,vs "need_order" 282,vs "/claim/cut.py" 283,vi 15,vi 2,vi 0,vi 0,vi 3,rf 83,Value.bool true,vi 181,rf 84,Value.none,rf 85,rf 86,rf 87,vi 286,vi 15,vs "/claim/cut.py" 287],
  fnO (stAt 8) (Str.ofString "need_order") (vs "shortring.orders" 271) 88,
  tO "tuple" #[],
  { cls := Value.none,data := Data.fields #[] },
  prO (stAt 9) (Str.ofString "those_behind"),
  cO "code" #[vs "those_behind" 289,vs "those_behind" 290,vs "/claim/cut.py" 291,vi 18,vi 3,vi 0,vi 0,vi 3,rf 90,Value.bool true,vi 181,rf 91,Value.none,Value.none,Value.none,rf 92,vi 292,vi 18,vs "/claim/cut.py" 293],
  fnO (stAt 9) (Str.ofString "those_behind") (vs "shortring.orders" 271) 93,
  tO "tuple" #[],
  { cls := Value.none,data := Data.fields #[] },
  tO "tuple" #[vs "web" 298,vs "row" 299,vs "k" 300,vs "one" 301,vs "other" 302],
  tO "tuple" #[],
  prO (stAt 10) (Str.ofString "first_untied"),
  cO "code" #[vs "first_untied" 295,vs "first_untied" 296,vs "/claim/cut.py" 297,vi 21,vi 2,vi 0,vi 0,vi 3,rf 95,Value.bool true,vi 181,rf 96,Value.none,rf 97,rf 98,rf 99,vi 303,vi 21,vs "/claim/cut.py" 304],
  fnO (stAt 10) (Str.ofString "first_untied") (vs "shortring.orders" 271) 100,
  tO "tuple" #[],
  { cls := Value.none,data := Data.fields #[] },
  tO "tuple" #[vs "web" 309,vs "order" 310,vs "point" 311,vs "pair" 312],
  tO "tuple" #[],
  prO (stAt 11) (Str.ofString "gap"),
  cO "code" #[vs "gap" 306,vs "gap" 307,vs "/claim/cut.py" 308,vi 27,vi 2,vi 0,vi 0,vi 3,rf 102,Value.bool true,vi 181,rf 103,Value.none,rf 104,rf 105,rf 106,vi 313,vi 27,vs "/claim/cut.py" 314],
  fnO (stAt 11) (Str.ofString "gap") (vs "shortring.orders" 271) 107,
  tO "tuple" #[],
  { cls := Value.none,data := Data.fields #[] },
  prO (stAt 12) (Str.ofString "least_to_go"),
  cO "code" #[vs "least_to_go" 316,vs "least_to_go" 317,vs "/claim/cut.py" 318,vi 34,vi 2,vi 0,vi 0,vi 3,rf 109,Value.bool true,vi 181,rf 110,Value.none,Value.none,Value.none,rf 111,vi 319,vi 34,vs "/claim/cut.py" 320],
  fnO (stAt 12) (Str.ofString "least_to_go") (vs "shortring.orders" 271) 112,
  tO "tuple" #[],
  { cls := Value.none,data := Data.fields #[] },
  tO "tuple" #[vs "web" 325,vs "there" 326,vs "gone" 327,vs "point" 328],
  tO "tuple" #[],
  prO (stAt 13) (Str.ofString "taken"),
  cO "code" #[vs "taken" 322,vs "taken" 323,vs "/claim/cut.py" 324,vi 39,vi 1,vi 0,vi 0,vi 3,rf 114,Value.bool true,vi 181,rf 115,Value.none,rf 116,rf 117,rf 118,vi 329,vi 39,vs "/claim/cut.py" 330],
  fnO (stAt 13) (Str.ofString "taken") (vs "shortring.orders" 271) 119,
  tO "tuple" #[],
  { cls := Value.none,data := Data.fields #[] },
  tO "tuple" #[vs "web" 337,vs "order" 338],
  tO "tuple" #[],
  prO (stAt 15) (Str.ofString "need_whole"),
  cO "code" #[vs "need_whole" 334,vs "need_whole" 335,vs "/claim/cut.py" 336,vi 49,vi 2,vi 0,vi 0,vi 3,rf 121,Value.bool true,vi 181,rf 122,Value.none,rf 123,rf 124,rf 125,vi 339,vi 49,vs "/claim/cut.py" 340],
  fnO (stAt 15) (Str.ofString "need_whole") (vs "shortring.crowds" 332) 126,
  tO "tuple" #[],
  { cls := Value.none,data := Data.fields #[] },
  tO "tuple" #[vs "web" 345,vs "order" 346,vs "point" 347],
  tO "tuple" #[],
  prO (stAt 16) (Str.ofString "crowd_at"),
  cO "code" #[vs "crowd_at" 342,vs "crowd_at" 343,vs "/claim/cut.py" 344,vi 52,vi 3,vi 0,vi 0,vi 3,rf 128,Value.bool true,vi 181,rf 129,Value.none,rf 130,rf 131,rf 132,vi 348,vi 52,vs "/claim/cut.py" 349],
  fnO (stAt 16) (Str.ofString "crowd_at") (vs "shortring.crowds" 332) 133,
  tO "tuple" #[],
  { cls := Value.none,data := Data.fields #[] },
  prO (stAt 17) (Str.ofString "is_full"),
  cO "code" #[vs "is_full" 351,vs "is_full" 352,vs "/claim/cut.py" 353,vi 54,vi 2,vi 0,vi 0,vi 3,rf 135,Value.bool true,vi 181,rf 136,Value.none,Value.none,Value.none,rf 137,vi 354,vi 54,vs "/claim/cut.py" 355],
  fnO (stAt 17) (Str.ofString "is_full") (vs "shortring.crowds" 332) 138,
  tO "tuple" #[],
  { cls := Value.none,data := Data.fields #[] },
  tO "tuple" #[vs "web" 360,vs "order" 361,vs "found" 362,vs "point" 363,vs "crowd" 364],
  tO "tuple" #[],
  prO (stAt 18) (Str.ofString "full_crowds"),
  cO "code" #[vs "full_crowds" 357,vs "full_crowds" 358,vs "/claim/cut.py" 359,vi 59,vi 2,vi 0,vi 0,vi 3,rf 140,Value.bool true,vi 181,rf 141,Value.none,rf 142,rf 143,rf 144,vi 365,vi 59,vs "/claim/cut.py" 366],
  fnO (stAt 18) (Str.ofString "full_crowds") (vs "shortring.crowds" 332) 145,
  tO "tuple" #[],
  { cls := Value.none,data := Data.fields #[] },
  tO "tuple" #[vs "used" 371,vs "colour" 372],
  tO "tuple" #[],
  prO (stAt 19) (Str.ofString "least_free"),
  cO "code" #[vs "least_free" 368,vs "least_free" 369,vs "/claim/cut.py" 370,vi 67,vi 1,vi 0,vi 0,vi 3,rf 147,Value.bool true,vi 181,rf 148,Value.none,rf 149,rf 150,rf 151,vi 373,vi 67,vs "/claim/cut.py" 374],
  fnO (stAt 19) (Str.ofString "least_free") (vs "shortring.crowds" 332) 152,
  tO "tuple" #[],
  { cls := Value.none,data := Data.fields #[] },
  prO (stAt 20) (Str.ofString "coloured"),
  cO "code" #[vs "coloured" 376,vs "coloured" 377,vs "/claim/cut.py" 378,vi 72,vi 2,vi 0,vi 0,vi 3,rf 154,Value.bool true,vi 181,rf 155,Value.none,Value.none,Value.none,rf 156,vi 379,vi 72,vs "/claim/cut.py" 380],
  fnO (stAt 20) (Str.ofString "coloured") (vs "shortring.crowds" 332) 157,
  tO "tuple" #[],
  { cls := Value.none,data := Data.fields #[] },
  prO (stAt 21) (Str.ofString "apart"),
  cO "code" #[vs "apart" 382,vs "apart" 383,vs "/claim/cut.py" 384,vi 78,vi 2,vi 0,vi 0,vi 3,rf 159,Value.bool true,vi 181,rf 160,Value.none,Value.none,Value.none,rf 161,vi 385,vi 78,vs "/claim/cut.py" 386],
  fnO (stAt 21) (Str.ofString "apart") (vs "shortring.crowds" 332) 162,
  tO "tuple" #[],
  { cls := Value.none,data := Data.fields #[] },
  tO "tuple" #[vs "web" 393,vs "start" 394,vs "shut" 395,vs "came" 396,vs "waiting" 397,vs "k" 398,vs "point" 399,vs "other" 400],
  tO "tuple" #[],
  prO (stAt 23) (Str.ofString "steps_from"),
  cO "code" #[vs "steps_from" 390,vs "steps_from" 391,vs "/claim/cut.py" 392,vi 88,vi 3,vi 0,vi 0,vi 3,rf 164,Value.bool true,vi 181,rf 165,Value.none,rf 166,rf 167,rf 168,vi 401,vi 88,vs "/claim/cut.py" 402],
  fnO (stAt 23) (Str.ofString "steps_from") (vs "shortring.rings" 388) 169,
  tO "tuple" #[],
  { cls := Value.none,data := Data.fields #[] },
  tO "tuple" #[vs "web" 407,vs "start" 408,vs "goal" 409,vs "shut" 410,vs "came" 411,vs "found" 412],
  tO "tuple" #[],
  prO (stAt 24) (Str.ofString "way"),
  cO "code" #[vs "way" 404,vs "way" 405,vs "/claim/cut.py" 406,vi 100,vi 4,vi 0,vi 0,vi 3,rf 171,Value.bool true,vi 181,rf 172,Value.none,rf 173,rf 174,rf 175,vi 413,vi 100,vs "/claim/cut.py" 414],
  fnO (stAt 24) (Str.ofString "way") (vs "shortring.rings" 388) 176,
  tO "tuple" #[],
  { cls := Value.none,data := Data.fields #[] },
  tO "tuple" #[vs "web" 419,vs "shut" 420,vs "piece" 421,vs "start" 422,vs "point" 423],
  tO "tuple" #[],
  prO (stAt 25) (Str.ofString "pieces"),
  cO "code" #[vs "pieces" 416,vs "pieces" 417,vs "/claim/cut.py" 418,vi 113,vi 2,vi 0,vi 0,vi 3,rf 178,Value.bool true,vi 181,rf 179,Value.none,rf 180,rf 181,rf 182,vi 424,vi 113,vs "/claim/cut.py" 425],
  fnO (stAt 25) (Str.ofString "pieces") (vs "shortring.rings" 388) 183,
  tO "tuple" #[],
  { cls := Value.none,data := Data.fields #[] },
  prO (stAt 26) (Str.ofString "ring_at"),
  cO "code" #[vs "ring_at" 427,vs "ring_at" 428,vs "/claim/cut.py" 429,vi 120,vi 2,vi 0,vi 0,vi 3,rf 185,Value.bool true,vi 181,rf 186,Value.none,Value.none,Value.none,rf 187,vi 430,vi 120,vs "/claim/cut.py" 431],
  fnO (stAt 26) (Str.ofString "ring_at") (vs "shortring.rings" 388) 188,
  tO "tuple" #[],
  { cls := Value.none,data := Data.fields #[] },
  tO "tuple" #[vs "web" 436,vs "point" 437,vs "found" 438],
  tO "tuple" #[],
  prO (stAt 27) (Str.ofString "long_ring"),
  cO "code" #[vs "long_ring" 433,vs "long_ring" 434,vs "/claim/cut.py" 435,vi 136,vi 1,vi 0,vi 0,vi 3,rf 190,Value.bool true,vi 181,rf 191,Value.none,rf 192,rf 193,rf 194,vi 439,vi 136,vs "/claim/cut.py" 440],
  fnO (stAt 27) (Str.ofString "long_ring") (vs "shortring.rings" 388) 195,
  tO "tuple" #[],
  cO "builtin_function_or_method" #[Value.builtin "type.__prepare__",Value.type "type"],
  { cls := Value.type "dict",data := Data.dict #[dE P "__module__" 451 (vs "shortring.verdicts" 442),dE P "__qualname__" 453 (vs "Verdict" 452),dE P "__firstlineno__" 455 (Value.int 143 454),dE P "__init__" 467 (rf 210),dE P "__static_attributes__" 473 (rf 211)] 5 },
  tO "tuple" #[],
  { cls := Value.none,data := Data.fields #[vi 145,vi 4,rf 209] },
  cO "code" #[vs "Verdict" 446,vs "Verdict" 447,vs "/claim/cut.py" 448,vi 143,vi 0,vi 0,vi 0,vi 0,rf 200,Value.bool false,vi 181,rf 201,Value.none,Value.none,Value.none,Value.none,vi 449,vi 143,vs "/claim/cut.py" 450],
  fO #[some (rf 202),some (rf 3),some (rf 199),none,some (vs "shortring.verdicts" 442),none,some (rf 0)],
  tO "tuple" #[],
  { cls := Value.none,data := Data.fields #[] },
  tO "tuple" #[vs "self" 459,vs "order" 460,vs "ring" 461,vs "crowd" 462,vs "colours" 463,vs "many" 464],
  tO "tuple" #[],
  prO (stIn 29 0) (Str.ofString "Verdict.__init__"),
  cO "code" #[vs "__init__" 456,vs "Verdict.__init__" 457,vs "/claim/cut.py" 458,vi 145,vi 6,vi 0,vi 0,vi 3,rf 204,Value.bool true,vi 181,rf 205,Value.none,rf 206,rf 207,rf 208,vi 465,vi 145,vs "/claim/cut.py" 466],
  fnO (stIn 29 0) (Str.ofString "Verdict.__init__") (vs "shortring.verdicts" 442) 209,
  tO "tuple" #[vs "colours" 468,vs "crowd" 469,vs "many" 470,vs "order" 471,vs "ring" 472],
  { cls := Value.type "dict",data := Data.dict #[dE P "__module__" 451 (vs "shortring.verdicts" 442),dE P "__firstlineno__" 455 (Value.int 143 454),dE P "__init__" 467 (rf 210),dE P "__static_attributes__" 473 (rf 211),dE P "__dict__" 475 (rf 214),dE P "__weakref__" 477 (rf 215),dE P "__doc__" 478 (Value.none)] 4 },
  { cls := Value.type "type",data := Data.cls { name := Str.ofString "Verdict",bases := [Value.type "object"],mro := [rf 213,Value.type "object"],ns := 212,qualname := Str.ofString "Verdict" },slots := #[none,none,some (vs "Verdict" 444),some (vs "Verdict" 452),some (Value.builtin "object.__new__"),some (Value.bool true)] },
  cO "getset_descriptor" #[vs "__dict__" 474,rf 213,Value.builtin "function.__dict__",Value.builtin "function.__dict__#set"],
  cO "getset_descriptor" #[vs "__weakref__" 476,rf 213,Value.builtin "ExceptionGroup.__weakref__",Value.none],
  cO "super" #[rf 213,rf 213,rf 213],
  cO "builtin_function_or_method" #[Value.builtin "object.__init_subclass__",rf 213],
  tO "tuple" #[],
  { cls := Value.none,data := Data.fields #[] },
  tO "tuple" #[vs "web" 484,vs "ring" 485,vs "order" 486,vs "greatest" 487,vs "crowd" 488],
  tO "tuple" #[],
  prO (stAt 30) (Str.ofString "judged"),
  cO "code" #[vs "judged" 481,vs "judged" 482,vs "/claim/cut.py" 483,vi 151,vi 1,vi 0,vi 0,vi 3,rf 218,Value.bool true,vi 181,rf 219,Value.none,rf 220,rf 221,rf 222,vi 489,vi 151,vs "/claim/cut.py" 490],
  fnO (stAt 30) (Str.ofString "judged") (vs "shortring.verdicts" 442) 223,
  tO "tuple" #[],
  cO "builtin_function_or_method" #[Value.builtin "type.__prepare__",Value.type "type"],
  { cls := Value.type "dict",data := Data.dict #[dE P "__module__" 503 (vs "shortring.webs" 492),dE P "__qualname__" 505 (vs "Web" 504),dE P "__firstlineno__" 507 (Value.int 163 506),dE P "__init__" 516 (rf 238),dE P "need" 524 (rf 245),dE P "beside" 532 (rf 252),dE P "tied" 541 (rf 259),dE P "ties" 551 (rf 266),dE P "__static_attributes__" 554 (rf 267)] 9 },
  tO "tuple" #[],
  { cls := Value.none,data := Data.fields #[vi 165,vi 4,rf 237,vi 169,vi 4,rf 244,vi 173,vi 4,rf 251,vi 177,vi 4,rf 258,vi 182,vi 4,rf 265] },
  cO "code" #[vs "Web" 498,vs "Web" 499,vs "/claim/cut.py" 500,vi 163,vi 0,vi 0,vi 0,vi 0,rf 228,Value.bool false,vi 181,rf 229,Value.none,Value.none,Value.none,Value.none,vi 501,vi 163,vs "/claim/cut.py" 502],
  fO #[some (rf 230),some (rf 3),some (rf 227),none,some (vs "shortring.webs" 492),none,some (rf 0)],
  tO "tuple" #[],
  { cls := Value.none,data := Data.fields #[] },
  tO "tuple" #[vs "self" 511,vs "many" 512,vs "rows" 513],
  tO "tuple" #[],
  prO (stIn 33 0) (Str.ofString "Web.__init__"),
  cO "code" #[vs "__init__" 508,vs "Web.__init__" 509,vs "/claim/cut.py" 510,vi 165,vi 3,vi 0,vi 0,vi 3,rf 232,Value.bool true,vi 181,rf 233,Value.none,rf 234,rf 235,rf 236,vi 514,vi 165,vs "/claim/cut.py" 515],
  fnO (stIn 33 0) (Str.ofString "Web.__init__") (vs "shortring.webs" 492) 237,
  tO "tuple" #[],
  { cls := Value.none,data := Data.fields #[] },
  tO "tuple" #[vs "self" 520,vs "point" 521],
  tO "tuple" #[],
  prO (stIn 33 1) (Str.ofString "Web.need"),
  cO "code" #[vs "need" 517,vs "Web.need" 518,vs "/claim/cut.py" 519,vi 169,vi 2,vi 0,vi 0,vi 3,rf 239,Value.bool true,vi 181,rf 240,Value.none,rf 241,rf 242,rf 243,vi 522,vi 169,vs "/claim/cut.py" 523],
  fnO (stIn 33 1) (Str.ofString "Web.need") (vs "shortring.webs" 492) 244,
  tO "tuple" #[],
  { cls := Value.none,data := Data.fields #[] },
  tO "tuple" #[vs "self" 528,vs "point" 529],
  tO "tuple" #[],
  prO (stIn 33 2) (Str.ofString "Web.beside"),
  cO "code" #[vs "beside" 525,vs "Web.beside" 526,vs "/claim/cut.py" 527,vi 173,vi 2,vi 0,vi 0,vi 3,rf 246,Value.bool true,vi 181,rf 247,Value.none,rf 248,rf 249,rf 250,vi 530,vi 173,vs "/claim/cut.py" 531],
  fnO (stIn 33 2) (Str.ofString "Web.beside") (vs "shortring.webs" 492) 251,
  tO "tuple" #[],
  { cls := Value.none,data := Data.fields #[] },
  tO "tuple" #[vs "self" 536,vs "one" 537,vs "other" 538],
  tO "tuple" #[],
  prO (stIn 33 3) (Str.ofString "Web.tied"),
  cO "code" #[vs "tied" 533,vs "Web.tied" 534,vs "/claim/cut.py" 535,vi 177,vi 3,vi 0,vi 0,vi 3,rf 253,Value.bool true,vi 181,rf 254,Value.none,rf 255,rf 256,rf 257,vi 539,vi 177,vs "/claim/cut.py" 540],
  fnO (stIn 33 3) (Str.ofString "Web.tied") (vs "shortring.webs" 492) 258,
  tO "tuple" #[],
  { cls := Value.none,data := Data.fields #[] },
  tO "tuple" #[vs "self" 545,vs "found" 546,vs "one" 547,vs "other" 548],
  tO "tuple" #[],
  prO (stIn 33 4) (Str.ofString "Web.ties"),
  cO "code" #[vs "ties" 542,vs "Web.ties" 543,vs "/claim/cut.py" 544,vi 182,vi 1,vi 0,vi 0,vi 3,rf 260,Value.bool true,vi 181,rf 261,Value.none,rf 262,rf 263,rf 264,vi 549,vi 182,vs "/claim/cut.py" 550],
  fnO (stIn 33 4) (Str.ofString "Web.ties") (vs "shortring.webs" 492) 265,
  tO "tuple" #[vs "many" 552,vs "rows" 553],
  { cls := Value.type "dict",data := Data.dict #[dE P "__module__" 503 (vs "shortring.webs" 492),dE P "__firstlineno__" 507 (Value.int 163 506),dE P "__init__" 516 (rf 238),dE P "need" 524 (rf 245),dE P "beside" 532 (rf 252),dE P "tied" 541 (rf 259),dE P "ties" 551 (rf 266),dE P "__static_attributes__" 554 (rf 267),dE P "__dict__" 556 (rf 270),dE P "__weakref__" 558 (rf 271),dE P "__doc__" 559 (Value.none)] 4 },
  { cls := Value.type "type",data := Data.cls { name := Str.ofString "Web",bases := [Value.type "object"],mro := [rf 269,Value.type "object"],ns := 268,qualname := Str.ofString "Web" },slots := #[none,none,some (vs "Web" 496),some (vs "Web" 504),some (Value.builtin "object.__new__"),some (Value.bool true)] },
  cO "getset_descriptor" #[vs "__dict__" 555,rf 269,Value.builtin "function.__dict__",Value.builtin "function.__dict__#set"],
  cO "getset_descriptor" #[vs "__weakref__" 557,rf 269,Value.builtin "ExceptionGroup.__weakref__",Value.none],
  cO "super" #[rf 269,rf 269,rf 269],
  cO "builtin_function_or_method" #[Value.builtin "object.__init_subclass__",rf 269],
  tO "tuple" #[],
  { cls := Value.none,data := Data.fields #[] },
  prO (stAt 34) (Str.ofString "web_of"),
  cO "code" #[vs "web_of" 562,vs "web_of" 563,vs "/claim/cut.py" 564,vi 189,vi 2,vi 0,vi 0,vi 3,rf 274,Value.bool true,vi 181,rf 275,Value.none,Value.none,Value.none,rf 276,vi 565,vi 189,vs "/claim/cut.py" 566],
  fnO (stAt 34) (Str.ofString "web_of") (vs "shortring.webs" 492) 277,
  tO "tuple" #[],
  { cls := Value.none,data := Data.fields #[] },
  tO "tuple" #[vs "_law_script" 573,vs "_law_k" 574],
  tO "tuple" #[],
  prO (stAt 36) (Str.ofString "_law_cell_at"),
  cO "code" #[vs "_law_cell_at" 570,vs "_law_cell_at" 571,vs "/claim/cut.py" 572,vi 201,vi 2,vi 0,vi 0,vi 3,rf 279,Value.bool true,vi 181,rf 280,Value.none,rf 281,rf 282,rf 283,vi 575,vi 201,vs "/claim/cut.py" 576],
  fnO (stAt 36) (Str.ofString "_law_cell_at") (vs "law_uf020033_11" 568) 284,
  tO "tuple" #[],
  { cls := Value.none,data := Data.fields #[] },
  tO "tuple" #[vs "_law_found" 581],
  tO "tuple" #[],
  prO (stAt 37) (Str.ofString "_law_whole"),
  cO "code" #[vs "_law_whole" 578,vs "_law_whole" 579,vs "/claim/cut.py" 580,vi 205,vi 1,vi 0,vi 0,vi 3,rf 286,Value.bool true,vi 181,rf 287,Value.none,rf 288,rf 289,rf 290,vi 582,vi 205,vs "/claim/cut.py" 583],
  fnO (stAt 37) (Str.ofString "_law_whole") (vs "law_uf020033_11" 568) 291,
  tO "tuple" #[],
  { cls := Value.none,data := Data.fields #[] },
  tO "tuple" #[vs "_law_found" 588,vs "_law_due" 589,vs "_law_k" 590],
  tO "tuple" #[],
  prO (stAt 38) (Str.ofString "_law_numbers"),
  cO "code" #[vs "_law_numbers" 585,vs "_law_numbers" 586,vs "/claim/cut.py" 587,vi 207,vi 2,vi 0,vi 0,vi 3,rf 293,Value.bool true,vi 181,rf 294,Value.none,rf 295,rf 296,rf 297,vi 591,vi 207,vs "/claim/cut.py" 592],
  fnO (stAt 38) (Str.ofString "_law_numbers") (vs "law_uf020033_11" 568) 298,
  tO "tuple" #[],
  { cls := Value.none,data := Data.fields #[] },
  tO "tuple" #[vs "_law_cell" 597,vs "_law_k" 598],
  tO "tuple" #[],
  prO (stAt 39) (Str.ofString "_law_mixed"),
  cO "code" #[vs "_law_mixed" 594,vs "_law_mixed" 595,vs "/claim/cut.py" 596,vi 214,vi 2,vi 0,vi 0,vi 3,rf 300,Value.bool true,vi 181,rf 301,Value.none,rf 302,rf 303,rf 304,vi 599,vi 214,vs "/claim/cut.py" 600],
  fnO (stAt 39) (Str.ofString "_law_mixed") (vs "law_uf020033_11" 568) 305,
  tO "tuple" #[],
  { cls := Value.none,data := Data.fields #[] },
  tO "tuple" #[vs "_law_script" 605,vs "_law_many_here" 606,vs "_law_ring" 607,vs "_law_rows_here" 608,vs "_law_k" 609,vs "_law_cell" 610,vs "_law_row" 611,vs "_law_mate" 612,vs "_law_left" 613,vs "_law_one" 614],
  tO "tuple" #[],
  prO (stAt 40) (Str.ofString "_law_earlier"),
  cO "code" #[vs "_law_earlier" 602,vs "_law_earlier" 603,vs "/claim/cut.py" 604,vi 216,vi 3,vi 0,vi 0,vi 3,rf 307,Value.bool true,vi 181,rf 308,Value.none,rf 309,rf 310,rf 311,vi 615,vi 216,vs "/claim/cut.py" 616],
  fnO (stAt 40) (Str.ofString "_law_earlier") (vs "law_uf020033_11" 568) 312,
  tO "tuple" #[],
  { cls := Value.none,data := Data.fields #[] },
  prO (stAt 41) (Str.ofString "_law_any_rows"),
  cO "code" #[vs "_law_any_rows" 618,vs "_law_any_rows" 619,vs "/claim/cut.py" 620,vi 235,vi 2,vi 0,vi 0,vi 3,rf 314,Value.bool true,vi 181,rf 315,Value.none,Value.none,Value.none,rf 316,vi 621,vi 235,vs "/claim/cut.py" 622],
  fnO (stAt 41) (Str.ofString "_law_any_rows") (vs "law_uf020033_11" 568) 317,
  tO "tuple" #[],
  { cls := Value.none,data := Data.fields #[] },
  tO "tuple" #[vs "_law_script" 627,vs "_law_cell" 628],
  tO "tuple" #[],
  prO (stAt 42) (Str.ofString "_law_many"),
  cO "code" #[vs "_law_many" 624,vs "_law_many" 625,vs "/claim/cut.py" 626,vi 245,vi 1,vi 0,vi 0,vi 3,rf 319,Value.bool true,vi 181,rf 320,Value.none,rf 321,rf 322,rf 323,vi 629,vi 245,vs "/claim/cut.py" 630],
  fnO (stAt 42) (Str.ofString "_law_many") (vs "law_uf020033_11" 568) 324],{ }⟩,Array.mk [],{ },632,os⟩
theorem r_pre:∀ w:World,(fun os=>topGo treeTable PySem.Challenge.pw_uf020033_11 w 11 (some (Value.ref 6)) 12 ⟨boot_heap w.params,Array.mk [],boot_drawn,boot_toks,os⟩ (topStub PySem.Challenge.pw_uf020033_11)) = fun os=>some (s_a w.params os,⟨denote treeTable hC,hC,{ line := 0,col := 0,endLine := 0,endCol := 0 },hF⟩) := by
  intro w
  kernel_rfl
theorem r_blk:∀ w:World,(fun os=>segRun treeTable PySem.Challenge.pw_uf020033_11 w 11 (some (Value.ref 6)) 1 1 (s_a w.params os) (blockOf hB hEnv hC { line := 0,col := 0,endLine := 0,endCol := 0 } hF)) = fun os=>some (Flow.next,s_b w.params os,hC,{ line := 0,col := 0,endLine := 0,endCol := 0 }) := by
  intro w
  kernel_rfl
theorem piece_cut {p:Program} {w:World} {n₀:Nat} {ann:Option Value} {env:Env} {q:Pos} (k:Nat) {n N:Nat} {s s' r:Shared} {b:List Stmt} {c:Code} {pos p':Pos} (h:segRun treeTable p w n₀ ann 1 n s (piecesOf (b.take k) env c pos [topFrame q]) = some (.next,s',c,p'))
    (t:topRun treeTable p w n₀ ann N s' (restOf (b.drop k) env c p' [topFrame q]) = some r):topRun treeTable p w n₀ ann (n + N) s (restOf b env c pos [topFrame q]) = some r := by
  have := piece_app h t
  rwa [List.take_append_drop] at this
theorem r_m27:∀ w:World,(fun os=>segRun treeTable PySem.Challenge.pw_uf020033_11 w 11 (some (Value.ref 6)) 1 1678 (s_b w.params os) (piecesOf ((hB).take 28) hEnv hC { line := 0,col := 0,endLine := 0,endCol := 0 } hF)) = fun os=>some (Flow.next,s_m27 w.params os,hC,{ line := 136,col := 0,endLine := 141,endCol := 15 }) := by
  intro w
  kernel_rfl
theorem r_m42:∀ w:World,(fun os=>segRun treeTable PySem.Challenge.pw_uf020033_11 w 11 (some (Value.ref 6)) 1 914 (s_m27 w.params os) (piecesOf (((hB).drop 28).take 15) hEnv hC { line := 136,col := 0,endLine := 141,endCol := 15 } hF)) = fun os=>some (Flow.next,s_m42 w.params os,hC,{ line := 245,col := 0,endLine := 251,endCol := 24 }) := by
  intro w
  kernel_rfl
theorem r_end:∀ w:World,(fun os=>(topRun treeTable PySem.Challenge.pw_uf020033_11 w 11 (some (Value.ref 6)) 520 (s_m42 w.params os) (restOf (((hB).drop 28).drop 15) hEnv hC { line := 245,col := 0,endLine := 251,endCol := 24 } hF)).map (fun s=>(staticsOk (importedModules PySem.Challenge.pw_uf020033_11.main.body) (boot_heap w.params) s.heap && namesBound PySem.Challenge.pw_uf020033_11 s.heap && gensDone s && laidKept (boot_heap w.params) s.heap,openSeen kq [] (importedModules PySem.Challenge.pw_uf020033_11.main.body) (fun s=>xlAt kq [] s && recOk (RowW.records PySem.Challenge.rw_uf020033_11.row.toRowW) s) true s,Hook.obs kH s))) = fun os=>some (true,openGood kq [],Hook.val kH w) := by
  intro w
  kernel_rfl
theorem left_cut {p q:Program} {loose:List Str} {Xt:Shared → Bool} {α:Type} {Yf:Shared → α} {Ya:World → α} {N:Nat} {H₀:Params → Heap} {gs₀:Array GenState} {d₀:Drawn} {k₀:Nat} {m₀:Nat} {ann:Option Value} {M:Nat}
    (op:∀ w:World,(fencedOpening treeTable p w N).map (fun s=>(s.heap,s.gens,s.drawn,s.toks)) = some (H₀ w.params,gs₀,d₀,k₀))
    (size:∀ w:World,((H₀ w.params).isNs mainGlobals && gs₀.size == 0,(H₀ w.params).objs.size,(H₀ w.params).nsMap mainGlobals "__annotations__") = (true,m₀,ann))
    (run:∀ (w:World) (os:OsState),∃ r,topRun treeTable p w m₀ ann M ⟨H₀ w.params,gs₀,d₀,k₀,os⟩ (topStub p) = some r ∧ (staticsOk (importedModules p.main.body) (H₀ w.params) r.heap && namesBound p r.heap && gensDone r && laidKept (H₀ w.params) r.heap) = true ∧ openSeen q loose (importedModules p.main.body) Xt true r = openGood q loose ∧ Yf r = Ya w)
    (le:Nat.ble M N = true):LeftO p q loose Xt Yf Ya N := fun w=>by
  obtain ⟨⟨h,gs,d,k,os⟩,e,e'⟩ := Option.map_eq_some_iff.mp (op w)
  obtain ⟨rfl,rfl,rfl,rfl⟩:h = H₀ w.params ∧ gs = gs₀ ∧ d = d₀ ∧ k = k₀ := by simpa using e'
  obtain ⟨z1,z2,z3⟩:_ ∧ _ ∧ _ := by simpa only [Prod.mk.injEq] using size w
  obtain ⟨r,hr,l1,l2,l3⟩ := run w os
  have r' := topRun_mono (N - M) _ _ _ _ hr
  rw [show M + (N - M) = N by have := Nat.le_of_ble_eq_true le; omega] at r'
  have t:topFrom treeTable p w N ⟨H₀ w.params,gs,d,k,os⟩ = some r := by
    unfold topFrom
    dsimp only
    rw [z1,z2,z3,r']
    show (match staticsOk (importedModules p.main.body) (H₀ w.params) r.heap && namesBound p r.heap && gensDone r && laidKept (H₀ w.params) r.heap with | true=>_ | false=>_) = _
    rw [l1]
  unfold openEnds
  rw [e]
  show (topFrom treeTable p w N _).map _ = _
  rw [t]
  exact congrArg some (Prod.ext l2 l3)
theorem b_e:opening PySem.Challenge.pw_uf020033_11 = plainProg PySem.Challenge.pw_uf020033_11.main.scope.names := by kernel_rfl
theorem b_f (s:Shared):fenceModules? PySem.Challenge.pw_uf020033_11 s = some s := by kernel_rfl
theorem b_size (w:World):((boot_heap w.params).isNs mainGlobals && (Array.mk ([]:List GenState)).size == 0,(boot_heap w.params).objs.size,(boot_heap w.params).nsMap mainGlobals "__annotations__") = (true,11,some (Value.ref 6)) := by kernel_rfl
theorem left:LeftO PySem.Challenge.pw_uf020033_11 kq [] (fun s=>xlAt kq [] s && recOk (RowW.records PySem.Challenge.rw_uf020033_11.row.toRowW) s) (Hook.obs kH) (Hook.val kH) 6110 :=
  left_cut (M := 12 + (1 + (1678 + (914 + (520))))) (boot_open b_e (by decide) b_f) b_size (fun w os=>by
    obtain ⟨r,hr,ho⟩ := Option.map_eq_some_iff.mp (congrFun (r_end w) os)
    obtain ⟨o1,ho⟩ := Prod.mk.inj ho
    obtain ⟨o2,o3⟩ := Prod.mk.inj ho
    exact ⟨r,go_top (congrFun (r_pre w) os) (piece_block (congrFun (r_blk w) os) (piece_cut 28 (congrFun (r_m27 w) os) (piece_cut 15 (congrFun (r_m42 w) os) (hr)))),o1,o2,o3⟩) (by decide)
end Mine.Cl
namespace Mine
open PySem
theorem by_c {p:Prop} (h:¬p → False):p := Classical.byContradiction h
inductive Ex1 {α0:Type} (p:α0 → Prop):Prop
  | mk (x0:α0) (h:p x0)
inductive Ex2 {α0 α1:Type} (p:α0 → α1 → Prop):Prop
  | mk (x0:α0) (x1:α1) (h:p x0 x1)
inductive Ex3 {α0 α1 α2:Type} (p:α0 → α1 → α2 → Prop):Prop
  | mk (x0:α0) (x1:α1) (x2:α2) (h:p x0 x1 x2)
inductive Ex4 {α0 α1 α2 α3:Type} (p:α0 → α1 → α2 → α3 → Prop):Prop
  | mk (x0:α0) (x1:α1) (x2:α2) (x3:α3) (h:p x0 x1 x2 x3)
inductive Ex5 {α0 α1 α2 α3 α4:Type} (p:α0 → α1 → α2 → α3 → α4 → Prop):Prop
  | mk (x0:α0) (x1:α1) (x2:α2) (x3:α3) (x4:α4) (h:p x0 x1 x2 x3 x4)
inductive Ex6 {α0 α1 α2 α3 α4 α5:Type} (p:α0 → α1 → α2 → α3 → α4 → α5 → Prop):Prop
  | mk (x0:α0) (x1:α1) (x2:α2) (x3:α3) (x4:α4) (x5:α5) (h:p x0 x1 x2 x3 x4 x5)
inductive Ex8 {α0 α1 α2 α3 α4 α5 α6 α7:Type} (p:α0 → α1 → α2 → α3 → α4 → α5 → α6 → α7 → Prop):Prop
  | mk (x0:α0) (x1:α1) (x2:α2) (x3:α3) (x4:α4) (x5:α5) (x6:α6) (x7:α7) (h:p x0 x1 x2 x3 x4 x5 x6 x7)
inductive An3 (a0 a1 a2:Prop):Prop
  | mk (h0:a0) (h1:a1) (h2:a2)
inductive An4 (a0 a1 a2 a3:Prop):Prop
  | mk (h0:a0) (h1:a1) (h2:a2) (h3:a3)
inductive An5 (a0 a1 a2 a3 a4:Prop):Prop
  | mk (h0:a0) (h1:a1) (h2:a2) (h3:a3) (h4:a4)
inductive An6 (a0 a1 a2 a3 a4 a5:Prop):Prop
  | mk (h0:a0) (h1:a1) (h2:a2) (h3:a3) (h4:a4) (h5:a5)
inductive An7 (a0 a1 a2 a3 a4 a5 a6:Prop):Prop
  | mk (h0:a0) (h1:a1) (h2:a2) (h3:a3) (h4:a4) (h5:a5) (h6:a6)
inductive An8 (a0 a1 a2 a3 a4 a5 a6 a7:Prop):Prop
  | mk (h0:a0) (h1:a1) (h2:a2) (h3:a3) (h4:a4) (h5:a5) (h6:a6) (h7:a7)
inductive An13 (a0 a1 a2 a3 a4 a5 a6 a7 a8 a9 a10 a11 a12:Prop):Prop
  | mk (h0:a0) (h1:a1) (h2:a2) (h3:a3) (h4:a4) (h5:a5) (h6:a6) (h7:a7) (h8:a8) (h9:a9) (h10:a10) (h11:a11) (h12:a12)
inductive V where
  | none | bool (b:Bool) | int (i:Int) | str (s:Str) | ref (a:Nat) | fn (f:Str) | script (ns:List Int)
inductive Cls where
  | web | verdict | webError | badWeb | noPoint | badText | badOrder | hasGap
  deriving DecidableEq
inductive Att where
  | many | rows | order | ring | crowd | colours
  deriving DecidableEq
inductive Ty where
  | int | bool | list | tuple | str
  deriving DecidableEq
inductive BI where
  | len | list | listRange | sorted | max | min | minL | all | any | lenSet | sortedSet | isinst (t:Ty) | str | int
  deriving DecidableEq
inductive LM where
  | append | clear | count | extend | index | remove | reverse | setdefault | split | join
  deriving DecidableEq
inductive O where
  | list (xs:List V) | tuple (xs:List V) | dict (es:List (Int × V)) | inst (c:Cls) (d:Nat) | ns (fs:List (Att × V)) | exc (c:Cls)
noncomputable abbrev AH := Nat → Option O
noncomputable def upd (h:AH) (a:Nat) (o:O):AH := fun b=>if b = a then some o else h b
noncomputable abbrev Loc := List (Option V)
set_option genCtorIdx false in
inductive X where
  | omit
  | cnone | cbool (b:Bool) | cint (i:Int) | cstr (s:Str)
  | var (i:Nat)
  | glob (g:Str)
  | fnv (f:Str)
  | not (e:X) | neg (e:X)
  | and (l r:X) | or (l r:X)
  | bin (op:Operator) (l r:X)
  | cmp (op:CmpOp) (l r:X)
  | chain (l:X) (op1:CmpOp) (m:X) (op2:CmpOp) (r:X)
  | ite (t a b:X)
  | call (f:Str) (args:List X)
  | callv (f:X) (args:List X)
  | mk (c:Cls) (args:List X)
  | meth (m:Str) (o:X) (args:List X)
  | bi (b:BI) (args:List X)
  | isVE (e:X)
  | lm (m:LM) (o:X) (args:List X)
  | attr (o:X) (a:Att)
  | sub (o i:X)
  | slice (o l u s:X)
  | list (es:List X) | tuple (es:List X) | dict (ks vs:List X)
  | range (args:List X) | enum (e:X) | rev (e:X) | val (e:X)
  | comp (k:Nat) (src elt:X)
  | compIf (k:Nat) (src cond elt:X)
set_option genCtorIdx false in
inductive Tgt where
  | one (i:Nat) | two (i j:Nat)
set_option genCtorIdx false in
inductive S where
  | assign (i:Nat) (e:X)
  | setattr (o:X) (a:Att) (e:X)
  | setitem (o i e:X)
  | expr (e:X)
  | ite (t:X) (a b:List S)
  | for (t:Tgt) (src:X) (body:List S)
  | while (t:X) (body:List S)
  | ret (e:X)
  | pass
  | raise (c:Cls)
  | try1 (body:List S) (c:Cls) (as:Option Nat) (h:List S)
  | try2 (body:List S) (c:Cls) (as:Option Nat) (h:List S) (c':Cls) (h':List S)
set_option genCtorIdx false in
structure Fn where
  slots:Nat
  arity:Nat
  body:List S
set_option genCtorIdx false in
structure GEnv where
  fn:Str → Option Fn
  const:Str → Option V
  exc:Cls → Bool
noncomputable abbrev Post := V → AH → Prop
noncomputable abbrev EP := V → AH → Prop
noncomputable abbrev EF:EP := fun _ _=>False
noncomputable abbrev CS := Str → List V → AH → Post → EP → Prop
noncomputable def big:Nat := 1048576
noncomputable def alloc (o:O) (H:AH) (Q:Post):Prop := ∀ a,H a = none → Q (.ref a) (upd H a o)
noncomputable def ints?:List V → Option (List Int)
  | []=>some []
  | .int i :: r=>(ints? r).map (i :: ·)
  | _=>none
noncomputable def bools?:List V → Option (List Bool)
  | []=>some []
  | .bool b :: r=>(bools? r).map (b :: ·)
  | _=>none
noncomputable def insI (x:Int):List Int → List Int
  | []=>[x]
  | y :: r=>if x ≤ y then x :: y :: r else y :: insI x r
noncomputable def sortI:List Int → List Int
  | []=>[]
  | x :: r=>insI x (sortI r)
noncomputable def dedupI (l:List Int):List Int := l.foldl (fun d k=>if d.any (· == k) then d else d ++ [k]) []
noncomputable def place (k:Int) (n:Nat):Option Nat :=
  if 0 ≤ k then (if k < n then some k.toNat else none) else (if 0 ≤ k + n then some (k + n).toNat else none)
noncomputable def clamp (k:Int) (n:Nat):Nat := if k < 0 then (k + n).toNat else min k.toNat n
noncomputable def dget (es:List (Int × V)) (k:Int):Option V := es.lookup k
noncomputable def dput (es:List (Int × V)) (k:Int) (v:V):List (Int × V) :=
  match es with
  | []=>[(k,v)]
  | (k',v') :: r=>if k = k' then (k,v) :: r else (k',v') :: dput r k v
noncomputable def aget (fs:List (Att × V)) (a:Att):Option V := fs.lookup a
noncomputable def aput (fs:List (Att × V)) (k:Att) (v:V):List (Att × V) :=
  match fs with
  | []=>[(k,v)]
  | (k',v') :: r=>if k = k' then (k,v) :: r else (k',v') :: aput r k v
noncomputable def eqB:V → V → Option Bool
  | .int i,.int j=>some (decide (i = j))
  | .bool a,.bool b=>some (a == b)
  | .none,.none=>some true
  | .none,.int _=>some false
  | .int _,.none=>some false
  | .none,.bool _=>some false
  | .bool _,.none=>some false
  | .str x,.str y=>some (decide (x = y))
  | _,_=>none
noncomputable def allO:List (Option Bool) → Option Bool
  | []=>some true
  | none :: _=>none
  | some r :: t=>(allO t).map (r && ·)
noncomputable def anyO:List (Option Bool) → Option Bool
  | []=>some false
  | none :: _=>none
  | some r :: t=>(anyO t).map (r || ·)
noncomputable def eqD:Nat → AH → V → V → Option Bool
  | 0,_,a,b=>eqB a b
  | n + 1,H,a,b=>match a,b with
    | .ref x,.ref y=>(match H x,H y with
      | some (.list xs),some (.list ys)=>if xs.length = ys.length then allO (List.zipWith (eqD n H) xs ys) else some false
      | some (.tuple xs),some (.tuple ys)=>if xs.length = ys.length then allO (List.zipWith (eqD n H) xs ys) else none
      | _,_=>none)
    | .ref x,.none=>(match H x with | some (.list _)=>some false | some (.tuple _)=>some false | _=>none)
    | .none,.ref x=>(match H x with | some (.list _)=>some false | some (.tuple _)=>some false | _=>none)
    | a,b=>eqB a b
noncomputable def memD (v:V) (xs:List V):Option Bool := anyO (xs.map fun x=>eqB x v)
noncomputable def depthEq:Nat := 5
noncomputable def ltOp (a b:V) (H:AH) (Q:Post):Prop := match a,b with
  | .int i,.int j=>Q (.bool (decide (i < j))) H
  | _,_=>False
noncomputable def leOp (a b:V) (H:AH) (Q:Post):Prop := match a,b with
  | .int i,.int j=>Q (.bool (decide (i ≤ j))) H
  | _,_=>False
noncomputable def gtOp (a b:V) (H:AH) (Q:Post):Prop := match a,b with
  | .int i,.int j=>Q (.bool (decide (j < i))) H
  | _,_=>False
noncomputable def geOp (a b:V) (H:AH) (Q:Post):Prop := match a,b with
  | .int i,.int j=>Q (.bool (decide (j ≤ i))) H
  | _,_=>False
noncomputable def isB:V → V → Option Bool
  | .none,.none=>some true
  | .bool x,.bool y=>some (x == y)
  | .ref _,.none=>some false
  | .int _,.none=>some false
  | .bool _,.none=>some false
  | .str _,.none=>some false
  | _,_=>none
noncomputable def isOp (a b:V) (H:AH) (Q:Post):Prop := match isB a b with | some r=>Q (.bool r) H | none=>False
noncomputable def isNOp (a b:V) (H:AH) (Q:Post):Prop := match isB a b with | some r=>Q (.bool (!r)) H | none=>False
noncomputable def inOp (v b:V) (H:AH) (Q:Post):Prop := match b with
  | .ref a=>(match H a with
    | some (.list xs)=>(match memD v xs with | some r=>Q (.bool r) H | none=>False)
    | some (.tuple xs)=>(match memD v xs with | some r=>Q (.bool r) H | none=>False)
    | some (.dict es)=>(match v with | .int k=>Q (.bool (dget es k).isSome) H | _=>False)
    | _=>False)
  | _=>False
noncomputable def cmpOp (op:CmpOp) (a b:V) (H:AH) (Q:Post):Prop :=
  match op with
  | .Lt=>ltOp a b H Q
  | .LtE=>leOp a b H Q
  | .Gt=>gtOp a b H Q
  | .GtE=>geOp a b H Q
  | .Eq=>(match eqD depthEq H a b with | some r=>Q (.bool r) H | none=>False)
  | .NotEq=>(match eqD depthEq H a b with | some r=>Q (.bool (!r)) H | none=>False)
  | .Is=>isOp a b H Q
  | .IsNot=>isNOp a b H Q
  | .In=>inOp a b H Q
  | .NotIn=>inOp a b H (fun v H=>match v with | .bool r=>Q (.bool (!r)) H | _=>False)
noncomputable def addOp (a b:V) (H:AH) (Q:Post):Prop := match a,b with
  | .int i,.int j=>Q (.int (i + j)) H
  | .ref a,.ref b=>(match H a,H b with
    | some (.list xs),some (.list ys)=>xs.length + ys.length ≤ big ∧ alloc (.list (xs ++ ys)) H Q
    | _,_=>False)
  | _,_=>False
noncomputable def mulOp (a b:V) (H:AH) (Q:Post):Prop := match a,b with
  | .int i,.int j=>(i.natAbs < 2 ^ 64 ∨ j.natAbs < 2 ^ 64) ∧ Q (.int (i * j)) H
  | .ref a,.int k=>(match H a with
    | some (.list xs)=>(0 ≤ k ∧ k ≤ 1000 ∧ xs.length * k.toNat ≤ big) ∧ alloc (.list (List.replicate k.toNat xs).flatten) H Q
    | _=>False)
  | _,_=>False
noncomputable def subtOp (a b:V) (H:AH) (Q:Post):Prop := match a,b with
  | .int i,.int j=>Q (.int (i - j)) H
  | _,_=>False
noncomputable def fdivOp (a b:V) (H:AH) (Q:Post):Prop := match a,b with
  | .int i,.int j=>(j ≠ 0 ∧ j.natAbs ≤ 10 ^ 30) ∧ Q (.int (i.fdiv j)) H
  | _,_=>False
noncomputable def fmodOp (a b:V) (H:AH) (Q:Post):Prop := match a,b with
  | .int i,.int j=>(j ≠ 0 ∧ j.natAbs ≤ 10 ^ 30) ∧ Q (.int (i.fmod j)) H
  | _,_=>False
noncomputable def binOp (op:Operator) (a b:V) (H:AH) (Q:Post):Prop :=
  match op with
  | .Add=>addOp a b H Q
  | .Sub=>subtOp a b H Q
  | .Mult=>mulOp a b H Q
  | .FloorDiv=>fdivOp a b H Q
  | .Mod=>fmodOp a b H Q
  | _=>False
noncomputable def subOp (o i:V) (H:AH) (Q:Post):Prop :=
  match o,i with
  | .ref a,.int k=>(match H a with
    | some (.list xs)=>(match place k xs.length with | some j=>(match xs[j]? with | some v=>Q v H | none=>False) | none=>False)
    | some (.tuple xs)=>(match place k xs.length with | some j=>(match xs[j]? with | some v=>Q v H | none=>False) | none=>False)
    | some (.dict es)=>(match dget es k with | some v=>Q v H | none=>False)
    | _=>False)
  | .script ns,.int k=>(match place k ns.length with | some j=>(match ns[j]? with | some i=>Q (.int i) H | none=>False) | none=>False)
  | _,_=>False
noncomputable def bound?:V → Option (Option Int)
  | .none=>some none
  | .int k=>some (some k)
  | _=>none
noncomputable def cut (xs:List V) (l u:Option Int):List V :=
  ((xs.take (match u with | some k=>clamp k xs.length | none=>xs.length)).drop (match l with | some k=>clamp k xs.length | none=>0))
noncomputable def sliceOp (o l u s:V) (H:AH) (Q:Post):Prop :=
  match o,bound? l,bound? u,s with
  | .ref a,some l',some u',.none=>(match H a with
    | some (.list xs)=>alloc (.list (cut xs l' u')) H Q
    | _=>False)
  | _,_,_,_=>False
noncomputable def isInstO (o:O) (t:Ty):Option Bool := match o with
  | .list _=>(match t with | .list=>some true | _=>some false)
  | .tuple _=>(match t with | .tuple=>some true | _=>some false)
  | .exc _=>none
  | .dict _=>none
  | .inst _ _=>none
  | .ns _=>none
noncomputable def isInst (t:Ty) (v:V) (H:AH):Option Bool :=
  match v with
  | .ref a=>(match H a with | some o=>isInstO o t | none=>none)
  | .int _=>(match t with | .int=>some true | _=>some false)
  | .bool _=>(match t with | .int=>some true | .bool=>some true | _=>some false)
  | .str _=>(match t with | .str=>some true | _=>some false)
  | .none=>some false
  | .fn _=>none
  | .script _=>none
noncomputable def plainTy (_:Ty):Bool := true
noncomputable def lenOp (args:List V) (H:AH) (Q:Post):Prop := match args with
  | [.script ns]=>Q (.int ns.length) H
  | [.ref a]=>(match H a with
    | some (.list xs)=>Q (.int xs.length) H
    | some (.tuple xs)=>Q (.int xs.length) H
    | some (.dict es)=>Q (.int es.length) H
    | _=>False)
  | _=>False
noncomputable def listOp (args:List V) (H:AH) (Q:Post):Prop := match args with
  | [.ref a]=>(match H a with
    | some (.list xs)=>alloc (.list xs) H Q
    | some (.tuple xs)=>alloc (.list xs) H Q
    | _=>False)
  | _=>False
noncomputable def lrOp (args:List V) (H:AH) (Q:Post):Prop := match args with
  | [.int n]=>(-big ≤ n ∧ n ≤ big) ∧ alloc (.list ((List.range n.toNat).map fun (i:Nat)=>V.int i)) H Q
  | [.int m,.int n]=>(0 ≤ m ∧ m ≤ big ∧ -big ≤ n ∧ n ≤ big) ∧ alloc (.list ((List.range (n - m).toNat).map fun (i:Nat)=>V.int (m + i))) H Q
  | _=>False
noncomputable def isPr (H:AH):V → Bool
  | .ref t=>(match H t with | some (.tuple [.int _,.int _])=>true | _=>false)
  | _=>false
noncomputable def sortTOp (xs:List V) (H:AH) (Q:Post):Prop := xs.length < 64 ∧ xs.all (isPr H) = true ∧ ∀ xs':List V,xs'.Perm xs → alloc (.list xs') H Q
noncomputable def sortOp (args:List V) (H:AH) (Q:Post):Prop := match args with
  | [.ref a]=>(match H a with
    | some (.list xs)=>(match ints? xs with | some ns=>ns.length < 64 ∧ alloc (.list ((sortI ns).map V.int)) H Q | none=>sortTOp xs H Q)
    | some (.dict es)=>es.length < 64 ∧ alloc (.list ((sortI (es.map (·.1))).map V.int)) H Q
    | _=>False)
  | _=>False
noncomputable def maxOp (args:List V) (H:AH) (Q:Post):Prop := match args with
  | [.int i,.int j]=>Q (.int (max i j)) H
  | _=>False
noncomputable def minOp (args:List V) (H:AH) (Q:Post):Prop := match args with
  | [.int i,.int j]=>Q (.int (min i j)) H
  | _=>False
noncomputable def allOp (args:List V) (H:AH) (Q:Post):Prop := match args with
  | [.ref a]=>(match H a with
    | some (.list xs)=>(match bools? xs with | some bs=>Q (.bool (bs.all id)) H | none=>False)
    | _=>False)
  | _=>False
noncomputable def anyOp (args:List V) (H:AH) (Q:Post):Prop := match args with
  | [.ref a]=>(match H a with
    | some (.list xs)=>(match bools? xs with | some bs=>Q (.bool (bs.any id)) H | none=>False)
    | _=>False)
  | _=>False
noncomputable def ssOp (args:List V) (H:AH) (Q:Post):Prop := match args with
  | [.ref a]=>(match H a with
    | some (.list xs)=>(match ints? xs with | some ns=>ns.length ≤ 4000 ∧ (∀ k ∈ ns,0 ≤ k ∧ k < 60) ∧ alloc (.list ((sortI (dedupI ns)).map V.int)) H Q | none=>False)
    | _=>False)
  | _=>False
noncomputable def iiOp (t:Ty) (args:List V) (H:AH) (Q:Post):Prop := match args with
  | [v]=>plainTy t = true ∧ (match isInst t v H with | some r=>Q (.bool r) H | none=>False)
  | _=>False
noncomputable def biOp (b:BI) (args:List V) (H:AH) (Q:Post):Prop :=
  match b with
  | .len=>lenOp args H Q
  | .list=>listOp args H Q
  | .listRange=>lrOp args H Q
  | .sorted=>sortOp args H Q
  | .max=>maxOp args H Q
  | .min=>minOp args H Q
  | .minL=>False
  | .all=>allOp args H Q
  | .any=>anyOp args H Q
  | .lenSet=>False
  | .sortedSet=>ssOp args H Q
  | .isinst t=>iiOp t args H Q
  | .str=>False
  | .int=>False
noncomputable def appendM (o:V) (args:List V) (H:AH) (Q:Post):Prop := match o,args with
  | .ref a,[v]=>(match H a with
    | some (.list xs)=>xs.length < big ∧ Q .none (upd H a (.list (xs ++ [v])))
    | _=>False)
  | _,_=>False
noncomputable def clearM (o:V) (args:List V) (H:AH) (Q:Post):Prop := match o,args with
  | .ref a,[]=>(match H a with
    | some (.list _)=>Q .none (upd H a (.list []))
    | _=>False)
  | _,_=>False
noncomputable def extendM (o:V) (args:List V) (H:AH) (Q:Post):Prop := match o,args with
  | .ref a,[.ref b]=>(match H a,H b with
    | some (.list xs),some (.list ys)=>(a ≠ b ∧ xs.length + ys.length ≤ big) ∧ Q .none (upd H a (.list (xs ++ ys)))
    | _,_=>False)
  | _,_=>False
noncomputable def indexM (o:V) (args:List V) (H:AH) (Q:Post):Prop := match o,args with
  | .ref a,[.int k]=>(match H a with
    | some (.list xs)=>(match ints? xs with | some ns=>k ∈ ns ∧ Q (.int (ns.idxOf k)) H | none=>False)
    | _=>False)
  | _,_=>False
noncomputable def removeM (o:V) (args:List V) (H:AH) (Q:Post):Prop := match o,args with
  | .ref a,[.int k]=>(match H a with
    | some (.list xs)=>(match ints? xs with | some ns=>k ∈ ns ∧ Q .none (upd H a (.list ((ns.erase k).map V.int))) | none=>False)
    | _=>False)
  | _,_=>False
noncomputable def lmOp (m:LM) (o:V) (args:List V) (H:AH) (Q:Post):Prop :=
  match m with
  | .append=>appendM o args H Q
  | .clear=>clearM o args H Q
  | .count=>False
  | .extend=>extendM o args H Q
  | .index=>indexM o args H Q
  | .remove=>removeM o args H Q
  | .reverse=>False
  | .setdefault=>False
  | .split=>False
  | .join=>False
noncomputable def lmKind (m:LM) (o:V) (H:AH):Prop :=
  match o with
  | .ref a=>(match H a,m with
    | some (.list _),.setdefault=>False
    | some (.list _),.split=>False
    | some (.list _),.join=>False
    | some (.list _),_=>True
    | some (.dict _),.setdefault=>True
    | _,_=>False)
  | _=>False
noncomputable def setAttr (o:V) (t:Att) (v:V) (H:AH) (N:AH → Prop):Prop :=
  match o with
  | .ref a=>(match H a with
    | some (.inst _ d)=>(match H d with
      | some (.ns fs)=>fs.length < 10 ∧ N (upd H d (.ns (aput fs t v)))
      | _=>False)
    | _=>False)
  | _=>False
noncomputable def getAttr (o:V) (t:Att) (H:AH) (Q:Post):Prop :=
  match o with
  | .ref a=>(match H a with
    | some (.inst _ d)=>(match H d with
      | some (.ns fs)=>(match aget fs t with | some v=>Q v H | none=>False)
      | _=>False)
    | _=>False)
  | _=>False
noncomputable def setItem (o i v:V) (H:AH) (N:AH → Prop):Prop :=
  match o,i with
  | .ref a,.int k=>(match H a with
    | some (.list xs)=>(match place k xs.length with | some j=>N (upd H a (.list (xs.set j v))) | none=>False)
    | some (.dict es)=>es.length < big ∧ N (upd H a (.dict (dput es k v)))
    | _=>False)
  | _,_=>False
set_option genCtorIdx false in
inductive It where
  | v (x:V) | pair (a b:V)
noncomputable def srcOf (v:V) (H:AH) (K:List It → (AH → Prop) → AH → Prop):Prop :=
  match v with
  | .ref a=>(match H a with
    | some (.list xs)=>K (xs.map .v) (fun H'=>H' a = some (.list xs)) H
    | _=>False)
  | _=>False
noncomputable def enumOf (v:V) (H:AH) (K:List It → (AH → Prop) → AH → Prop):Prop :=
  match v with
  | .ref a=>(match H a with
    | some (.list xs)=>K (xs.mapIdx fun i x=>.pair (.int i) x) (fun H'=>H' a = some (.list xs)) H
    | _=>False)
  | _=>False
noncomputable def revOf (v:V) (H:AH) (K:List It → (AH → Prop) → AH → Prop):Prop :=
  match v with
  | .ref a=>(match H a with
    | some (.list xs)=>K (xs.reverse.map .v) (fun H'=>H' a = some (.list xs)) H
    | _=>False)
  | _=>False
noncomputable def rangeOf (vs:List V) (H:AH) (K:List It → (AH → Prop) → AH → Prop):Prop :=
  match vs with
  | [.int n]=>(-big ≤ n ∧ n ≤ big) ∧ K ((List.range n.toNat).map fun (i:Nat)=>.v (.int i)) (fun _=>True) H
  | [.int m,.int n]=>(0 ≤ m ∧ m ≤ big ∧ -big ≤ n ∧ n ≤ big) ∧ K ((List.range (n - m).toNat).map fun (i:Nat)=>.v (.int (m + i))) (fun _=>True) H
  | _=>False
noncomputable def bindT (t:Tgt) (i:It) (ρ:Loc) (H:AH) (N:Loc → Prop):Prop :=
  match t,i with
  | .one k,.v x=>N (ρ.set k (some x))
  | .two k l,.pair a b=>N ((ρ.set k (some a)).set l (some b))
  | .two k l,.v (.ref a)=>(match H a with
    | some (.tuple [x,y])=>N ((ρ.set k (some x)).set l (some y))
    | _=>False)
  | _,_=>False
noncomputable def loop (g:AH → Prop) (t:Tgt) (body:Loc → AH → (Loc → AH → Prop) → Prop) (N:Loc → AH → Prop):List It → Loc → AH → Prop
  | [],ρ,H=>g H ∧ N ρ H
  | i :: r,ρ,H=>g H ∧ bindT t i ρ H fun ρ'=>body ρ' H fun ρ'' H''=>loop g t body N r ρ'' H''
noncomputable def gather (g:AH → Prop) (t:Tgt) (elt:Loc → AH → (Option V → AH → Prop) → Prop) (Q:List V → AH → Prop):List It → List V → Loc → AH → Prop
  | [],acc,_,H=>g H ∧ Q acc H
  | i :: r,acc,ρ,H=>g H ∧ bindT t i ρ H fun ρ'=>elt ρ' H fun o H''=>gather g t elt Q r (match o with | some v=>acc ++ [v] | none=>acc) ρ' H''
noncomputable def truthy (v:V) (Q:Bool → Prop):Prop := match v with | .bool b=>Q b | _=>False
noncomputable def initOf:Cls → Str
  | .web=>"Web.__init__"
  | _=>"Verdict.__init__"
noncomputable def tgtOf (k:Nat):Tgt := if k = 1 then .one 0 else .two 0 1
mutual
noncomputable def wpE (G:GEnv) (C:CS):X → Loc → AH → Post → EP → Prop
  | .omit,_,H,Q,_=>Q .none H
  | .cnone,_,H,Q,_=>Q .none H
  | .cbool b,_,H,Q,_=>Q (.bool b) H
  | .cint i,_,H,Q,_=>Q (.int i) H
  | .cstr s,_,H,Q,_=>Q (.str s) H
  | .var i,ρ,H,Q,_=>(match ρ[i]? with | some (some v)=>Q v H | _=>False)
  | .glob g,_,H,Q,_=>(match G.const g with | some v=>Q v H | none=>False)
  | .fnv f,_,H,Q,_=>(G.fn f).isSome = true ∧ Q (.fn f) H
  | .not e,ρ,H,Q,E=>wpE G C e ρ H (fun v H=>truthy v fun b=>Q (.bool (!b)) H) E
  | .neg e,ρ,H,Q,E=>wpE G C e ρ H (fun v H=>match v with | .int i=>Q (.int (-i)) H | _=>False) E
  | .and l r,ρ,H,Q,E=>wpE G C l ρ H (fun v H=>truthy v fun b=>if b then wpE G C r ρ H Q E else Q (.bool false) H) E
  | .or l r,ρ,H,Q,E=>wpE G C l ρ H (fun v H=>truthy v fun b=>if b then Q (.bool true) H else wpE G C r ρ H Q E) E
  | .bin op l r,ρ,H,Q,E=>wpE G C l ρ H (fun a H=>wpE G C r ρ H (fun b H=>binOp op a b H Q) E) E
  | .cmp op l r,ρ,H,Q,E=>wpE G C l ρ H (fun a H=>wpE G C r ρ H (fun b H=>cmpOp op a b H Q) E) E
  | .chain l o1 m o2 r,ρ,H,Q,E=>wpE G C l ρ H (fun a H=>wpE G C m ρ H (fun b H=>cmpOp o1 a b H fun c H=>truthy c fun t =>
      if t then wpE G C r ρ H (fun d H=>cmpOp o2 b d H Q) E else Q (.bool false) H) E) E
  | .ite t a b,ρ,H,Q,E=>wpE G C t ρ H (fun v H=>truthy v fun c=>if c then wpE G C a ρ H Q E else wpE G C b ρ H Q E) E
  | .call f args,ρ,H,Q,E=>(G.fn f).isSome = true ∧ wpEs G C args ρ H (fun vs H=>C f vs H Q E) E
  | .callv f args,ρ,H,Q,E=>wpE G C f ρ H (fun v H=>match v with | .fn g=>wpEs G C args ρ H (fun vs H=>C g vs H Q E) E | _=>False) E
  | .mk c args,ρ,H,Q,E=>(G.fn (initOf c)).isSome = true ∧ wpEs G C args ρ H (fun vs H=>∀ a d,H a = none → H d = none → a ≠ d →
      C (initOf c) (.ref a :: vs) (upd (upd H d (.ns [])) a (.inst c d)) (fun r H'=>r = .none ∧ Q (.ref a) H') E) E
  | .meth m o args,ρ,H,Q,E=>wpE G C o ρ H (fun v H=>match v with
      | .ref a=>(match H a with | some (.inst .web d)=>(match H d with | some (.ns _)=>(G.fn m).isSome = true ∧ wpEs G C args ρ H (fun vs H=>C m (.ref a :: vs) H Q E) E | _=>False) | _=>False)
      | _=>False) E
  | .bi b args,ρ,H,Q,E=>wpEs G C args ρ H (fun vs H=>biOp b vs H Q) E
  | .lm m o args,ρ,H,Q,E=>wpE G C o ρ H (fun v H=>lmKind m v H ∧ wpEs G C args ρ H (fun vs H=>lmOp m v vs H Q) E) E
  | .isVE _,_,_,_,_=>False
  | .attr o a,ρ,H,Q,E=>wpE G C o ρ H (fun v H=>getAttr v a H Q) E
  | .sub o i,ρ,H,Q,E=>wpE G C o ρ H (fun a H=>wpE G C i ρ H (fun b H=>subOp a b H Q) E) E
  | .slice o l u s,ρ,H,Q,E=>wpE G C o ρ H (fun a H=>wpE G C l ρ H (fun x H=>wpE G C u ρ H (fun y H=>wpE G C s ρ H (fun z H=>sliceOp a x y z H Q) E) E) E) E
  | .list es,ρ,H,Q,E=>wpEs G C es ρ H (fun vs H=>alloc (.list vs) H Q) E
  | .tuple es,ρ,H,Q,E=>wpEs G C es ρ H (fun vs H=>alloc (.tuple vs) H Q) E
  | .dict ks vs,ρ,H,Q,E=>wpEs G C ks ρ H (fun as H=>wpEs G C vs ρ H (fun bs H=>match as,bs with
      | [],[]=>alloc (.dict []) H Q
      | [.int k],[v]=>alloc (.dict [(k,v)]) H Q
      | _,_=>False) E) E
  | .range _,_,_,_,_=>False
  | .enum _,_,_,_,_=>False
  | .rev _,_,_,_,_=>False
  | .val _,_,_,_,_=>False
  | .comp k src elt,ρ,H,Q,E=>wpSrc G C src ρ H (fun its g H=>its.length ≤ big ∧
      gather g (tgtOf k) (fun ρ H K=>wpE G C elt ρ H (fun v H=>K (some v) H) EF) (fun vs H=>alloc (.list vs) H Q) its [] (List.replicate k none ++ ρ) H) E
  | .compIf k src cond elt,ρ,H,Q,E=>wpSrc G C src ρ H (fun its g H=>its.length ≤ big ∧
      gather g (tgtOf k) (fun ρ H K=>wpE G C cond ρ H (fun c H=>truthy c fun b=>if b then wpE G C elt ρ H (fun v H=>K (some v) H) EF else K none H) EF)
        (fun vs H=>alloc (.list vs) H Q) its [] (List.replicate k none ++ ρ) H) E
noncomputable def wpEs (G:GEnv) (C:CS):List X → Loc → AH → (List V → AH → Prop) → EP → Prop
  | [],_,H,Q,_=>Q [] H
  | e :: r,ρ,H,Q,E=>wpE G C e ρ H (fun v H=>wpEs G C r ρ H (fun vs H=>Q (v :: vs) H) E) E
noncomputable def wpSrc (G:GEnv) (C:CS):X → Loc → AH → (List It → (AH → Prop) → AH → Prop) → EP → Prop
  | .range args,ρ,H,K,E=>wpEs G C args ρ H (fun vs H=>rangeOf vs H K) E
  | .enum e,ρ,H,K,E=>wpE G C e ρ H (fun v H=>enumOf v H K) E
  | .rev e,ρ,H,K,E=>wpE G C e ρ H (fun v H=>revOf v H K) E
  | .val e,ρ,H,K,E=>wpE G C e ρ H (fun v H=>srcOf v H K) E
  | _,_,_,_,_=>False
end
mutual
noncomputable def wpS (G:GEnv) (C:CS):S → Loc → AH → (Loc → AH → Prop) → Post → EP → Prop
  | .assign i e,ρ,H,N,_,E=>wpE G C e ρ H (fun v H=>N (ρ.set i (some v)) H) E
  | .setattr o a e,ρ,H,N,_,E=>wpE G C e ρ H (fun v H=>wpE G C o ρ H (fun ov H=>setAttr ov a v H fun H=>N ρ H) E) E
  | .setitem o i e,ρ,H,N,_,E=>wpE G C e ρ H (fun v H=>wpE G C o ρ H (fun ov H=>wpE G C i ρ H (fun iv H=>setItem ov iv v H fun H=>N ρ H) E) E) E
  | .expr e,ρ,H,N,_,E=>wpE G C e ρ H (fun _ H=>N ρ H) E
  | .ite t a b,ρ,H,N,R,E=>wpE G C t ρ H (fun v H=>truthy v fun c=>if c then wpSs G C a ρ H N R E else wpSs G C b ρ H N R E) E
  | .for t src body,ρ,H,N,R,E=>wpSrc G C src ρ H (fun its g H=>loop g t (fun ρ H K=>wpSs G C body ρ H K R E) N its ρ H) E
  | .while t body,ρ,H,N,R,E=>∃ I:Nat → Loc → AH → Prop,(∃ n,I n ρ H) ∧ ∀ n ρ H,I n ρ H →
      wpE G C t ρ H (fun v H=>truthy v fun c=>if c then wpSs G C body ρ H (fun ρ H=>∃ m,m < n ∧ I m ρ H) R E else N ρ H) E
  | .ret e,ρ,H,_,R,E=>wpE G C e ρ H R E
  | .pass,ρ,H,N,_,_=>N ρ H
  | .raise _,_,_,_,_,_=>False
  | .try1 _ _ _ _,_,_,_,_,_=>False
  | .try2 _ _ _ _ _ _,_,_,_,_,_=>False
noncomputable def wpSs (G:GEnv) (C:CS):List S → Loc → AH → (Loc → AH → Prop) → Post → EP → Prop
  | [],ρ,H,N,_,_=>N ρ H
  | s :: r,ρ,H,N,R,E=>wpS G C s ρ H (fun ρ H=>wpSs G C r ρ H N R E) R E
end
noncomputable def callN (G:GEnv):Nat → CS
  | 0=>fun _ _ _ _ _=>False
  | n + 1=>fun f args H Q E=>match G.fn f with
    | some d=>d.arity = args.length ∧ wpSs G (callN G n) d.body (args.map some ++ List.replicate (d.slots - d.arity) none) H (fun _ H=>Q .none H) Q E
    | none=>False
section
variable {G:GEnv} {n:Nat} {H:AH} {Q:Post} {E:EP} {C:CS} {ρ:Loc} {N:Loc → AH → Prop} {R:Post}
/-! the running of the abstract machine,as rules -/
theorem Jb:wpE G C .cnone ρ H Q E = Q .none H := rfl
theorem Jc:wpE G C .omit ρ H Q E = Q .none H := rfl
theorem Jd {b}:wpE G C (.cbool b) ρ H Q E = Q (.bool b) H := rfl
theorem Je {i}:wpE G C (.cint i) ρ H Q E = Q (.int i) H := rfl
theorem Jf {i}:wpE G C (.cstr i) ρ H Q E = Q (.str i) H := rfl
theorem Jg {i}:wpE G C (.var i) ρ H Q E = (match ρ[i]? with | some (some v)=>Q v H | _=>False) := rfl
theorem Jh {e}:wpE G C (.not e) ρ H Q E = wpE G C e ρ H (fun v H=>truthy v fun b=>Q (.bool (!b)) H) E := rfl
theorem Ji {e}:wpE G C (.neg e) ρ H Q E = wpE G C e ρ H (fun v H=>match v with | .int i=>Q (.int (-i)) H | _=>False) E := rfl
theorem Jj {l r}:wpE G C (.and l r) ρ H Q E = wpE G C l ρ H (fun v H=>truthy v fun b=>if b then wpE G C r ρ H Q E else Q (.bool false) H) E := rfl
theorem Jk {l r}:wpE G C (.or l r) ρ H Q E = wpE G C l ρ H (fun v H=>truthy v fun b=>if b then Q (.bool true) H else wpE G C r ρ H Q E) E := rfl
theorem Jl {op l r}:wpE G C (.bin op l r) ρ H Q E = wpE G C l ρ H (fun a H=>wpE G C r ρ H (fun b H=>binOp op a b H Q) E) E := rfl
theorem Jm {op l r}:wpE G C (.cmp op l r) ρ H Q E = wpE G C l ρ H (fun a H=>wpE G C r ρ H (fun b H=>cmpOp op a b H Q) E) E := rfl
theorem Jn {l o1 m o2 r}:wpE G C (.chain l o1 m o2 r) ρ H Q E = wpE G C l ρ H (fun a H=>wpE G C m ρ H (fun b H=>cmpOp o1 a b H fun c H=>truthy c fun t =>
      if t then wpE G C r ρ H (fun d H=>cmpOp o2 b d H Q) E else Q (.bool false) H) E) E := rfl
theorem Jo {t a b}:wpE G C (.ite t a b) ρ H Q E = wpE G C t ρ H (fun v H=>truthy v fun c=>if c then wpE G C a ρ H Q E else wpE G C b ρ H Q E) E := rfl
theorem Jp {f as}:wpE G C (.call f as) ρ H Q E = ((G.fn f).isSome = true ∧ wpEs G C as ρ H (fun vs H=>C f vs H Q E) E) := rfl
theorem Jq {b as}:wpE G C (.bi b as) ρ H Q E = wpEs G C as ρ H (fun vs H=>biOp b vs H Q) E := rfl
theorem e_lm {m o as}:wpE G C (.lm m o as) ρ H Q E = wpE G C o ρ H (fun v H=>lmKind m v H ∧ wpEs G C as ρ H (fun vs H=>lmOp m v vs H Q) E) E := rfl
theorem Jr {o a}:wpE G C (.attr o a) ρ H Q E = wpE G C o ρ H (fun v H=>getAttr v a H Q) E := rfl
theorem Js {o i}:wpE G C (.sub o i) ρ H Q E = wpE G C o ρ H (fun a H=>wpE G C i ρ H (fun b H=>subOp a b H Q) E) E := rfl
theorem Jt {o l u s}:wpE G C (.slice o l u s) ρ H Q E = wpE G C o ρ H (fun a H=>wpE G C l ρ H (fun x H=>wpE G C u ρ H (fun y H=>wpE G C s ρ H (fun z H=>sliceOp a x y z H Q) E) E) E) E := rfl
theorem Ju {es}:wpE G C (.list es) ρ H Q E = wpEs G C es ρ H (fun vs H=>alloc (.list vs) H Q) E := rfl
theorem Jv {es}:wpE G C (.tuple es) ρ H Q E = wpEs G C es ρ H (fun vs H=>alloc (.tuple vs) H Q) E := rfl
theorem e_dict0:wpE G C (.dict [] []) ρ H Q E = alloc (.dict []) H Q := rfl
theorem e_meth {m o as}:wpE G C (.meth m o as) ρ H Q E = wpE G C o ρ H (fun v H=>match v with
      | .ref a=>(match H a with | some (.inst .web d)=>(match H d with | some (.ns _)=>(G.fn m).isSome = true ∧ wpEs G C as ρ H (fun vs H=>C m (.ref a :: vs) H Q E) E | _=>False) | _=>False)
      | _=>False) E := rfl
theorem e_mk {c as}:wpE G C (.mk c as) ρ H Q E = ((G.fn (initOf c)).isSome = true ∧ wpEs G C as ρ H (fun vs H=>∀ a d,H a = none → H d = none → a ≠ d →
      C (initOf c) (.ref a :: vs) (upd (upd H d (.ns [])) a (.inst c d)) (fun r H'=>r = .none ∧ Q (.ref a) H') E) E) := rfl
theorem e_comp {k s e}:wpE G C (.comp k s e) ρ H Q E = wpSrc G C s ρ H (fun its g H=>its.length ≤ big ∧
      gather g (tgtOf k) (fun ρ H K=>wpE G C e ρ H (fun v H=>K (some v) H) EF) (fun vs H=>alloc (.list vs) H Q) its [] (List.replicate k none ++ ρ) H) E := rfl
theorem e_compIf {k s c e}:wpE G C (.compIf k s c e) ρ H Q E = wpSrc G C s ρ H (fun its g H=>its.length ≤ big ∧
      gather g (tgtOf k) (fun ρ H K=>wpE G C c ρ H (fun c H=>truthy c fun b=>if b then wpE G C e ρ H (fun v H=>K (some v) H) EF else K none H) EF)
        (fun vs H=>alloc (.list vs) H Q) its [] (List.replicate k none ++ ρ) H) E := rfl
theorem Jw {Q:List V → AH → Prop}:wpEs G C [] ρ H Q E = Q [] H := rfl
theorem Jx {e r} {Q:List V → AH → Prop}:wpEs G C (e :: r) ρ H Q E = wpE G C e ρ H (fun v H=>wpEs G C r ρ H (fun vs H=>Q (v :: vs) H) E) E := rfl
theorem c_range {as} {K:List It → (AH → Prop) → AH → Prop}:wpSrc G C (.range as) ρ H K E = wpEs G C as ρ H (fun vs H=>rangeOf vs H K) E := rfl
theorem c_enum {e} {K:List It → (AH → Prop) → AH → Prop}:wpSrc G C (.enum e) ρ H K E = wpE G C e ρ H (fun v H=>enumOf v H K) E := rfl
theorem c_rev {e} {K:List It → (AH → Prop) → AH → Prop}:wpSrc G C (.rev e) ρ H K E = wpE G C e ρ H (fun v H=>revOf v H K) E := rfl
theorem c_val {e} {K:List It → (AH → Prop) → AH → Prop}:wpSrc G C (.val e) ρ H K E = wpE G C e ρ H (fun v H=>srcOf v H K) E := rfl
theorem Jy {i e}:wpS G C (.assign i e) ρ H N R E = wpE G C e ρ H (fun v H=>N (ρ.set i (some v)) H) E := rfl
theorem t_setattr {o a e}:wpS G C (.setattr o a e) ρ H N R E = wpE G C e ρ H (fun v H=>wpE G C o ρ H (fun ov H=>setAttr ov a v H fun H=>N ρ H) E) E := rfl
theorem t_setitem {o i e}:wpS G C (.setitem o i e) ρ H N R E = wpE G C e ρ H (fun v H=>wpE G C o ρ H (fun ov H=>wpE G C i ρ H (fun iv H=>setItem ov iv v H fun H=>N ρ H) E) E) E := rfl
theorem Jz {e}:wpS G C (.expr e) ρ H N R E = wpE G C e ρ H (fun _ H=>N ρ H) E := rfl
theorem Ja {t a b}:wpS G C (.ite t a b) ρ H N R E = wpE G C t ρ H (fun v H=>truthy v fun c=>if c then wpSs G C a ρ H N R E else wpSs G C b ρ H N R E) E := rfl
theorem J0 {e}:wpS G C (.ret e) ρ H N R E = wpE G C e ρ H R E := rfl
theorem J1:wpS G C .pass ρ H N R E = N ρ H := rfl
theorem t_for {t s b}:wpS G C (.for t s b) ρ H N R E = wpSrc G C s ρ H (fun its g H=>loop g t (fun ρ H K=>wpSs G C b ρ H K R E) N its ρ H) E := rfl
theorem t_while {t b}:wpS G C (.while t b) ρ H N R E = ∃ I:Nat → Loc → AH → Prop,(∃ n,I n ρ H) ∧ ∀ n ρ H,I n ρ H →
      wpE G C t ρ H (fun v H=>truthy v fun c=>if c then wpSs G C b ρ H (fun ρ H=>∃ m,m < n ∧ I m ρ H) R E else N ρ H) E := rfl
theorem J2:wpSs G C [] ρ H N R E = N ρ H := rfl
theorem J3 {s r}:wpSs G C (s :: r) ρ H N R E = wpS G C s ρ H (fun ρ H=>wpSs G C r ρ H N R E) R E := rfl
theorem e_glob0 {g}:wpE G C (.glob g) ρ H Q E = (match G.const g with | some v=>Q v H | none=>False) := rfl
theorem e_fnv {f}:wpE G C (.fnv f) ρ H Q E = ((G.fn f).isSome = true ∧ Q (.fn f) H) := rfl
theorem e_callv {f as}:wpE G C (.callv f as) ρ H Q E = wpE G C f ρ H (fun v H=>match v with | .fn g=>wpEs G C as ρ H (fun vs H=>C g vs H Q E) E | _=>False) E := rfl
theorem e_dict {ks vs}:wpE G C (.dict ks vs) ρ H Q E = wpEs G C ks ρ H (fun as H=>wpEs G C vs ρ H (fun bs H=>match as,bs with
      | [],[]=>alloc (.dict []) H Q
      | [.int k],[v]=>alloc (.dict [(k,v)]) H Q
      | _,_=>False) E) E := rfl
theorem t_raise {c}:wpS G C (.raise c) ρ H N R E = False := rfl
theorem e_isVE {e}:wpE G C (.isVE e) ρ H Q E = False := rfl
end
end Mine
namespace Mine
open PySem
noncomputable def f_Web__init_:Fn := ⟨3,3,[.setattr (.var 0) .many (.var 1),.setattr (.var 0) .rows (.var 2)]⟩
noncomputable def f_Web_need:Fn := ⟨2,2,[.ite (.not (.chain (.cint 0) .LtE (.var 1) .Lt (.attr (.var 0) .many))) [.raise .noPoint] []]⟩
noncomputable def f_Web_beside_01:Fn := ⟨2,2,[.expr (.meth "Web.need" (.var 0) [(.var 1)]),.ret (.bi .list [(.sub (.attr (.var 0) .rows) (.var 1))])]⟩
noncomputable def f_Web_tied:Fn := ⟨3,3,[.expr (.meth "Web.need" (.var 0) [(.var 1)]),.expr (.meth "Web.need" (.var 0) [(.var 2)]),.ret (.cmp .In (.var 2) (.sub (.attr (.var 0) .rows) (.var 1)))]⟩
noncomputable def f_Web_ties_b1:List S := [.ite (.cmp .Lt (.var 2) (.var 3)) [.expr (.lm .append (.var 1) [(.tuple [(.var 2),(.var 3)])])] []]
noncomputable def f_Web_ties_b2:List S := [.for (.one 3) (.val (.sub (.attr (.var 0) .rows) (.var 2))) f_Web_ties_b1]
noncomputable def f_Web_ties:Fn := ⟨4,1,[.assign 1 (.list []),.for (.one 2) (.range [(.attr (.var 0) .many)]) f_Web_ties_b2,.ret (.var 1)]⟩
noncomputable def f_web_of_b1:List S := [.ite (.or (.not (.chain (.cint 0) .LtE (.var 2) .Lt (.var 0))) (.or (.not (.chain (.cint 0) .LtE (.var 3) .Lt (.var 0))) (.cmp .Eq (.var 2) (.var 3)))) [.raise .badWeb] []]
noncomputable def f_web_of_e1:X := (.dict [] [])
noncomputable def f_web_of_b2:List S := [.setitem (.sub (.var 4) (.var 2)) (.var 3) (.cbool true),.setitem (.sub (.var 4) (.var 3)) (.var 2) (.cbool true)]
noncomputable def f_web_of_e2:X := (.bi .sorted [(.var 0)])
noncomputable def f_web_of:Fn := ⟨5,2,[.ite (.not (.chain (.cint 0) .LtE (.var 0) .LtE (.glob "MOST"))) [.raise .badWeb] [],.for (.two 2 3) (.val (.var 1)) f_web_of_b1,.assign 4 (.comp 1 (.range [(.var 0)]) f_web_of_e1),.for (.two 2 3) (.val (.var 1)) f_web_of_b2,.ret (.mk .web [(.var 0),(.comp 1 (.val (.var 4)) f_web_of_e2)])]⟩
noncomputable def f_law_cell_at:Fn := ⟨2,2,[.ite (.cmp .Lt (.var 1) (.bi .len [(.var 0)])) [.ret (.sub (.var 0) (.var 1))] [],.ret (.cint 0)]⟩
noncomputable def f_law_whole:Fn := ⟨1,1,[.ret (.and (.bi (.isinst .int) [(.var 0)]) (.not (.bi (.isinst .bool) [(.var 0)])))]⟩
noncomputable def f_law_numbers_b1:List S := [.ite (.or (.not (.call "_law_whole" [(.sub (.var 0) (.var 2))])) (.cmp .NotEq (.sub (.var 0) (.var 2)) (.sub (.var 1) (.var 2)))) [.ret (.cbool false)] []]
noncomputable def f_law_numbers:Fn := ⟨3,2,[.ite (.or (.not (.bi (.isinst .list) [(.var 0)])) (.cmp .NotEq (.bi .len [(.var 0)]) (.bi .len [(.var 1)]))) [.ret (.cbool false)] [],.for (.one 2) (.range [(.bi .len [(.var 1)])]) f_law_numbers_b1,.ret (.cbool true)]⟩
noncomputable def f_law_mixed:Fn := ⟨2,2,[.ret (.bin .Mod (.bin .Mult (.bin .Add (.var 0) (.bin .Mult (.cint 101) (.var 1))) (.cint 48271)) (.cint 1000003))]⟩
noncomputable def f_law_earlier_b1:List S := [.ite (.and (.cmp .Gt (.bin .Mod (.var 8) (.cint 3)) (.cint 0)) (.or (.cmp .GtE (.var 7) (.var 2)) (.cmp .Lt (.bi .len [(.var 6)]) (.cint 2)))) [.expr (.lm .append (.var 6) [(.var 9)])] [],.assign 8 (.bin .FloorDiv (.var 8) (.cint 3))]
noncomputable def f_law_earlier_b2:List S := [.assign 5 (.call "_law_mixed" [(.call "_law_cell_at" [(.var 0),(.bin .Add (.cint 3) (.var 4))]),(.var 4)]),.assign 6 (.list []),.ite (.chain (.cint 0) .Lt (.var 4) .Lt (.var 2)) [.assign 6 (.list [(.bin .Sub (.var 4) (.cint 1))]),.ite (.cmp .Eq (.var 4) (.bin .Sub (.var 2) (.cint 1))) [.assign 6 (.list [(.cint 0),(.bin .Sub (.var 4) (.cint 1))])] []] [.ite (.and (.cmp .Gt (.var 4) (.cint 0)) (.cmp .NotEq (.bin .Mod (.var 5) (.cint 9)) (.cint 8))) [.assign 7 (.bin .Mod (.bin .FloorDiv (.var 5) (.cint 9)) (.var 4)),.assign 6 (.list [(.var 7)]),.assign 8 (.bin .FloorDiv (.bin .FloorDiv (.var 5) (.cint 9)) (.var 4)),.for (.one 9) (.val (.sub (.var 3) (.var 7))) f_law_earlier_b1] []],.expr (.lm .append (.var 3) [(.var 6)])]
noncomputable def f_law_earlier:Fn := ⟨10,3,[.assign 3 (.list []),.for (.one 4) (.range [(.var 1)]) f_law_earlier_b2,.ret (.var 3)]⟩
noncomputable def f_law_any_rows_e1:X := (.call "_law_mixed" [(.call "_law_cell_at" [(.var 1),(.bin .Add (.cint 3) (.bin .Mod (.bin .Add (.bin .Mult (.cint 7) (.var 6)) (.bin .Mult (.cint 13) (.var 0))) (.cint 60)))]),(.bin .Add (.bin .Mult (.cint 60) (.var 6)) (.var 0))])
noncomputable def f_law_any_rows_c1:X := (.cmp .Lt (.bin .Mod (.sub (.var 7) (.var 0)) (.var 4)) (.var 3))
noncomputable def f_law_any_rows_b1:List S := [.assign 6 (.comp 1 (.range [(.var 5)]) f_law_any_rows_e1),.expr (.lm .append (.var 4) [(.compIf 1 (.range [(.var 5)]) f_law_any_rows_c1 (.var 0))])]
noncomputable def f_law_any_rows:Fn := ⟨7,2,[.assign 2 (.bin .Add (.cint 1) (.bin .Mod (.bin .FloorDiv (.call "_law_cell_at" [(.var 0),(.cint 2)]) (.cint 8)) (.cint 4))),.assign 3 (.cint 5),.ite (.cmp .Gt (.var 1) (.cint 20)) [.assign 3 (.cint 40)] [],.assign 4 (.list []),.for (.one 5) (.range [(.var 1)]) f_law_any_rows_b1,.ret (.var 4)]⟩
noncomputable def f_law_banded_e1:X := (.bi .listRange [(.bi .max [(.cint 0),(.bin .Sub (.var 0) (.var 3))]),(.var 0)])
noncomputable def f_law_banded:Fn := ⟨3,2,[.assign 2 (.bin .Mod (.var 1) (.cint 20)),.ite (.cmp .Gt (.var 0) (.cint 20)) [.assign 2 (.bin .Mod (.var 1) (.cint 6))] [],.ret (.comp 1 (.range [(.var 0)]) f_law_banded_e1)]⟩
noncomputable def f_law_ringed_e1:X := (.bi .listRange [(.bi .max [(.cint 0),(.bin .Sub (.var 0) (.cint 1))]),(.var 0)])
noncomputable def f_law_ringed_b1:List S := [.ite (.cmp .Eq (.bin .Mod (.var 4) (.var 3)) (.bin .Sub (.var 2) (.cint 1))) [.setitem (.var 5) (.var 4) (.list [(.bin .Sub (.bin .Add (.var 4) (.cint 1)) (.var 2)),(.bin .Sub (.var 4) (.cint 1))])] []]
noncomputable def f_law_ringed:Fn := ⟨6,2,[.assign 2 (.bin .Add (.cint 4) (.bin .Mod (.var 1) (.cint 5))),.assign 3 (.bin .Add (.var 2) (.bin .Mod (.bin .FloorDiv (.var 1) (.cint 5)) (.cint 4))),.assign 5 (.comp 1 (.range [(.var 0)]) f_law_ringed_e1),.for (.one 4) (.range [(.var 0)]) f_law_ringed_b1,.ret (.var 5)]⟩
noncomputable def f_law_hubbed_e1:X := (.bi .listRange [(.bi .min [(.var 0),(.var 3)])])
noncomputable def f_law_hubbed:Fn := ⟨3,2,[.assign 2 (.sub (.list [(.cint 1),(.cint 2),(.cint 3),(.bin .Mod (.bin .FloorDiv (.var 1) (.cint 4)) (.cint 30))]) (.bin .Mod (.var 1) (.cint 4))),.ite (.cmp .Gt (.var 0) (.cint 30)) [.assign 2 (.bin .Mod (.var 2) (.cint 8))] [],.ret (.comp 1 (.range [(.var 0)]) f_law_hubbed_e1)]⟩
noncomputable def f_law_rows:Fn := ⟨4,2,[.assign 2 (.bin .Mod (.call "_law_cell_at" [(.var 0),(.cint 2)]) (.cint 8)),.assign 3 (.bin .FloorDiv (.call "_law_cell_at" [(.var 0),(.cint 2)]) (.cint 8)),.ite (.and (.cmp .Eq (.var 2) (.cint 1)) (.cmp .Gt (.var 1) (.cint 3))) [.ret (.call "_law_earlier" [(.var 0),(.var 1),(.bin .Add (.cint 4) (.bin .Mod (.var 3) (.bin .Sub (.var 1) (.cint 3))))])] [],.ite (.and (.chain (.cint 1) .Lt (.var 2) .Lt (.cint 5)) (.cmp .Lt (.var 1) (.cint 41))) [.ret (.call "_law_any_rows" [(.var 0),(.var 1)])] [],.ite (.cmp .Eq (.var 2) (.cint 5)) [.ret (.call "_law_banded" [(.var 1),(.var 3)])] [],.ite (.cmp .Eq (.var 2) (.cint 6)) [.ret (.call "_law_ringed" [(.var 1),(.var 3)])] [],.ite (.cmp .Eq (.var 2) (.cint 7)) [.ret (.call "_law_hubbed" [(.var 1),(.var 3)])] [],.ret (.call "_law_earlier" [(.var 0),(.var 1),(.cint 0)])]⟩
noncomputable def f_law_name:Fn := ⟨4,3,[.assign 3 (.call "_law_cell_at" [(.var 0),(.cint 1)]),.ite (.cmp .Eq (.bin .Mod (.var 3) (.cint 2)) (.cint 1)) [.ret (.bin .Mod (.bin .Sub (.bin .FloorDiv (.var 3) (.cint 2)) (.var 2)) (.var 1))] [],.ret (.bin .Mod (.bin .Add (.bin .FloorDiv (.var 3) (.cint 2)) (.var 2)) (.var 1))]⟩
noncomputable def f_law_ties_b1:List S := [.assign 6 (.tuple [(.call "_law_name" [(.var 0),(.var 1),(.var 4)]),(.call "_law_name" [(.var 0),(.var 1),(.var 5)])]),.ite (.cmp .Eq (.bin .Mod (.bin .Add (.var 4) (.var 5)) (.cint 2)) (.cint 1)) [.assign 6 (.tuple [(.sub (.var 6) (.cint 1)),(.sub (.var 6) (.cint 0))])] [],.expr (.lm .append (.var 3) [(.var 6)])]
noncomputable def f_law_ties_b2:List S := [.for (.one 5) (.val (.sub (.var 2) (.var 4))) f_law_ties_b1]
noncomputable def f_law_ties_e1:X := (.tuple [(.sub (.var 0) (.cint 1)),(.sub (.var 0) (.cint 0))])
noncomputable def f_law_ties:Fn := ⟨7,3,[.assign 3 (.list []),.for (.one 4) (.range [(.var 1)]) f_law_ties_b2,.ret (.bin .Add (.bin .Add (.bin .Add (.var 3) (.comp 1 (.val (.slice (.var 3) .omit (.cint 3) .omit)) f_law_ties_e1)) (.slice (.var 3) (.cint 1) (.cint 4) .omit)) (.bin .Mult (.slice (.var 3) .omit (.cint 1) .omit) (.cint 2)))]⟩
noncomputable def f_law_near_b1:List S := [.ite (.cmp .NotIn (.var 4) (.sub (.var 2) (.var 3))) [.expr (.lm .append (.sub (.var 2) (.var 3)) [(.var 4)]),.expr (.lm .append (.sub (.var 2) (.var 4)) [(.var 3)])] []]
noncomputable def f_law_near_e1:X := (.bi .sorted [(.var 0)])
noncomputable def f_law_near:Fn := ⟨5,2,[.assign 2 (.comp 1 (.range [(.var 0)]) (.list [])),.for (.two 3 4) (.val (.var 1)) f_law_near_b1,.ret (.comp 1 (.val (.var 2)) f_law_near_e1)]⟩
noncomputable def f_law_many_02:Fn := ⟨2,1,[.assign 1 (.call "_law_cell_at" [(.var 0),(.cint 0)]),.ite (.cmp .Eq (.bin .Mod (.bin .FloorDiv (.var 1) (.cint 9)) (.cint 16)) (.cint 3)) [.ret (.bin .Mod (.bin .FloorDiv (.var 1) (.cint 144)) (.cint 61))] [],.ite (.cmp .Eq (.bin .Mod (.bin .FloorDiv (.var 1) (.cint 9)) (.cint 8)) (.cint 5)) [.ret (.bin .Add (.cint 9) (.bin .Mod (.bin .FloorDiv (.var 1) (.cint 72)) (.cint 12)))] [],.ret (.bin .Mod (.var 1) (.cint 9))]⟩
noncomputable def f_is_order:Fn := ⟨2,2,[.ret (.cmp .Eq (.bi .sorted [(.var 1)]) (.bi .listRange [(.attr (.var 0) .many)]))]⟩
noncomputable def f_need_order:Fn := ⟨2,2,[.ite (.not (.call "is_order" [(.var 0),(.var 1)])) [.raise .badOrder] []]⟩
noncomputable def f_those_behind_c1:X := (.meth "Web.tied" (.var 1) [(.var 3),(.var 0)])
noncomputable def f_those_behind:Fn := ⟨4,3,[.assign 3 (.lm .index (.var 1) [(.var 2)]),.ret (.compIf 1 (.val (.slice (.var 1) (.bin .Add (.var 3) (.cint 1)) .omit .omit)) f_those_behind_c1 (.var 0))]⟩
noncomputable def f_first_untied_b1:List S := [.ite (.not (.meth "Web.tied" (.var 0) [(.var 3),(.var 4)])) [.ret (.tuple [(.var 3),(.var 4)])] []]
noncomputable def f_first_untied_b2:List S := [.for (.one 4) (.val (.slice (.var 1) (.bin .Add (.var 2) (.cint 1)) .omit .omit)) f_first_untied_b1]
noncomputable def f_first_untied:Fn := ⟨5,2,[.for (.two 2 3) (.enum (.var 1)) f_first_untied_b2,.ret .cnone]⟩
noncomputable def f_gap_b1:List S := [.assign 3 (.call "first_untied" [(.var 0),(.call "those_behind" [(.var 0),(.var 1),(.var 2)])]),.ite (.cmp .IsNot (.var 3) .cnone) [.ret (.tuple [(.var 2),(.sub (.var 3) (.cint 0)),(.sub (.var 3) (.cint 1))])] []]
noncomputable def f_gap:Fn := ⟨4,2,[.expr (.call "need_order" [(.var 0),(.var 1)]),.for (.one 2) (.val (.var 1)) f_gap_b1,.ret .cnone]⟩
noncomputable def f_least_to_go_c1:X := (.meth "Web.tied" (.var 1) [(.var 3),(.var 0)])
noncomputable def f_least_to_go_b1:List S := [.ite (.cmp .Is (.call "first_untied" [(.var 0),(.compIf 1 (.val (.var 1)) f_least_to_go_c1 (.var 0))]) .cnone) [.ret (.var 2)] []]
noncomputable def f_least_to_go:Fn := ⟨3,2,[.for (.one 2) (.val (.var 1)) f_least_to_go_b1,.ret .cnone]⟩
noncomputable def f_taken_b1:List S := [.expr (.lm .remove (.var 1) [(.var 3)]),.expr (.lm .append (.var 2) [(.var 3)]),.assign 3 (.call "least_to_go" [(.var 0),(.var 1)])]
noncomputable def f_taken:Fn := ⟨4,1,[.assign 1 (.bi .listRange [(.attr (.var 0) .many)]),.assign 2 (.list []),.assign 3 (.call "least_to_go" [(.var 0),(.var 1)]),.while (.cmp .IsNot (.var 3) .cnone) f_taken_b1,.ret (.tuple [(.var 2),(.var 1)])]⟩
noncomputable def f_need_whole:Fn := ⟨2,2,[.ite (.cmp .IsNot (.call "gap" [(.var 0),(.var 1)]) .cnone) [.raise .hasGap] []]⟩
noncomputable def f_crowd_at:Fn := ⟨3,3,[.ret (.bi .sorted [(.bin .Add (.list [(.var 2)]) (.call "those_behind" [(.var 0),(.var 1),(.var 2)]))])]⟩
noncomputable def f_is_full_e1:X := (.meth "Web.tied" (.var 1) [(.var 3),(.var 0)])
noncomputable def f_is_full_b1:List S := [.ite (.and (.cmp .NotIn (.var 2) (.var 1)) (.bi .all [(.comp 1 (.val (.var 1)) f_is_full_e1)])) [.ret (.cbool false)] []]
noncomputable def f_is_full:Fn := ⟨3,2,[.for (.one 2) (.range [(.attr (.var 0) .many)]) f_is_full_b1,.ret (.cbool true)]⟩
noncomputable def f_full_crowds_b1:List S := [.assign 4 (.call "crowd_at" [(.var 0),(.var 1),(.var 3)]),.ite (.call "is_full" [(.var 0),(.var 4)]) [.expr (.lm .append (.var 2) [(.var 4)])] []]
noncomputable def f_full_crowds:Fn := ⟨5,2,[.expr (.call "need_whole" [(.var 0),(.var 1)]),.assign 2 (.list []),.for (.one 3) (.val (.var 1)) f_full_crowds_b1,.ret (.var 2)]⟩
noncomputable def f_least_free_b1:List S := [.assign 1 (.bin .Add (.var 1) (.cint 1))]
noncomputable def f_least_free:Fn := ⟨2,1,[.assign 1 (.cint 0),.while (.cmp .In (.var 1) (.var 0)) f_least_free_b1,.ret (.var 1)]⟩
noncomputable def f_coloured_e1:X := (.sub (.var 4) (.var 0))
noncomputable def f_coloured_b1:List S := [.setitem (.var 3) (.var 2) (.call "least_free" [(.comp 1 (.val (.call "those_behind" [(.var 0),(.var 1),(.var 2)])) f_coloured_e1)])]
noncomputable def f_coloured:Fn := ⟨4,2,[.expr (.call "need_whole" [(.var 0),(.var 1)]),.assign 3 (.comp 1 (.val (.var 1)) (.cint 0)),.for (.one 2) (.rev (.var 1)) f_coloured_b1,.ret (.var 3)]⟩
noncomputable def f_long_ring_b1:List S := [.assign 2 (.call "ring_at" [(.var 0),(.var 1)]),.ite (.cmp .IsNot (.var 2) .cnone) [.ret (.var 2)] []]
noncomputable def f_long_ring:Fn := ⟨3,1,[.for (.one 1) (.val (.sub (.call "taken" [(.var 0)]) (.cint 1))) f_long_ring_b1,.ret .cnone]⟩
noncomputable def f_Verdict__init_:Fn := ⟨6,6,[.setattr (.var 0) .order (.var 1),.setattr (.var 0) .ring (.var 2),.setattr (.var 0) .crowd (.var 3),.setattr (.var 0) .colours (.var 4),.setattr (.var 0) .many (.var 5)]⟩
noncomputable def f_judged_b1:List S := [.ite (.cmp .Gt (.bi .len [(.var 4)]) (.bi .len [(.var 3)])) [.assign 3 (.var 4)] []]
noncomputable def f_judged:Fn := ⟨5,1,[.assign 1 (.call "long_ring" [(.var 0)]),.ite (.cmp .IsNot (.var 1) .cnone) [.ret (.mk .verdict [.cnone,(.var 1),.cnone,.cnone,(.cint 0)])] [],.assign 2 (.sub (.call "taken" [(.var 0)]) (.cint 0)),.assign 3 (.list []),.for (.one 4) (.val (.call "full_crowds" [(.var 0),(.var 2)])) f_judged_b1,.ret (.mk .verdict [(.var 2),.cnone,(.var 3),(.call "coloured" [(.var 0),(.var 2)]),(.bi .len [(.var 3)])])]⟩
noncomputable def f_law_keyed_e1:X := (.tuple [(.call "_law_mixed" [(.call "_law_cell_at" [(.var 1),(.bin .Add (.cint 2) (.bin .Mod (.bin .Mult (.cint 11) (.var 0)) (.cint 61)))]),(.bin .Add (.bin .Mult (.cint 7) (.var 0)) (.cint 1))]),(.var 0)])
noncomputable def f_law_keyed_e2:X := (.sub (.var 0) (.cint 1))
noncomputable def f_law_keyed:Fn := ⟨3,2,[.assign 2 (.comp 1 (.range [(.var 1)]) f_law_keyed_e1),.ret (.comp 1 (.val (.bi .sorted [(.var 2)])) f_law_keyed_e2)]⟩
noncomputable def f_law_behind_c1:X := (.cmp .In (.var 0) (.sub (.var 1) (.sub (.var 2) (.var 3))))
noncomputable def f_law_behind:Fn := ⟨3,3,[.ret (.compIf 1 (.val (.slice (.var 1) (.bin .Add (.var 2) (.cint 1)) .omit .omit)) f_law_behind_c1 (.var 0))]⟩
noncomputable def f_law_untied_b1:List S := [.ite (.cmp .NotIn (.var 3) (.sub (.var 0) (.sub (.var 1) (.var 2)))) [.ret (.tuple [(.sub (.var 1) (.var 2)),(.var 3)])] []]
noncomputable def f_law_untied_b2:List S := [.for (.one 3) (.val (.slice (.var 1) (.bin .Add (.var 2) (.cint 1)) .omit .omit)) f_law_untied_b1]
noncomputable def f_law_untied:Fn := ⟨4,2,[.for (.one 2) (.range [(.bi .len [(.var 1)])]) f_law_untied_b2,.ret .cnone]⟩
noncomputable def f_law_stays_b1:List S := [.ite (.not (.call "_law_numbers" [(.meth "Web.beside" (.var 0) [(.var 2)]),(.sub (.var 1) (.var 2))])) [.ret (.cbool false)] []]
noncomputable def f_law_stays:Fn := ⟨3,2,[.for (.one 2) (.range [(.bi .len [(.var 1)])]) f_law_stays_b1,.ret (.cbool true)]⟩
noncomputable def f_law_free_c1:X := (.cmp .In (.var 0) (.sub (.var 1) (.var 3)))
noncomputable def f_law_free_b1:List S := [.ite (.cmp .Is (.call "_law_untied" [(.var 0),(.compIf 1 (.val (.var 1)) f_law_free_c1 (.var 0))]) .cnone) [.ret (.var 2)] []]
noncomputable def f_law_free:Fn := ⟨3,2,[.for (.one 2) (.val (.var 1)) f_law_free_b1,.ret (.neg (.cint 1))]⟩
noncomputable def f_apart_e1:X := (.meth "Web.tied" (.var 1) [(.var 5),(.var 0)])
noncomputable def f_apart_b1:List S := [.ite (.not (.bi .any [(.comp 1 (.val (.var 2)) f_apart_e1)])) [.expr (.lm .append (.var 2) [(.var 4)]),.expr (.lm .append (.var 3) [(.call "crowd_at" [(.var 0),(.var 1),(.var 4)])])] []]
noncomputable def f_apart:Fn := ⟨5,2,[.expr (.call "need_whole" [(.var 0),(.var 1)]),.assign 2 (.list []),.assign 3 (.list []),.for (.one 4) (.val (.var 1)) f_apart_b1,.ret (.tuple [(.var 2),(.var 3)])]⟩
noncomputable def f_law_order_07_b1:List S := [.assign 5 (.call "_law_free" [(.var 1),(.var 2)]),.ite (.cmp .Lt (.var 5) (.cint 0)) [.ret .cnone] [],.expr (.lm .append (.var 3) [(.var 5)]),.expr (.lm .remove (.var 2) [(.var 5)])]
noncomputable def f_law_order_07:Fn := ⟨6,2,[.assign 2 (.call "_law_keyed" [(.var 0),(.bi .len [(.var 1)])]),.assign 3 (.list []),.for (.one 4) (.range [(.bi .len [(.var 1)])]) f_law_order_07_b1,.ret (.var 3)]⟩
noncomputable def f_law_least_order_b1:List S := [.expr (.lm .append (.var 2) [(.call "_law_free" [(.var 0),(.var 1)])]),.expr (.lm .remove (.var 1) [(.sub (.var 2) (.var 3))])]
noncomputable def f_law_least_order:Fn := ⟨4,1,[.assign 1 (.bi .listRange [(.bi .len [(.var 0)])]),.assign 2 (.list []),.for (.one 3) (.range [(.bi .len [(.var 0)])]) f_law_least_order_b1,.ret (.var 2)]⟩
noncomputable def f_law_right_11_c1:X := (.and (.bi (.isinst .list) [(.sub (.var 3) (.cint 0))]) (.cmp .In (.var 0) (.sub (.var 3) (.cint 0))))
noncomputable def f_law_right_11_c2:X := (.cmp .In (.var 0) (.sub (.var 1) (.sub (.var 4) (.var 6))))
noncomputable def f_law_right_11_b1:List S := [.ite (.cmp .NotEq (.compIf 1 (.val (.var 3)) f_law_right_11_c2 (.var 0)) (.list [])) [.ret (.cbool false)] [],.assign 6 (.bi .sorted [(.bin .Add (.list [(.sub (.var 3) (.var 5))]) (.call "_law_behind" [(.var 0),(.var 1),(.lm .index (.var 1) [(.sub (.var 3) (.var 5))])]))]),.ite (.or (.not (.call "_law_numbers" [(.sub (.sub (.var 2) (.cint 1)) (.var 5)),(.var 6)])) (.cmp .IsNot (.call "_law_untied" [(.var 0),(.var 6)]) .cnone)) [.ret (.cbool false)] [],.assign 4 (.bin .Add (.var 4) (.var 6))]
noncomputable def f_law_right_11:Fn := ⟨7,3,[.ite (.or (.not (.bi (.isinst .tuple) [(.var 2)])) (.cmp .NotEq (.bi .len [(.var 2)]) (.cint 2))) [.ret (.cbool false)] [],.assign 3 (.compIf 1 (.val (.var 1)) f_law_right_11_c1 (.var 0)),.ite (.or (.not (.call "_law_numbers" [(.sub (.var 2) (.cint 0)),(.var 3)])) (.or (.not (.bi (.isinst .list) [(.sub (.var 2) (.cint 1))])) (.cmp .NotEq (.bi .len [(.sub (.var 2) (.cint 1))]) (.bi .len [(.var 3)])))) [.ret (.cbool false)] [],.assign 4 (.list []),.for (.one 5) (.range [(.bi .len [(.var 3)])]) f_law_right_11_b1,.ret (.cmp .Eq (.bi .sortedSet [(.var 4)]) (.bi .listRange [(.bi .len [(.var 0)])]))]⟩
noncomputable def f_law_11_e1:X := (.bi .list [(.var 0)])
noncomputable def f_law_11_b1:List S := [.ite (.cmp .Gt (.var 9) (.cint 0)) [.expr (.call "judged" [(.var 5)]),.expr (.call "coloured" [(.var 5),(.bi .list [(.sub (.list [(.var 4),(.var 8)]) (.bin .Sub (.var 9) (.cint 1)))])])] [],.expr (.lm .clear (.var 6) []),.expr (.lm .extend (.var 6) [(.var 10)]),.assign 11 (.call "apart" [(.var 5),(.var 6)]),.ite (.or (.cmp .NotEq (.var 6) (.var 10)) (.not (.call "_law_right" [(.var 3),(.var 10),(.var 11)]))) [.ret (.cbool false)] [],.expr (.lm .append (.sub (.var 11) (.cint 0)) [(.cint 0)]),.expr (.lm .append (.sub (.var 11) (.cint 1)) [(.list [])]),.expr (.lm .append (.sub (.sub (.var 11) (.cint 1)) (.cint 0)) [(.cint 0)]),.expr (.lm .append (.var 7) [(.tuple [(.var 11),(.tuple [(.bi .list [(.sub (.var 11) (.cint 0))]),(.comp 1 (.val (.sub (.var 11) (.cint 1))) f_law_11_e1)])])])]
noncomputable def f_law_11_c1:X := (.cmp .NotEq (.sub (.var 0) (.cint 0)) (.sub (.var 0) (.cint 1)))
noncomputable def f_law_11:Fn := ⟨12,1,[.assign 1 (.call "_law_many" [(.var 0)]),.assign 2 (.call "_law_ties" [(.var 0),(.var 1),(.call "_law_rows" [(.var 0),(.var 1)])]),.assign 3 (.call "_law_near" [(.var 1),(.var 2)]),.assign 4 (.call "_law_order" [(.var 0),(.var 3)]),.ite (.cmp .Is (.var 4) .cnone) [.ret (.cbool true)] [],.assign 5 (.call "web_of" [(.var 1),(.bi .list [(.var 2)])]),.assign 6 (.list []),.assign 7 (.list []),.assign 8 (.call "_law_least_order" [(.var 3)]),.for (.two 9 10) (.enum (.list [(.var 4),(.var 8),(.var 4)])) f_law_11_b1,.ret (.and (.call "_law_stays" [(.var 5),(.var 3)]) (.cmp .Eq (.compIf 1 (.val (.var 7)) f_law_11_c1 (.var 0)) (.list [])))]⟩
end Mine
namespace Mine
open PySem
set_option genCtorIdx false in
structure Cx where
  names:List Str
  sc:Scope
  hnd:Bool
  cmp:Bool
noncomputable def isVar:Option NameKind → Bool
  | some .local=>true
  | some .cell=>true
  | some .free=>true
  | _=>false
noncomputable def Cx.slot (c:Cx) (x:Str):Option Nat := if isVar (c.sc.names.lookup x) then c.names.idxOf? x else none
noncomputable def isOwn:Option NameKind → Bool
  | some .local=>true
  | some .cell=>true
  | _=>false
noncomputable def Cx.own (c:Cx) (x:Str):Option Nat := if isOwn (c.sc.names.lookup x) then c.names.idxOf? x else none
noncomputable def Cx.global (c:Cx) (x:Str):Bool := c.sc.names.lookup x == some .globalImplicit
theorem nn {α:Type} {P:Prop} {x:α} (h:(none:Option α) = some x):P := by cases h
inductive B1 {α β:Type} (o:Option α) (k:α → β) (y:β):Prop
  | mk (a:α) (h:o = some a) (e:k a = y)
inductive B2 {α α' β:Type} (o:Option α) (o':Option α') (k:α → α' → β) (y:β):Prop
  | mk (a:α) (h:o = some a) (a':α') (h':o' = some a') (e:k a a' = y)
inductive B3 {α α' γ β:Type} (o:Option α) (o':Option α') (p:Option γ) (k:α → α' → γ → β) (y:β):Prop
  | mk (a:α) (h:o = some a) (a':α') (h':o' = some a') (d:γ) (h3:p = some d) (e:k a a' d = y)
inductive B4 {α α' γ δ β:Type} (o:Option α) (o':Option α') (p:Option γ) (p':Option δ) (k:α → α' → γ → δ → β) (y:β):Prop
  | mk (a:α) (h:o = some a) (a':α') (h':o' = some a') (d:γ) (h3:p = some d) (d':δ) (h4:p' = some d') (e:k a a' d d' = y)
theorem b1 {α β:Type} {o:Option α} {k:α → β} {y:β} (h:(o >>= fun a=>pure (k a)) = some y):B1 o k y := by
  cases o with
  | none=>cases h
  | some a=>exact ⟨a,rfl,Option.some.inj h⟩
theorem b2 {α α' β:Type} {o:Option α} {o':Option α'} {k:α → α' → β} {y:β} (h:(o >>= fun a=>o' >>= fun b=>pure (k a b)) = some y):B2 o o' k y := by
  cases o with
  | none=>cases h
  | some a=>obtain ⟨b,hb,e⟩ := b1 (show (o' >>= fun b=>pure (k a b)) = some y from h); exact ⟨a,rfl,b,hb,e⟩
theorem b3 {α α' γ β:Type} {o:Option α} {o':Option α'} {p:Option γ} {k:α → α' → γ → β} {y:β} (h:(o >>= fun a=>o' >>= fun b=>p >>= fun d=>pure (k a b d)) = some y):B3 o o' p k y := by
  cases o with
  | none=>cases h
  | some a=>obtain ⟨b,hb,d,hd,e⟩ := b2 (show (o' >>= fun b=>p >>= fun d=>pure (k a b d)) = some y from h); exact ⟨a,rfl,b,hb,d,hd,e⟩
theorem b4 {α α' γ δ β:Type} {o:Option α} {o':Option α'} {p:Option γ} {p':Option δ} {k:α → α' → γ → δ → β} {y:β} (h:(o >>= fun a=>o' >>= fun b=>p >>= fun d=>p' >>= fun d'=>pure (k a b d d')) = some y):B4 o o' p p' k y := by
  cases o with
  | none=>cases h
  | some a=>obtain ⟨b,hb,d,hd,d',hd',e⟩ := b3 (show (o' >>= fun b=>p >>= fun d=>p' >>= fun d'=>pure (k a b d d')) = some y from h); exact ⟨a,rfl,b,hb,d,hd,d',hd',e⟩
noncomputable def tab {α:Type}:List (Str × α) → Str → Option α
  | [],_=>none
  | p :: r,x=>if x == p.1 then some p.2 else tab r x
theorem tab_mem {α:Type} {x:Str} {a:α} {t:List (Str × α)} (h:tab t x = some a):(x,a) ∈ t := by
  induction t with
  | nil=>cases h
  | cons p r ih =>
    replace h:(if (x == p.1) = true then some p.2 else tab r x) = some a := h
    by_cases q:(x == p.1) = true
    · rw [if_pos q] at h
      cases h
      rw [beq_iff_eq.mp q]
      exact .head _
    · rw [if_neg q] at h
      exact .tail _ (ih h)
noncomputable def tyOfTab:List (Str × Ty) := [("int",.int),("bool",.bool),("list",.list),("tuple",.tuple),("str",.str)]
noncomputable def tyOf (x:Str):Option Ty := tab tyOfTab x
noncomputable def clsTab:List (Str × Cls) := [("WebError",.webError),("BadWeb",.badWeb),("NoPoint",.noPoint),("BadText",.badText),("BadOrder",.badOrder),("HasGap",.hasGap)]
noncomputable def clsOf (x:Str):Option Cls := tab clsTab x
noncomputable def attOf (x:Str):Option Att :=
  if x == ("many":Str) then some .many else if x == ("rows":Str) then some .rows else if x == ("order":Str) then some .order else if x == ("ring":Str) then some .ring
  else if x == ("crowd":Str) then some .crowd else if x == ("colours":Str) then some .colours else none
noncomputable def lmOfTab:List (Str × LM) := [("append",.append),("clear",.clear),("count",.count),("extend",.extend),("index",.index),("remove",.remove),("reverse",.reverse),("setdefault",.setdefault),("split",.split),("join",.join)]
noncomputable def lmOf (x:Str):Option LM := tab lmOfTab x
noncomputable def ownMeth (x:Str):Option Str :=
  if x == ("need":Str) then some "Web.need" else if x == ("beside":Str) then some "Web.beside" else if x == ("tied":Str) then some "Web.tied" else if x == ("ties":Str) then some "Web.ties" else none
noncomputable def biTab:List (Str × (Nat × BI)) := [("len",(1,.len)),("list",(1,.list)),("sorted",(1,.sorted)),("max",(2,.max)),("min",(2,.min)),("min",(1,.minL)),("all",(1,.all)),("any",(1,.any)),("str",(1,.str)),("int",(1,.int))]
noncomputable def tab2:List (Str × (Nat × BI)) → Str → Nat → Option BI
  | [],_,_=>none
  | p :: r,x,n=>if x == p.1 && n == p.2.1 then some p.2.2 else tab2 r x n
theorem tab2_mem {x:Str} {n:Nat} {b:BI} {t:List (Str × (Nat × BI))} (h:tab2 t x n = some b):(x,(n,b)) ∈ t := by
  induction t with
  | nil=>cases h
  | cons p r ih =>
    replace h:(if (x == p.1 && n == p.2.1) = true then some p.2.2 else tab2 r x n) = some b := h
    by_cases q:(x == p.1 && n == p.2.1) = true
    · rw [if_pos q] at h
      cases h
      have z := Bool.and_eq_true_iff.mp q
      rw [beq_iff_eq.mp z.1,beq_iff_eq.mp z.2]
      exact .head _
    · rw [if_neg q] at h
      exact .tail _ (ih h)
noncomputable def biOf (x:Str) (n:Nat):Option BI := tab2 biTab x n
noncomputable def ownFn (f:Str):Option (Cls × Str) :=
  if f == ("Web.__init__":Str) then some (.web,"__init__") else if f == ("Verdict.__init__":Str) then some (.verdict,"__init__") else if f == ("Web.need":Str) then some (.web,"need")
  else if f == ("Web.beside":Str) then some (.web,"beside") else if f == ("Web.tied":Str) then some (.web,"tied") else if f == ("Web.ties":Str) then some (.web,"ties") else none
noncomputable def noCall:List Str := ["isinstance","range","enumerate","reversed","set","len","list","sorted","max","min","all","any","str","int","super","type"]
noncomputable def isConst (x:Str):Bool := x == ("MOST":Str) || x == ("FIGURES":Str)
noncomputable def compOk (names:List Str) (out sc:Scope) (ts:List Str):Bool :=
  (match ts with | [x,y]=>x != y | _=>true) && sc.kind == .function && sc.names.all (fun p=>p.2 != .local || ts.contains p.1 || !names.contains p.1) && sc.names.all (fun p=>p.2 != .cell && (p.2 != .local || sc.names.lookup p.1 == some .local) && (p.2 != .free || (out.names.lookup p.1 == some .cell && sc.names.lookup p.1 == some .free)))
    && ts.all fun t=>sc.names.lookup t == some .local
noncomputable def nameE:Expr → Option Str
  | .Name x _=>some x
  | _=>none
noncomputable def pairN:List Expr → Option (List Str)
  | [a,b]=>(match nameE a with
    | some x=>(match nameE b with
      | some y=>some [x,y]
      | none=>none)
    | none=>none)
  | _=>none
noncomputable def twoNames:Expr → Option (List Str)
  | .Name x _=>some [x]
  | .Tuple es _ _=>pairN es
  | _=>none
theorem nameE_is {e:Expr} {x:Str} (h:nameE e = some x):∃ p,e = .Name x p := by
  cases e <;> try exact @nn _ _ _ h
  case Name y p=>cases h; exact ⟨p,rfl⟩
theorem pairN_is {es:List Expr} {ts:List Str} (h:pairN es = some ts):∃ x p y q,es = [.Name x p,.Name y q] ∧ ts = [x,y] := by
  rcases es with _ | ⟨a,_ | ⟨b,_ | ⟨d,es⟩⟩⟩ <;> try exact @nn _ _ _ h
  replace h:(match nameE a with | some x=>(match nameE b with | some y=>some [x,y] | none=>none) | none=>none) = some ts := h
  cases ha:nameE a with
  | none=>rw [ha] at h; cases h
  | some x =>
    cases hb:nameE b with
    | none=>rw [ha,hb] at h; cases h
    | some y =>
      rw [ha,hb] at h
      cases h
      obtain ⟨p,rfl⟩ := nameE_is ha
      obtain ⟨q,rfl⟩ := nameE_is hb
      exact ⟨x,p,y,q,rfl,rfl⟩
theorem twoNames_is {e:Expr} {ts:List Str} (h:twoNames e = some ts):(∃ x p,e = .Name x p ∧ ts = [x]) ∨ (∃ x p y q k r,e = .Tuple [.Name x p,.Name y q] k r ∧ ts = [x,y]) := by
  refine by_c fun no=>?_
  cases e <;> try exact @nn _ _ _ h
  case Name x p=>exact no (.inl ⟨x,p,rfl,(Option.some.inj h).symm⟩)
  case Tuple es k r =>
    obtain ⟨x,p,y,q,rfl,e⟩ := pairN_is h
    exact no (.inr ⟨x,p,y,q,k,r,rfl,e⟩)
noncomputable def asCall:Expr → Option (Expr × List Expr × Bool)
  | .Call g as kw _=>some (g,as,kw.isEmpty)
  | _=>none
theorem asCall_is {e g:Expr} {as:List Expr} (h:asCall e = some (g,as,true)):∃ p,e = .Call g as [] p := by
  cases e <;> try exact @nn _ _ _ h
  case Call g' as' kw p =>
    have h' := Option.some.inj h
    cases kw with
    | nil=>cases h'; exact ⟨p,rfl⟩
    | cons a b=>cases h'
noncomputable def callName (e:Expr):Option (Str × List Expr) := match asCall e with
  | some (g,as,true)=>(match nameE g with
    | some x=>some (x,as)
    | none=>none)
  | _=>none
theorem callName_is {e:Expr} {x:Str} {as:List Expr} (h:callName e = some (x,as)):∃ p p',e = .Call (.Name x p) as [] p' := by
  unfold callName at h
  cases q:asCall e with
  | none=>rw [q] at h; cases h
  | some r =>
    obtain ⟨g,as',k⟩ := r
    rw [q] at h
    cases k with
    | false=>cases h
    | true =>
      obtain ⟨p',rfl⟩ := asCall_is q
      cases q':nameE g with
      | none=>simp only [q'] at h; cases h
      | some y =>
        simp only [q'] at h
        cases h
        obtain ⟨p,rfl⟩ := nameE_is q'
        exact ⟨p,p',rfl⟩
noncomputable def mapO (f:Expr → Option X):List Expr → Option (List X)
  | []=>some []
  | e :: r=>do return (← f e) :: (← mapO f r)
noncomputable def optO (f:Expr → Option X):Option Expr → Option X
  | none=>some .omit
  | some e=>f e
noncomputable def boolO (f:Expr → Option X) (op:BoolOp):List Expr → Option X
  | []=>none
  | e :: r=>(match r with
    | []=>f e
    | _=>(match op with
      | .And=>do return .and (← f e) (← boolO f op r)
      | .Or=>do return .or (← f e) (← boolO f op r)))
noncomputable def isTwo:Expr → Bool
  | .Tuple ..=>true
  | _=>false
noncomputable def srcO (f:Expr → Option X) (c:Cx) (two:Bool) (e:Expr):Option X :=
  match callName e with
  | some (x,args) =>
    if c.global x && x == ("range":Str) then (if args.length == 1 || args.length == 2 then do return .range (← mapO f args) else none)
    else if c.global x && x == ("enumerate":Str) then (match args with | [a]=>if two then do return .enum (← f a) else none | _=>none)
    else if c.global x && x == ("reversed":Str) then (match args with | [a]=>do return .rev (← f a) | _=>none)
    else do return .val (← f e)
  | none=>do return .val (← f e)
noncomputable def innerCall (c:Cx) (nm:Str) (args:List Expr):Option (List Expr) := match args with
  | [e]=>(match callName e with
    | some (s,as)=>if c.global s && s == nm then some as else none
    | none=>none)
  | _=>none
theorem innerCall_is {c:Cx} {nm:Str} {args as:List Expr} (h:innerCall c nm args = some as):∃ sp sp',args = [.Call (.Name nm sp) as [] sp'] ∧ c.global nm = true := by
  rcases args with _ | ⟨e,_ | ⟨e',r⟩⟩ <;> try exact @nn _ _ _ h
  replace h:(match callName e with | some (s,as)=>if c.global s && s == nm then some as else none | none=>none) = some as := h
  cases q:callName e with
  | none=>rw [q] at h; cases h
  | some r =>
    obtain ⟨s,bs⟩ := r
    rw [q] at h
    replace h:(if (c.global s && s == nm) = true then some bs else none) = some as := h
    by_cases z:(c.global s && s == nm) = true
    · rw [if_pos z] at h
      cases h
      have z:c.global s = true ∧ s = nm := by simpa using z
      obtain ⟨sp,sp',rfl⟩ := callName_is q
      rw [← z.2]
      exact ⟨sp,sp',rfl,z.1⟩
    · rw [if_neg z] at h; cases h
noncomputable def hTab:List (Str × Str) := [("_law_others","!_law_others")]
noncomputable def hOf (x:Str):Option Str := tab hTab x
noncomputable def bang (f:Str):Bool := f == ("!_law_others":Str)
noncomputable def unbang (f:Str):Str := if f == ("!_law_others":Str) then "_law_others" else f
theorem unbang_id {x:Str} (h:bang x = false):unbang x = x := by
  unfold unbang
  unfold bang at h
  rw [h]; rfl
theorem hOf_is {x y:Str} (h:hOf x = some y):bang y = true ∧ unbang y = x ∧ ownFn y = none ∧ (x == ("__debug__":Str)) = false :=
  (by decide:∀ p ∈ hTab,bang p.2 = true ∧ unbang p.2 = p.1 ∧ ownFn p.2 = none ∧ (p.1 == ("__debug__":Str)) = false) (x,y) (tab_mem h)
noncomputable def twoArgs:List Expr → Option (Expr × Str)
  | [e,t]=>(match nameE t with
    | some x=>some (e,x)
    | none=>none)
  | _=>none
theorem twoArgs_is {args:List Expr} {e:Expr} {x:Str} (h:twoArgs args = some (e,x)):∃ p,args = [e,.Name x p] := by
  rcases args with _ | ⟨a,_ | ⟨b,_ | ⟨d,es⟩⟩⟩ <;> try exact @nn _ _ _ h
  replace h:(match nameE b with | some x=>some (a,x) | none=>none) = some (e,x) := h
  cases q:nameE b with
  | none=>rw [q] at h; cases h
  | some y =>
    rw [q] at h
    cases h
    obtain ⟨p,rfl⟩ := nameE_is q
    exact ⟨p,rfl⟩
noncomputable def callO (f:Expr → Option X) (c:Cx) (x:Str) (args:List Expr):Option X :=
  if x == ("isinstance":Str) then (match twoArgs args with
    | some (e,t)=>if c.global t then (match tyOf t with
      | some ty=>do return .bi (.isinst ty) [← f e]
      | none=>if t == ("ValueError":Str) then do return .isVE (← f e) else none) else none
    | none=>none)
  else if c.hnd then (match hOf x with
    | some y=>do return .call y (← mapO f args)
    | none=>none)
  else match biOf x args.length with
    | some b=>(match b with
      | .sorted=>(match innerCall c "set" args with
        | some [a]=>do return .bi .sortedSet [← f a]
        | _=>do return .bi b (← mapO f args))
      | .list=>(match innerCall c "range" args with
        | some as=>if as.length == 1 || as.length == 2 then do return .bi .listRange (← mapO f as) else none
        | none=>do return .bi b (← mapO f args))
      | _=>do return .bi b (← mapO f args))
    | none=>if noCall.contains x || (ownFn x).isSome || x == ("__debug__":Str) || bang x then none else if x == ("Web":Str) then do return .mk .web (← mapO f args) else if x == ("Verdict":Str) then do return .mk .verdict (← mapO f args)
      else do return .call x (← mapO f args)
noncomputable def okBase:Expr → Bool
  | .Call (.Name _ _) [] [] _=>false
  | _=>true
noncomputable def erStep (r:Cx → Expr → Option X) (c:Cx) (e:Expr):Option X :=
  match e with
  | .Constant k _ _=>(match k with
    | .none=>some .cnone | .bool b=>some (.cbool b) | .int i=>some (.cint i) | .str s=>some (.cstr s) | _=>none)
  | .Name x _=>if x == ("__debug__":Str) || x == ("__classdict__":Str) then none else (match c.slot x with
    | some i=>some (.var i)
    | none=>if c.global x then (if isConst x then some (.glob x) else none) else none)
  | .UnaryOp .Not e _=>do return .not (← r c e)
  | .UnaryOp .USub e _=>do return .neg (← r c e)
  | .BoolOp op es _=>boolO (r c) op es
  | .BinOp l op e _=>do return .bin op (← r c l) (← r c e)
  | .Compare l [o] [e] _=>do return .cmp o (← r c l) (← r c e)
  | .Compare l [o,o'] [m,e] _=>do return .chain (← r c l) o (← r c m) o' (← r c e)
  | .Call (.Name x _) args [] _=>if c.global x then callO (r c) c x args else none
  | .Call (.Attribute o m ap) args [] p=>if ap.endLine == p.line && decide (args.length < 3) && okBase o then (match ownMeth m with
    | some g=>do return .meth g (← r c o) (← mapO (r c) args)
    | none=>do return .lm (← lmOf m) (← r c o) (← mapO (r c) args)) else none
  | .Attribute o a _=>if okBase o then do return .attr (← r c o) (← attOf a) else none
  | .Subscript o (.Slice l u st _) _=>do return .slice (← r c o) (← optO (r c) l) (← optO (r c) u) (← optO (r c) st)
  | .Subscript o s _=>do return .sub (← r c o) (← r c s)
  | .List es _=>if es.length < 100 then do return .list (← mapO (r c) es) else none
  | .Tuple es _ _=>if es.length < 100 then do return .tuple (← mapO (r c) es) else none
  | .Dict [] [] _=>some (.dict [] [])
  | .ListComp elt [⟨t,it,ifs,a⟩] sc _=>(match twoNames t with
    | some ts=>if a == 0 && compOk c.names c.sc sc ts then (match ifs with
        | []=>do return .comp ts.length (← srcO (r c) c (isTwo t) it) (← r ⟨ts ++ c.names,sc,false,true⟩ elt)
        | [cond]=>do return .compIf ts.length (← srcO (r c) c (isTwo t) it) (← r ⟨ts ++ c.names,sc,false,true⟩ cond) (← r ⟨ts ++ c.names,sc,false,true⟩ elt)
        | _=>none)
      else none
    | none=>none)
  | _=>none
noncomputable def calmE:Expr → Bool
  | .Constant ..=>true
  | .Name ..=>true
  | .UnaryOp ..=>true
  | .BoolOp ..=>true
  | .Compare ..=>true
  | .Call (.Name _ _) _ _ _=>true
  | _=>false
noncomputable def erE:Nat → Cx → Expr → Option X
  | 0=>fun _ _=>none
  | n + 1=>fun c e=>if c.hnd && !calmE e then none else erStep (erE n) c e
noncomputable def mapS (f:Stmt → Option S):List Stmt → Option (List S)
  | []=>some []
  | e :: r=>do return (← f e) :: (← mapS f r)
noncomputable def tgtN (c:Cx):List Str → Option Tgt
  | []=>none
  | x :: r=>(match r with
    | []=>(c.own x).map .one
    | y :: r'=>(match r' with
      | []=>do return .two (← c.own x) (← c.own y)
      | _ :: _=>none))
noncomputable def tgtO (c:Cx) (e:Expr):Option Tgt := match twoNames e with
  | some ts=>tgtN c ts
  | none=>none
theorem tgtO_is {c:Cx} {e:Expr} {t:Tgt} (h:tgtO c e = some t):(∃ x p,e = .Name x p ∧ B1 (c.own x) Tgt.one t) ∨ (∃ x p y q k r,e = .Tuple [.Name x p,.Name y q] k r ∧ B2 (c.own x) (c.own y) Tgt.two t) := by
  replace h:(match twoNames e with | some ts=>tgtN c ts | none=>none) = some t := h
  cases q:twoNames e with
  | none=>rw [q] at h; cases h
  | some ts =>
    rcases twoNames_is q with ⟨x,p,rfl,rfl⟩ | ⟨x,p,y,p',k,r,rfl,rfl⟩
    · refine .inl ⟨x,p,rfl,?_⟩
      obtain ⟨i,hi,e⟩ := Option.map_eq_some_iff.mp (show (c.own x).map Tgt.one = some t from h)
      exact ⟨i,hi,e⟩
    · exact .inr ⟨x,p,y,p',k,r,rfl,b2 (show ((c.own x) >>= fun i=>(c.own y) >>= fun j=>pure (Tgt.two i j)) = some t from h)⟩
noncomputable def still:S → Bool
  | .expr _=>true
  | .assign _ _=>true
  | .ite _ [a] [b]=>still a && still b
  | _=>false
noncomputable def stills:List S → Bool
  | [a]=>still a
  | _=>false
noncomputable def notComp:Expr → Bool
  | .ListComp ..=>false
  | .SetComp ..=>false
  | .DictComp ..=>false
  | _=>true
noncomputable def erAssign (n:Nat) (c:Cx) (t e:Expr):Option S :=
  match t with
  | .Name x _=>do return .assign (← c.own x) (← erE n c e)
  | .Attribute o a _=>do return .setattr (← erE n c o) (← attOf a) (← erE n c e)
  | .Subscript o i _=>(match i with
    | .Slice ..=>none
    | i=>do return .setitem (← erE n c o) (← erE n c i) (← erE n c e))
  | _=>none
noncomputable def strE:Expr → Bool
  | .Constant (.str _) _ _=>true
  | _=>false
noncomputable def raiseCls (c:Cx) (e:Option Expr):Option Cls :=
  match e with
  | some e=>(match callName e with
    | some (x,args)=>(match args with
      | [a]=>if strE a && c.global x then clsOf x else none
      | _=>none)
    | none=>none)
  | none=>none
noncomputable def erSStep (n:Nat) (r:Cx → Stmt → Option S) (c:Cx) (s:Stmt):Option S :=
  match s with
  | .Assign ts e _=>(match ts with
    | [t]=>erAssign n c t e
    | _=>none)
  | .Expr e _=>if notComp e then do return .expr (← erE n c e) else none
  | .If t a b _=>do return .ite (← erE n c t) (← mapS (r c) a) (← mapS (r c) b)
  | .For t it body els _=>(match els with
    | []=>do return .for (← tgtO c t) (← srcO (erE n c) c (isTwo t) it) (← mapS (r c) body)
    | _=>none)
  | .While t body els _=>(match els with
    | []=>do return .while (← erE n c t) (← mapS (r c) body)
    | _=>none)
  | .Return e _=>(match e with
    | some e=>do return .ret (← erE n c e)
    | none=>none)
  | .Pass _=>some .pass
  | .Raise e z _=>(match z with
    | none=>do return .raise (← raiseCls c e)
    | some _=>none)
  | _=>none
noncomputable def calmS:Stmt → Bool
  | .Return ..=>true
  | .If ..=>true
  | _=>false
noncomputable def erS:Nat → Cx → Stmt → Option S
  | 0=>fun _ _=>none
  | n + 1=>fun c s=>if (c.hnd && !calmS s) || c.cmp then none else erSStep (n + 1) (erS n) c s
noncomputable def slotNames (params:Arguments) (sc:Scope):List Str :=
  params.args.map (·.arg) ++ (sc.names.filter fun p=>(p.2 == .local || p.2 == .cell) && !(params.args.any fun a=>a.arg == p.1)).map (·.1)
noncomputable def plainParams (p:Arguments):Bool := p.posonlyargs.isEmpty && p.vararg.isNone && p.kwonlyargs.isEmpty && p.kw_defaults.isEmpty && p.kwarg.isNone && p.defaults.isEmpty
noncomputable def erFn (h:Bool) (params:Arguments) (body:List Stmt) (sc:Scope):Option Fn :=
  if plainParams params && sc.kind == .function && !sc.isGenerator && !sc.isCoroutine then do
    let ns := slotNames params sc
    return ⟨ns.length,params.args.length,← mapS (erS 40 ⟨ns,sc,h,false⟩) body⟩
  else none
end Mine
namespace Mine
open PySem PySem.W PyProof.Rows
set_option genCtorIdx false in
structure Wd where
  prog:Program
  w:World
  K:Frag
  cl:Cls → Addr
  b₀:Heap
  os:OsState
  sa:Addr
  sn:List Int
  hsc:(Ex1 fun items=>An3 (b₀.IsList sa items.toArray) (PyProof.Rows.IntsAre items sn) (items.length ≤ big))
variable {W:Wd}
noncomputable abbrev Wd.M (W:Wd):Model := model W.prog W.w
inductive VR (W:Wd):V → Value → Prop
  | none:VR W .none .none
  | bool (b):VR W (.bool b) (.bool b)
  | int (i t):VR W (.int i) (.int i t)
  | str (s t):VR W (.str s) (.str s t)
  | ref (a):VR W (.ref a) (.ref a)
  | fn {f a}:ownFn f = none → nsIn W.K mainGlobals (unbang f) = some (some (.ref a)) → VR W (.fn f) (.ref a)
  | script:VR W (.script W.sn) (.ref W.sa)
inductive VRs (W:Wd):List V → List Value → Prop
  | nil:VRs W [] []
  | cons {v c vs cs}:VR W v c → VRs W vs cs → VRs W (v :: vs) (c :: cs)
theorem VRs.length {vs cs} (h:VRs W vs cs):vs.length = cs.length := by
  induction h with
  | nil=>rfl
  | cons _ _ ih=>exact congrArg Nat.succ ih
theorem VRs.append {vs cs vs' cs'} (h:VRs W vs cs) (h':VRs W vs' cs'):VRs W (vs ++ vs') (cs ++ cs') := by
  induction h with
  | nil=>exact h'
  | cons h _ ih=>exact .cons h ih
theorem VRs.get {vs cs} (i:Nat) {v} (h:VRs W vs cs) (e:vs[i]? = some v):∃ c,cs[i]? = some c ∧ VR W v c := by
  induction h generalizing i with
  | nil=>cases e
  | cons h _ ih =>
    cases i with
    | zero=>cases e; exact ⟨_,rfl,h⟩
    | succ i=>exact ih i e
theorem VRs.get' {vs cs} (i:Nat) {c} (h:VRs W vs cs) (e:cs[i]? = some c):∃ v,vs[i]? = some v ∧ VR W v c := by
  induction h generalizing i with
  | nil=>cases e
  | cons h _ ih =>
    cases i with
    | zero=>cases e; exact ⟨_,rfl,h⟩
    | succ i=>exact ih i e
theorem VRs.set {vs cs} (i:Nat) {v c} (h:VRs W vs cs) (h':VR W v c):VRs W (vs.set i v) (cs.set i c) := by
  induction h generalizing i with
  | nil=>exact .nil
  | cons h t ih =>
    cases i with
    | zero=>exact .cons h' t
    | succ i=>exact .cons h (ih i)
theorem VRs.take {vs cs} (n:Nat) (h:VRs W vs cs):VRs W (vs.take n) (cs.take n) := by
  induction h generalizing n with
  | nil=>cases n <;> exact .nil
  | cons h _ ih =>
    cases n with
    | zero=>exact .nil
    | succ n=>exact .cons h (ih n)
theorem VRs.drop {vs cs} (n:Nat) (h:VRs W vs cs):VRs W (vs.drop n) (cs.drop n) := by
  induction h generalizing n with
  | nil=>cases n <;> exact .nil
  | cons h t ih =>
    cases n with
    | zero=>exact .cons h t
    | succ n=>exact ih n
theorem VRs.reverse {vs cs} (h:VRs W vs cs):VRs W vs.reverse cs.reverse := by
  induction h with
  | nil=>exact .nil
  | cons h _ ih=>rw [List.reverse_cons,List.reverse_cons]; exact ih.append (.cons h .nil)
theorem VRs.replicate {vs cs} (h:VRs W vs cs):∀ n,VRs W (List.replicate n vs).flatten (List.replicate n cs).flatten
  | 0=>.nil
  | n + 1=>by simp only [List.replicate_succ,List.flatten_cons]; exact h.append (h.replicate n)
noncomputable def attName:Att → Str
  | .many=>"many" | .rows=>"rows" | .order=>"order" | .ring=>"ring" | .crowd=>"crowd" | .colours=>"colours"
inductive NsR (W:Wd):List (Att × V) → List DictEntry → Prop
  | nil:NsR W [] []
  | cons {a v fs e es}:e.key.isStr (attName a) = true → (∃ t,e.key = .str (attName a) t) → VR W v e.val → NsR W fs es → NsR W ((a,v) :: fs) (e :: es)
inductive KvR (W:Wd):List (Int × V) → List (Int × Value) → Prop
  | nil:KvR W [] []
  | cons {k v c es kvs}:VR W v c → KvR W es kvs → KvR W ((k,v) :: es) ((k,c) :: kvs)
noncomputable def VE:List Value := [.type "ValueError",.type "Exception",.type "BaseException",.type "object"]
noncomputable def excName:Cls → Str
  | .webError=>"WebError" | .badWeb=>"BadWeb" | .noPoint=>"NoPoint" | .badText=>"BadText" | .badOrder=>"BadOrder" | .hasGap=>"HasGap" | _=>""
noncomputable def mroIn (K:Frag) (C:Addr):List Value := match K.lookup C with
  | some ⟨_,_,.cls cd,_⟩=>cd.mro
  | _=>[]
noncomputable def cNames:List Str := ["__getattribute__","__getattr__","__class__"]
noncomputable def tailNIn (K:Frag):List Value → Bool
  | []=>false
  | v :: r=>(v :: r) == VE || (match v with
    | .ref A=>(match K.lookup A with
      | some ⟨_,_,.cls cd,_⟩=>nsOkIn K cd.ns && cNames.all (fun n=>nsIn K cd.ns n == some none) && tailNIn K r
      | _=>false)
    | _=>false)
structure ExcOk (W:Wd) (c:Cls):Prop where
  name:nsIn W.K mainGlobals (excName c) = some (some (.ref (W.cl c)))
  own:excIn W.K (W.cl c) VE "ValueError.__new__" = true
  quiet:tailNIn W.K (mroIn W.K (W.cl c)) = true
inductive OR (W:Wd):O → Obj → Prop
  | list {xs items n}:VRs W xs items → xs.length ≤ big → OR W (.list xs) { cls := .type "list",data := .seq items.toArray n }
  | tuple {xs items n}:VRs W xs items → xs.length ≤ big → OR W (.tuple xs) { cls := .type "tuple",data := .seq items.toArray n }
  | dict {es kvs ob}:KvR W es kvs → es.length ≤ big → ob.IsDictOf (intKind W.prog W.w) kvs → OR W (.dict es) ob
  | inst {c d}:(c = .web ∨ c = .verdict) → OR W (.inst c d) (instObj (W.cl c) d)
  | ns {fs es n}:NsR W fs es → fs.length ≤ 10 → OR W (.ns fs) (dictOf es n)
  | exc {c ob vs}:ExcOk W c → ob.cls = .ref (W.cl c) → ob.data = .fields vs → OR W (.exc c) ob
set_option genCtorIdx false in
structure HB where
  h:Heap
  fs:List Addr
noncomputable def HB.get? (x:HB) (a:Addr):Option Obj := x.h.get? a
noncomputable def Same (W:Wd) (fs:List Addr) (b:Addr) (o o':Obj):Prop := o' = o ∨ ((b ∈ fs ∧ W.b₀.get? b = none) ∧ ∃ sl,o' = { o with slots := sl })
theorem Same.refl {fs:List Addr} {b:Addr} {o:Obj}:Same W fs b o o := .inl rfl
theorem Same.trans {fs:List Addr} {b:Addr} {o o' o'':Obj} (h:Same W fs b o o') (h':Same W fs b o' o''):Same W fs b o o'' := by
  rcases h with rfl | ⟨d,sl,rfl⟩
  · exact h'
  · rcases h' with rfl | ⟨_,sl',rfl⟩
    · exact .inr ⟨d,sl,rfl⟩
    · exact .inr ⟨d,sl',rfl⟩
noncomputable def Kept (W:Wd) (h:HB) (h':Heap):Prop := ∀ b o,h.get? b = some o → ∃ o',h'.get? b = some o' ∧ Same W h.fs b o o'
theorem Kept.of {h:HB} {h':Heap} (k:∀ b o,h.get? b = some o → h'.get? b = some o):Kept W h h' := fun b o e=>⟨o,k b o e,.refl⟩
theorem Kept.more {h:HB} {h' h'':Heap} (k:Kept W h h') (k':∀ b o,h'.get? b = some o → h''.get? b = some o):Kept W h h'' := fun b o e =>
  let ⟨o',e1,s1⟩ := k b o e; ⟨o',k' b o' e1,s1⟩
theorem Kept.trans {h h₁:HB} {h'':Heap} (k:Kept W h h₁.h) (hf:∀ b o,h.get? b = some o → b ∈ h₁.fs → b ∈ h.fs) (k':Kept W h₁ h''):Kept W h h'' := fun b o e =>
  let ⟨_,e1,s1⟩ := k b o e; let ⟨_,e2,s2⟩ := k' b _ e1; ⟨_,e2,s1.trans (s2.imp id fun ⟨⟨m,n⟩,z⟩=>⟨⟨hf b o e m,n⟩,z⟩)⟩
theorem Kept.exact {h:HB} {h':Heap} (k:Kept W h h') {b:Addr} {o:Obj} (e:h.get? b = some o) (hx:b ∉ h.fs ∨ W.b₀.get? b ≠ none):h'.get? b = some o := by
  obtain ⟨o',e1,s | ⟨⟨d,n⟩,_⟩⟩ := k b o e
  · rw [e1,s]
  · rcases hx with hx | hx
    · exact absurd d hx
    · exact absurd n hx
theorem Kept.ns {h:HB} {h':Heap} (k:Kept W h h') {a:Addr} {m:Str → Option Value} (x:h.h.Ns a m):h'.Ns a m := by
  obtain ⟨o,es,ep,ho,hd,r⟩ := x
  obtain ⟨o',e1,s⟩ := k a o ho
  refine ⟨o',es,ep,e1,?_,r⟩
  rcases s with rfl | ⟨_,_,rfl⟩ <;> exact hd
theorem Kept.none {h:HB} {h':Heap} (k:Kept W h h') {b:Addr} (e:h'.get? b = none):h.get? b = none := by
  cases q:h.get? b with
  | none=>rfl
  | some o=>obtain ⟨_,e1,_⟩ := k b o q; rw [e] at e1; cases e1
structure Rel (W:Wd) (h₀:HB) (env:Env) (names:List Str) (H:AH) (ρ:Loc) (s:Shared):Prop where
  ns:∃ m,s.heap.Ns env.locals m ∧ ∀ x i v,names.idxOf? x = some i → env.kindOf x = some .local → ρ[i]? = some (some v) → ∃ c,m x = some c ∧ VR W v c
  cell:∀ x a,env.cells.lookup x = some a → ∃ w,s.heap.IsCell a w ∧ ∀ i v,names.idxOf? x = some i → (env.kindOf x = some .cell ∨ env.kindOf x = some .free) → ρ[i]? = some (some v) → ∃ c,w = some c ∧ VR W v c
  keep:Kept W h₀ s.heap
  objs:∀ a o,H a = some o → ∃ ob,s.heap.get? a = some ob ∧ OR W o ob
  sep:∀ a o,H a = some o → h₀.get? a = none ∧ a ≠ env.locals ∧ ∀ x,env.cells.lookup x ≠ some a
  gens:s.gens = #[]
  os:s.os = W.os
  above:W.b₀.objs.size ≤ env.locals
  low:∀ a es,H a = some (.dict es) → W.b₀.objs.size ≤ a
structure EnvOk (W:Wd) (env:Env) (c:Cx) (h₀:HB):Prop where
  kind:env.scope.kind = .function
  globals:env.globals = mainGlobals
  builtins:env.builtins = builtinsNs
  kinds:∀ x k,c.sc.names.lookup x = some k → k ≠ .free → env.kindOf x = some k
  frees:∀ x,c.sc.names.lookup x = some .free → env.kindOf x = some .cell ∨ env.kindOf x = some .free
  cells:∀ x,env.kindOf x = some .cell ∨ env.kindOf x = some .free → ∃ a,env.cells.lookup x = some a
  apart:∀ x a,env.cells.lookup x = some a → a ≠ env.locals
  inj:∀ x y a,env.cells.lookup x = some a → env.cells.lookup y = some a → x = y
  base:∀ b o,W.b₀.get? b = some o → h₀.get? b = some o
  new:h₀.get? env.locals = none
  fsok:∀ L ∈ h₀.fs,h₀.get? L ≠ none
  fsd:∀ L ∈ h₀.fs,W.b₀.get? L = none ∧ ∀ o,h₀.get? L = some o → ∀ vs,o.data ≠ .fields vs
  newc:∀ p ∈ env.cells,h₀.get? p.2 = none
  look:∀ p ∈ env.cells,env.cells.lookup p.1 = some p.2
  lo:sysModules < W.b₀.objs.size
section
variable {h₀:HB} {env:Env} {names:List Str} {H:AH} {ρ:Loc} {s:Shared}
theorem Rel.toks (R:Rel W h₀ env names H ρ s) (t:Nat):Rel W h₀ env names H ρ { s with toks := t } := ⟨R.ns,R.cell,R.keep,R.objs,R.sep,R.gens,R.os,R.above,R.low⟩
theorem Rel.move (R:Rel W h₀ env names H ρ s) {h':Heap} (t:Nat) (k:∀ b o,s.heap.get? b = some o → h'.get? b = some o):Rel W h₀ env names H ρ { s with heap := h',toks := t } where
  ns := let ⟨m,a,b⟩ := R.ns; ⟨m,a.keeps k,b⟩
  cell := fun x a e=>let ⟨w,⟨o,ho,hd⟩,r⟩ := R.cell x a e; ⟨w,⟨o,k _ _ ho,hd⟩,r⟩
  keep := R.keep.more k
  objs := fun a o e=>let ⟨ob,h1,h2⟩ := R.objs a o e; ⟨ob,k _ _ h1,h2⟩
  sep := R.sep
  gens := R.gens
  os := R.os
  above := R.above
  low := R.low
theorem none_of_size {h h₀:Heap} (k:∀ b o,h₀.get? b = some o → h.get? b = some o):h₀.get? h.objs.size = none := by
  cases q:h₀.get? h.objs.size with
  | none=>rfl
  | some o=>exact absurd (Heap.lt_size (k _ _ q)) (Nat.lt_irrefl _)
theorem Rel.fresh (R:Rel W h₀ env names H ρ s):H s.heap.objs.size = none := by
  cases q:H s.heap.objs.size with
  | none=>rfl
  | some o=>obtain ⟨ob,h1,_⟩ := R.objs _ _ q; exact absurd (Heap.lt_size h1) (Nat.lt_irrefl _)
theorem newAt {a:Addr} {h:Heap} (ha:h.objs.size ≤ a):h.get? a = none := by
  cases q:h.get? a with
  | none=>rfl
  | some o=>exact absurd (Heap.lt_size q) (Nat.not_lt.mpr ha)
theorem Rel.up (R:Rel W h₀ env names H ρ s):W.b₀.objs.size ≤ s.heap.objs.size := by
  obtain ⟨m,h,_⟩ := R.ns; exact Nat.le_trans R.above (Nat.le_of_lt h.lt)
theorem Rel.put (R:Rel W h₀ env names H ρ s) {h':Heap} {a:Addr} {o:O} {ob:Obj} (t:Nat) (k:∀ b o,s.heap.get? b = some o → h'.get? b = some o)
    (ho:h'.get? a = some ob) (r:OR W o ob) (hn:s.heap.get? a = none) (hb:∀ es,o = .dict es → W.b₀.objs.size ≤ a):Rel W h₀ env names (upd H a o) ρ { s with heap := h',toks := t } where
  ns := let ⟨m,x,b⟩ := R.ns; ⟨m,x.keeps k,b⟩
  cell := fun x a e=>let ⟨w,⟨o,ho,hd⟩,r⟩ := R.cell x a e; ⟨w,⟨o,k _ _ ho,hd⟩,r⟩
  keep := R.keep.more k
  objs := fun b o' e=>by
    unfold upd at e
    split at e
    · rename_i q; subst q; cases e; exact ⟨ob,ho,r⟩
    · obtain ⟨ob',h1,h2⟩ := R.objs b o' e; exact ⟨ob',k _ _ h1,h2⟩
  sep := fun b o' e=>by
    unfold upd at e
    split at e
    · rename_i q; subst q
      refine ⟨?_,?_,?_⟩
      · exact R.keep.none hn
      · rintro rfl; obtain ⟨m,⟨o,_,_,h,_⟩,_⟩ := R.ns; rw [h] at hn; cases hn
      · intro x q; obtain ⟨w,⟨o,h,_⟩,_⟩ := R.cell x b q; rw [h] at hn; cases hn
    · exact R.sep b o' e
  gens := R.gens
  os := R.os
  above := R.above
  low := fun b o' e=>by
    unfold upd at e
    split at e
    · rename_i q; subst q; exact hb _ (Option.some.inj e)
    · exact R.low b o' e
theorem none_size (h:Heap):h.get? h.objs.size = none := by
  cases q:h.get? h.objs.size with
  | none=>rfl
  | some o=>exact absurd (Heap.lt_size q) (Nat.lt_irrefl _)
theorem Rel.change (R:Rel W h₀ env names H ρ s) {h':Heap} {a:Addr} {o o':O} {ob:Obj} (t:Nat) (he:H a = some o') (k:Heap.SameBut a s.heap h')
    (ho:h'.get? a = some ob) (r:OR W o ob) (hl:∀ es,o = .dict es → ∃ es',o' = .dict es'):Rel W h₀ env names (upd H a o) ρ { s with heap := h',toks := t } := by
  refine by_c fun no=>?_
  obtain ⟨s1,s2,s3⟩ := R.sep a o' he
  refine no ?_;clear no
  refine ⟨?_,?_,?_,?_,?_,R.gens,R.os,R.above,?_⟩
  · obtain ⟨m,x,b⟩ := R.ns; exact ⟨m,x.sameBut k (Ne.symm s2),b⟩
  · intro x c e
    refine by_c fun no=>?_
    obtain ⟨w,⟨oc,hc,hd⟩,r⟩ := R.cell x c e
    refine no ?_;clear no
    exact ⟨w,⟨oc,(k.2 c (fun q=>s3 x (q ▸ e))).trans hc,hd⟩,r⟩
  · intro b x e
    refine by_c fun no=>?_
    obtain ⟨x',e1,z⟩ := R.keep b x e
    refine no ?_;clear no
    exact ⟨x',(k.2 b (fun q=>by rw [q,s1] at e; cases e)).trans e1,z⟩
  · intro b x e
    unfold upd at e
    split at e
    · rename_i q; subst q; cases e; exact ⟨ob,ho,r⟩
    · rename_i q; obtain ⟨ob',h1,h2⟩ := R.objs b x e; exact ⟨ob',(k.2 b q).trans h1,h2⟩
  · intro b x e
    unfold upd at e
    split at e
    · rename_i q; subst q; exact ⟨s1,s2,s3⟩
    · exact R.sep b x e
  · intro b x e
    unfold upd at e
    split at e
    · rename_i q; subst q; obtain ⟨es',rfl⟩ := hl _ (Option.some.inj e); exact R.low b _ he
    · exact R.low b x e
theorem Rel.keepB {c:Cx} (R:Rel W h₀ env names H ρ s) (Y:EnvOk W env c h₀):∀ b o,W.b₀.get? b = some o → s.heap.get? b = some o := fun b o e =>
  R.keep.exact (Y.base b o e) (.inr (by rw [e]; nofun))
theorem Rel.fsd {c:Cx} (R:Rel W h₀ env names H ρ s) (Y:EnvOk W env c h₀) {L:Addr} (m:L ∈ h₀.fs):∃ o,s.heap.get? L = some o ∧ ∀ vs,o.data ≠ .fields vs := by
  cases q:h₀.get? L with
  | none=>exact absurd q (Y.fsok L m)
  | some o =>
    obtain ⟨o',e1,z⟩ := R.keep L o q
    refine ⟨o',e1,?_⟩
    rcases z with z | ⟨_,sl,z⟩ <;> rw [z] <;> exact (Y.fsd L m).2 o q
theorem Rel.script {c:Cx} (Y:EnvOk W env c h₀) (R:Rel W h₀ env names H ρ s):(Ex1 fun items=>An3 (s.heap.IsList W.sa items.toArray) (IntsAre items W.sn) (items.length ≤ big)):= by
  obtain ⟨items,⟨o,h1,h2⟩,h3,h4⟩ := W.hsc
  exact ⟨items,⟨o,R.keepB Y _ _ h1,h2⟩,h3,h4⟩
end
end Mine
namespace Mine
open PySem PySem.W PyProof.Rows
variable {W:Wd} {A:Around} {h₀:HB} {env:Env} {c:Cx} {names:List Str} {H:AH} {ρ:Loc} {s:Shared} {E:Value → Shared → Prop} {n:Nat} {Er:EP}
noncomputable def Res (W:Wd) (h₀:HB) (env:Env) (names:List Str) (ρ:Loc) (Q:Post) (v:Value) (s':Shared):Prop := (Ex2 fun a H'=>An3 (VR W a v) (Rel W h₀ env names H' ρ s') (Q a H'))
noncomputable def Stk (A:Around) (fs:List Addr):Prop := ∃ l,A.frames = some l ∧ ∀ x ∈ l,x.scope.kind ≠ .module ∧ ∃ L,x.frame = some L ∧ L ∈ fs
theorem Stk.more {A:Around} {fs fs':List Addr} (x:Stk A fs) (h:∀ L ∈ fs,L ∈ fs'):Stk A fs' := let ⟨l,e,z⟩ := x; ⟨l,e,fun y m=>let ⟨k,L,f,g⟩ := z y m; ⟨k,L,f,h L g⟩⟩
structure AOk (A:Around) (c:Cx) (h₀:HB) (env:Env) (E:EP) (n:Nat):Prop where
  handled:c.hnd = false → A.handled = none
  room:A.depth + 4 * n + 4 < recursionLimit
  units:A.units + 30 * n + 60 < cLine
  stk:Stk A (env.locals :: h₀.fs)
  top:c.cmp = false → ∃ outer,A.frames = some (env :: outer) ∧ env.frame = some env.locals
  noE:c.cmp = true → ∀ v H,¬ E v H
noncomputable def Hid (h₀:HB) (env:Env) (H:AH) (hs:List Addr):Prop := ∀ b ∈ hs,H b = none ∧ h₀.get? b = none ∧ b ≠ env.locals ∧ ∀ p ∈ env.cells,p.2 ≠ b
noncomputable def EM (_:Wd) (_:HB) (_:Env) (_:List Str) (_:Loc) (_:EP) (_:Value) (_:Shared):Prop := False
theorem EM.no {P:Prop} {v:Value} {s:Shared} (x:EM W h₀ env names ρ Er v s) (h:∀ v H,¬ Er v H):P := False.elim x
theorem EM.ef {P:Prop} {v:Value} {s:Shared} (x:EM W h₀ env names ρ EF v s):P := False.elim x
noncomputable def others (b₀:Heap) (L:Addr) (h:Heap):List (Addr × Obj) := (List.range h.objs.size).filterMap fun a=>if a = L ∨ (b₀.get? a).isSome = true then none else (h.get? a).map fun o=>(a,o)
theorem mem_others {b₀:Heap} {L:Addr} {h:Heap} {a:Addr} {o:Obj}:(a,o) ∈ others b₀ L h ↔ a ≠ L ∧ b₀.get? a = none ∧ h.get? a = some o := by
  unfold others
  rw [List.mem_filterMap]
  constructor
  · rintro ⟨b,hb,e⟩
    split at e
    · cases e
    · rename_i q
      obtain ⟨o',h1,h2⟩ := Option.map_eq_some_iff.mp e
      cases h2
      simp only [not_or,Bool.not_eq_true,Option.isSome_eq_false_iff,Option.isNone_iff_eq_none] at q
      exact ⟨q.1,q.2,h1⟩
  · rintro ⟨h1,h2,h3⟩
    refine ⟨a,List.mem_range.mpr (Heap.lt_size h3),?_⟩
    rw [if_neg (by simp [h1,h2]),h3]; rfl
theorem Rel.kitF (R:Rel W h₀ env names H ρ s) (Y:EnvOk W env c h₀):∃ m,Fr W.b₀ env.locals s.heap m :=
  let ⟨m,hm,_⟩ := R.ns; ⟨m,hm,R.keepB Y,R.above⟩
theorem kitN:News W.b₀ env.locals s.heap (others W.b₀ env.locals s.heap) := fun p hp=>by
  obtain ⟨a,o⟩ := p
  obtain ⟨h1,h2,h3⟩ := mem_others.mp hp
  exact ⟨h3,h1,h2⟩
theorem kit_ext (R:Rel W h₀ env names H ρ s) (Y:EnvOk W env c h₀) {m:Str → Option Value} {h':Heap} {news':List (Addr × Obj)} (F':Fr W.b₀ env.locals h' m) (N':News W.b₀ env.locals h' news')
    (sub:∀ p ∈ others W.b₀ env.locals s.heap,p ∈ news'):∀ b o,b ≠ env.locals → s.heap.get? b = some o → h'.get? b = some o := fun b o hb e=>by
  cases q:W.b₀.get? b with
  | some o'=>have e1 := R.keepB Y b o' q; rw [e] at e1; cases e1; exact F'.keep b _ q
  | none=>exact (N' (b,o) (sub _ (mem_others.mpr ⟨hb,q,e⟩))).1
theorem Rel.moveL (R:Rel W h₀ env names H ρ s) (Y:EnvOk W env c h₀) {h':Heap} (t:Nat) {m:Str → Option Value} (hm:s.heap.Ns env.locals m) (hm':h'.Ns env.locals m)
    (k:∀ b o,b ≠ env.locals → s.heap.get? b = some o → h'.get? b = some o):Rel W h₀ env names H ρ { s with heap := h',toks := t } where
  ns := by
    refine by_c fun no=>?_
    obtain ⟨m₁,h1,h2⟩ := R.ns
    refine no ?_;clear no
    refine ⟨m,hm',fun x i v e1 e2 e3=>?_⟩
    refine by_c fun no=>?_
    obtain ⟨c,h3,h4⟩ := h2 x i v e1 e2 e3
    refine no ?_;clear no
    refine ⟨c,?_,h4⟩
    refine by_c fun no=>?_
    obtain ⟨o,es,ep,a1,a2,a3,a4⟩ := h1
    refine no ?_;clear no
    refine by_c fun no=>?_
    obtain ⟨o',es',ep',b1,b2,b3,b4⟩ := hm
    refine no ?_;clear no
    rw [a1] at b1; cases b1
    rw [a2] at b2; cases b2
    rw [← b4,a4]; exact h3
  cell := fun x a e=>let ⟨w,⟨o,ho,hd⟩,r⟩ := R.cell x a e; ⟨w,⟨o,k _ _ (Y.apart x a e) ho,hd⟩,r⟩
  keep := fun b o e=>let ⟨o',e1,z⟩ := R.keep b o e; ⟨o',k _ _ (fun q=>by rw [q,Y.new] at e; cases e) e1,z⟩
  objs := fun a o e=>let ⟨ob,h1,h2⟩ := R.objs a o e; ⟨ob,k _ _ (R.sep a o e).2.1 h1,h2⟩
  sep := R.sep
  gens := R.gens
  os := R.os
  above := R.above
  low := R.low
theorem Rel.add (R:Rel W h₀ env names H ρ s) {a:Addr} {o:O} {ob:Obj} (ho:s.heap.get? a = some ob) (r:OR W o ob) (hn:H a = none) (hh:h₀.get? a = none) (hl:a ≠ env.locals) (hc:∀ x,env.cells.lookup x ≠ some a) (hb:W.b₀.objs.size ≤ a) :
    Rel W h₀ env names (upd H a o) ρ s where
  ns := R.ns
  cell := R.cell
  keep := R.keep
  objs := fun b o' e=>by
    unfold upd at e
    split at e
    · rename_i q; subst q; cases e; exact ⟨ob,ho,r⟩
    · exact R.objs b o' e
  sep := fun b o' e=>by
    unfold upd at e
    split at e
    · rename_i q; subst q; exact ⟨hh,hl,hc⟩
    · exact R.sep b o' e
  gens := R.gens
  os := R.os
  above := R.above
  low := fun b o' e=>by
    unfold upd at e
    split at e
    · rename_i q; subst q; exact hb
    · exact R.low b o' e
theorem Rel.new_sep (R:Rel W h₀ env names H ρ s) {a:Addr} (hn:s.heap.get? a = none) (hb:W.b₀.objs.size ≤ a):H a = none ∧ h₀.get? a = none ∧ a ≠ env.locals ∧ (∀ x,env.cells.lookup x ≠ some a) ∧ W.b₀.objs.size ≤ a := by
  refine ⟨?_,?_,?_,?_,hb⟩
  · cases q:H a with
    | none=>rfl
    | some o=>obtain ⟨ob,h1,_⟩ := R.objs _ _ q; rw [hn] at h1; cases h1
  · exact R.keep.none hn
  · rintro rfl; obtain ⟨m,⟨o,_,_,h,_⟩,_⟩ := R.ns; rw [h] at hn; cases hn
  · intro x q; obtain ⟨w,⟨o,h,_⟩,_⟩ := R.cell x a q; rw [h] at hn; cases hn
theorem kit_new (R:Rel W h₀ env names H ρ s) (Y:EnvOk W env c h₀) {m:Str → Option Value} {h':Heap} {a:Addr} {ob:Obj} {o:O} {t:Nat} (F:Fr W.b₀ env.locals s.heap m) (F':Fr W.b₀ env.locals h' m)
    (N':News W.b₀ env.locals h' ((a,ob) :: others W.b₀ env.locals s.heap)) (hn:s.heap.objs.size ≤ a) (r:OR W o ob):H a = none ∧ Rel W h₀ env names (upd H a o) ρ { s with heap := h',toks := t } := by
  refine by_c fun no=>?_
  obtain ⟨q1,q2,q3,q4,q5⟩ := R.new_sep (newAt hn) (Nat.le_trans R.up hn)
  refine no ?_;clear no
  have R' := R.moveL Y t F.ns F'.ns (kit_ext R Y F' N' fun p hp=>.tail _ hp)
  exact ⟨q1,R'.add (N' (a,ob) (.head _)).1 r q1 q2 q3 q4 q5⟩
theorem kit_same (R:Rel W h₀ env names H ρ s) (Y:EnvOk W env c h₀) {m:Str → Option Value} {h':Heap} {t:Nat} (F:Fr W.b₀ env.locals s.heap m) (F':Fr W.b₀ env.locals h' m)
    (N':News W.b₀ env.locals h' (others W.b₀ env.locals s.heap)):Rel W h₀ env names H ρ { s with heap := h',toks := t } := R.moveL Y t F.ns F'.ns (kit_ext R Y F' N' fun _ hp=>hp)
theorem big_line:big ≤ sizeLine := by decide
theorem or_list {xs:List V} {items:List Value} (h:VRs W xs items) (hz:xs.length ≤ big) {n:Nat}:OR W (.list xs) { cls := .type "list",data := .seq items.toArray n } := .list h hz
theorem Rel.push (R:Rel W h₀ env names H ρ s) {o:O} {ob:Obj} (r:OR W o ob) (hf:ob.isFreed = false) (t:Nat):Rel W h₀ env names (upd H s.heap.objs.size o) ρ { s with heap := s.heap.push ob,toks := t } :=
  R.put t (fun _ _ e=>Heap.get?_push_of_some _ e) (Heap.get?_push_size _ hf) r (none_size _) fun _ _=>R.up
theorem Rel.pushHid (R:Rel W h₀ env names H ρ s) (ob:Obj) (t:Nat):Rel W h₀ env names H ρ { s with heap := s.heap.push ob,toks := t } := R.move t fun _ _ e=>Heap.get?_push_of_some _ e
theorem Rel.isList (R:Rel W h₀ env names H ρ s) {a:Addr} {xs:List V} (e:H a = some (.list xs)):(Ex1 fun items=>An3 (s.heap.IsList a items.toArray) (VRs W xs items) (xs.length ≤ big)):= by
  obtain ⟨ob,h1,h2⟩ := R.objs a _ e
  cases h2 with
  | list r z=>exact ⟨_,⟨_,h1,rfl,_,rfl⟩,r,z⟩
theorem Rel.isTup (R:Rel W h₀ env names H ρ s) {a:Addr} {xs:List V} (e:H a = some (.tuple xs)):(Ex1 fun items=>An3 (IsTup s.heap a items.toArray) (VRs W xs items) (xs.length ≤ big)):= by
  obtain ⟨ob,h1,h2⟩ := R.objs a _ e
  cases h2 with
  | tuple r z=>exact ⟨_,⟨_,h1,rfl,_,rfl⟩,r,z⟩
theorem Rel.lst (R:Rel W h₀ env names H ρ s) {a:Addr} {xs:List V} (e:H a = some (.list xs)):(Ex2 fun items n=>An3 (s.heap.get? a = some { cls := .type "list",data := .seq items.toArray n }) (VRs W xs items) (xs.length ≤ big)):= by
  obtain ⟨ob,h1,h2⟩ := R.objs a _ e
  cases h2 with
  | list r z=>exact ⟨_,_,h1,r,z⟩
theorem Rel.changeL (R:Rel W h₀ env names H ρ s) {a:Addr} {xs xs':List V} {items:List Value} {n:Nat} (e:H a = some (.list xs)) (ho:s.heap.get? a = some { cls := .type "list",data := .seq items.toArray n })
    (f:Array Value → Array Value) {items':List Value} (hf:f items.toArray = items'.toArray) (r:VRs W xs' items') (z:xs'.length ≤ big) (t:Nat) :
    Rel W h₀ env names (upd H a (.list xs')) ρ { s with heap := s.heap.update a (Obj.mapSeq f),toks := t } := by
  refine R.change t e (Heap.SameBut.update ..) (Heap.get?_update_self _ ho rfl) ?_ (fun _ q=>by cases q)
  simp only [Obj.mapSeq,hf]
  exact .list r z
theorem Rel.isDict (R:Rel W h₀ env names H ρ s) {a:Addr} {es:List (Int × V)} (e:H a = some (.dict es)):(Ex1 fun kvs=>An3 (s.heap.DictOf (intKind W.prog W.w) a kvs) (KvR W es kvs) (es.length ≤ big)):= by
  refine by_c fun no=>?_
  obtain ⟨ob,h1,h2⟩ := R.objs a _ e
  refine no ?_;clear no
  cases h2 with
  | dict r z d=>obtain ⟨es,ep,h3⟩ := d; exact ⟨_,⟨ob,es,ep,h1,h3⟩,r,z⟩
theorem ints_are {xs:List V} {items:List Value} {ns:List Int} (h:VRs W xs items) (e:ints? xs = some ns):IntsAre items ns := by
  induction h generalizing ns with
  | nil=>cases e; exact .nil
  | cons h _ ih =>
    induction h with
    | int i u =>
      obtain ⟨l,h1,h2⟩ := Option.map_eq_some_iff.mp (show (ints? _).map (i :: ·) = some ns from e)
      subst h2
      exact .cons i u (ih h1)
    | _=>cases e
theorem vrs_ints {items:List Value} {ns:List Int} (h:IntsAre items ns):VRs W (ns.map V.int) items := by
  induction h with
  | nil=>exact .nil
  | cons i u _ ih=>exact .cons (.int i u) ih
theorem ints?_length {xs:List V} {ns:List Int} (e:ints? xs = some ns):ns.length = xs.length := by
  induction xs generalizing ns with
  | nil=>cases e; rfl
  | cons v r ih =>
    cases v <;> first | (cases e; done) | skip
    obtain ⟨l,h1,h2⟩ := Option.map_eq_some_iff.mp (show (ints? r).map _ = some ns from e)
    subst h2
    exact congrArg Nat.succ (ih h1)
theorem insI_perm (x:Int):∀ l:List Int,(insI x l).Perm (x :: l)
  | []=>.refl _
  | y :: r=>by
    unfold insI
    split
    · exact .refl _
    · exact ((insI_perm x r).cons y).trans (.swap x y r)
theorem sortI_perm:∀ l:List Int,(sortI l).Perm l
  | []=>.refl _
  | x :: r=>(insI_perm x (sortI r)).trans ((sortI_perm r).cons x)
theorem insI_sorted (x:Int):∀ {l:List Int},l.Pairwise (· ≤ ·) → (insI x l).Pairwise (· ≤ ·)
  | [],_=>by simp [insI]
  | y :: r,h=>by
    unfold insI
    obtain ⟨h1,h2⟩ := List.pairwise_cons.mp h
    split
    · rename_i q
      refine List.pairwise_cons.mpr ⟨fun z hz=>?_,h⟩
      rcases List.mem_cons.mp hz with rfl | hz
      · exact q
      · exact Int.le_trans q (h1 z hz)
    · rename_i q
      refine List.pairwise_cons.mpr ⟨fun z hz=>?_,insI_sorted x h2⟩
      rcases List.mem_cons.mp ((insI_perm x r).mem_iff.mp hz) with rfl | hz
      · (first | lia | omega)
      · exact h1 z hz
theorem sortI_sorted:∀ l:List Int,(sortI l).Pairwise (· ≤ ·)
  | []=>by simp [sortI]
  | x :: r=>insI_sorted x (sortI_sorted r)
theorem sorted_unique {a b:List Int} (p:a.Perm b) (ha:a.Pairwise (· ≤ ·)) (hb:b.Pairwise (· ≤ ·)):a = b :=
  p.eq_of_pairwise (fun _ _ _ _ h1 h2=>Int.le_antisymm h1 h2) ha hb
end Mine
namespace Mine
open PySem PySem.W PyProof.Rows
variable {W:Wd} {A:Around} {h₀:HB} {env:Env} {c:Cx} {names:List Str} {H:AH} {ρ:Loc} {s:Shared} {E:Value → Shared → Prop} {n:Nat} {Q:Post} {Er:EP}
theorem Res.mk {a:V} {v:Value} (h:VR W a v) (R:Rel W h₀ env names H ρ s) (q:Q a H):Res W h₀ env names ρ Q v s := ⟨a,H,h,R,q⟩
theorem noPylong30 {x y:Int} (h:y.natAbs ≤ 10 ^ 30):Builtin.divisionGoesByPylong x y = false := by
  refine PyProof.noPylong_of_log2 (Nat.lt_of_le_of_lt (m := 100) ?_ (by decide))
  by_cases h0:y.natAbs = 0
  · rw [h0]; decide
  · exact Nat.le_of_lt ((Nat.log2_lt h0).mpr (Nat.lt_of_le_of_lt h (by decide)))
theorem bits64 {k:Int} (h:k.natAbs < 2 ^ 64):Builtin.Int.intBits k ≤ 64 := intBits_le_64 (by omega) (by omega)
theorem flatRep_len {α:Type} (n:Nat) (xs:List α):(List.replicate n xs).flatten.length = n * xs.length := by simp
theorem mulList {l:Addr} {items:List Value} {k:Int} {u:Tok} {Q:Value → Shared → Prop} (h1:s.heap.IsList l items.toArray) (k0:0 ≤ k) (k1:k ≤ 1000) (k2:items.length * k.toNat ≤ big)
    (h:Q (.ref s.heap.objs.size) { s with heap := s.heap.push { cls := .type "list",data := .seq (List.replicate k.toNat items).flatten.toArray } }) :
    wpAny W.M A (binaryOp .Mult (.ref l) (.int k u)) Q E s := by
  refine by_c fun no=>?_
  obtain ⟨⟨cls,d,data,sl⟩,ho,hcl,kk,hd⟩ := id h1
  refine no ?_;clear no
  simp only at hcl hd
  subst hcl hd
  have hz:items.length * k.toNat ≤ 1048576 := k2
  have hz':items.toArray.size * k.toNat ≤ 1048576 := by rw [List.size_toArray]; exact k2
  refine wpAny_binaryOp_repeat_ref (T := "list") (U := "int") (by decide) ⟨_,ho,rfl⟩ (fun s'=>typeIs_int s' k u) noFill_list_mul F.fills_int_mul F.slot_int_rmul repeat_list F.slot_int_index.lookup
    (call_meets F.slot_int_rmul (typeIs_int s k u) F.entry_int_rmul (F.args_int_rmul_2 _ _) (lm_int_rmul_list_any k u l items.toArray kk d sl)
      ⟨ho,rfl,⟨_,ho,rfl⟩,call_meets F.slot_list_mul ⟨_,ho,rfl⟩ F.entry_list_mul (F.args_list_mul_2 _ _)
        (lm_list_mul_any l items.toArray kk d sl k u (by simp [Builtin.List.listFitsIndex]; (first | lia | omega)) (by (first | lia | omega)) (by simp [Builtin.List.listTooLong,sizeLine]; (first | lia | omega)))
        ⟨ho,?_⟩⟩)
  rw [listMul_foldl_if]
  exact h
theorem sound_binOp (Y:EnvOk W env c h₀) (R:Rel W h₀ env names H ρ s) {op:Operator} {a b:V} {u v:Value} (ha:VR W a u) (hb:VR W b v) (q:binOp op a b H Q) :
    wpAny W.M A (binaryOp op u v) (Res W h₀ env names ρ Q) E s := by
  obtain ⟨m,F⟩ := R.kitF Y
  have N:News W.b₀ env.locals s.heap _ := kitN
  cases op <;> try exact q.elim
  case Add =>
    replace q:addOp a b H Q := q
    delta addOp at q
    split at q
    · cases ha; cases hb; exact add_int (Res.mk (.int _ _) (R.toks _) q)
    · split at q
      · rename_i xs ys e1 e2
        cases ha; cases hb
        obtain ⟨l1,h1,r1,z1⟩ := R.isList e1
        obtain ⟨l2,h2,r2,z2⟩ := R.isList e2
        have hz:l1.toArray.size + l2.toArray.size ≤ sizeLine := by simp [← r1.length,← r2.length]; exact Nat.le_trans q.1 big_line
        refine add_arrays (hsz := hz) F N h1 h2 fun h' F' N'=>?_
        obtain ⟨e,R'⟩ := kit_new (t := s.toks) R Y F F' N' (Nat.le_refl _) (or_list (r1.append r2) (by simpa using q.1))
        exact Res.mk (.ref _) R' (q.2 _ e)
      · exact q.elim
    · exact q.elim
  case Sub =>
    replace q:subtOp a b H Q := q
    induction ha <;> try exact q.elim
    induction hb <;> try exact q.elim
    exact sub_int (Res.mk (.int _ _) (R.toks _) q)
  case Mult =>
    replace q:mulOp a b H Q := q
    delta mulOp at q
    split at q
    · cases ha; cases hb
      exact mul_int (Res.mk (.int _ _) (R.toks _) q.2) (q.1.elim (fun h=>IntMulOk.of_left (bits64 h)) fun h=>IntMulOk.of_right (bits64 h))
    · split at q
      · rename_i xs e1
        cases ha; cases hb
        obtain ⟨l1,h1,r1,z1⟩ := R.isList e1
        obtain ⟨⟨k0,k1,k2⟩,q⟩ := q
        refine mulList h1 k0 k1 (by rw [← r1.length]; exact k2) ?_
        have R' := R.push (or_list (r1.replicate _) (by rw [flatRep_len,Nat.mul_comm]; exact k2) (n := 0)) rfl s.toks
        exact Res.mk (.ref _) R' (q _ R.fresh)
      · exact q.elim
    · exact q.elim
  case FloorDiv =>
    replace q:fdivOp a b H Q := q
    induction ha <;> try exact q.elim
    induction hb <;> try exact q.elim
    exact floordiv_int q.1.1 (Res.mk (.int _ _) (R.toks _) q.2) (.inl (noPylong30 q.1.2))
  case Mod =>
    replace q:fmodOp a b H Q := q
    induction ha <;> try exact q.elim
    induction hb <;> try exact q.elim
    exact mod_int' q.1.1 (Res.mk (.int _ _) (R.toks _) q.2)
open PySem.SeqAt in
theorem eqB_sound {a b:V} {u v:Value} {r:Bool} (ha:VR W a u) (hb:VR W b v) (e:eqB a b = some r):EqAt A s u v r ∧ RcAt A s u v r ∧ RcNeAt A s u v (!r) := by
  refine by_c fun no=>?_
  induction ha <;> induction hb <;> first | exact @nn _ _ _ e | (obtain rfl := Option.some.inj e; refine no ?_; clear no)
  · exact ⟨.same _,.none_none,.none_none⟩
  · exact ⟨.none_bool _,.none_bool _,.none_bool _⟩
  · exact ⟨.none_int _ _,.none_int _ _,.none_int _ _⟩
  · exact ⟨.bool_none _,.bool_none _,.bool_none _⟩
  · exact ⟨.bool_bool _ _,.bool_bool _ _,.bool_bool _ _⟩
  · exact ⟨.int_none _ _,.int_none _ _,.int_none _ _⟩
  · rename_i i t j t'
    have:decide (i = j) = (i == j) := by rw [Bool.eq_iff_iff]; simp
    rw [this]; exact ⟨.int_int _ _ _ _,.int_int _ _ _ _,.int_int _ _ _ _⟩
  · rename_i x t y t'
    have:decide (x = y) = (x == y) := by rw [Bool.eq_iff_iff]; simp
    rw [this]; exact ⟨.str_str _ _ _ _,.str_str _ _ _ _,.str_str _ _ _ _⟩
theorem eqB_refl {a:V} {r:Bool} (e:eqB a a = some r):r = true := by
  cases a <;> first | exact @nn _ _ _ e | (obtain rfl := Option.some.inj e) <;> first | rfl | exact decide_eq_true rfl | exact beq_self_eq_true _
theorem allO_some {l:List (Option Bool)} {r:Bool} (h:allO l = some r):∃ e:Nat → Bool,(∀ j x,l[j]? = some x → x = some (e j)) ∧ (List.range l.length).all e = r := by
  induction l generalizing r with
  | nil=>simp only [allO,Option.some.injEq] at h; subst h; exact ⟨fun _=>true,by simp,by simp⟩
  | cons x t ih =>
    cases x with
    | none=>simp [allO] at h
    | some b =>
      simp only [allO,Option.map_eq_some_iff] at h
      obtain ⟨r',h1,h2⟩ := h
      obtain ⟨e,h3,h4⟩ := ih h1
      refine ⟨fun j=>match j with | 0=>b | j + 1=>e j,fun j y hj=>?_,?_⟩
      · cases j with
        | zero=>simp at hj; exact hj.symm
        | succ j=>simp at hj; exact h3 j y hj
      · rw [List.length_cons,List.range_succ_eq_map,List.all_cons,List.all_map]
        subst h2; subst h4; rfl
theorem allO_refl {f:V → V → Option Bool} (hf:∀ a r,f a a = some r → r = true):∀ {xs:List V} {r:Bool},allO (List.zipWith f xs xs) = some r → r = true
  | [],r,h=>by simp [allO] at h; exact h
  | x :: t,r,h=>by
    simp only [List.zipWith_cons_cons] at h
    cases q:f x x with
    | none=>rw [q] at h; simp [allO] at h
    | some b =>
      rw [q] at h
      simp only [allO,Option.map_eq_some_iff] at h
      obtain ⟨r',h1,h2⟩ := h
      rw [hf x b q,allO_refl hf h1] at h2
      exact h2.symm
theorem eqD_form {P:Prop} (n:Nat) (a b:V) (k1:∀ x y,a = .ref x → b = .ref y → P) (k2:∀ x,a = .ref x → b = .none → P) (k3:∀ x,a = .none → b = .ref x → P) (k4:eqD (n + 1) H a b = eqB a b → P):P := by
  cases a <;> first | exact k4 rfl | (cases b <;> first | exact k4 rfl | exact k1 _ _ rfl rfl | exact k2 _ rfl rfl | exact k3 _ rfl rfl)
theorem eqD_RR {P:Prop} {n:Nat} {x y:Addr} {r:Bool} (e:eqD (n + 1) H (.ref x) (.ref y) = some r)
    (k1:∀ xs ys,H x = some (.list xs) → H y = some (.list ys) → (if xs.length = ys.length then allO (List.zipWith (eqD n H) xs ys) else some false) = some r → P)
    (k2:∀ xs ys,H x = some (.tuple xs) → H y = some (.tuple ys) → (if xs.length = ys.length then allO (List.zipWith (eqD n H) xs ys) else none) = some r → P):P := by
  replace e:(match H x,H y with
      | some (.list xs),some (.list ys)=>if xs.length = ys.length then allO (List.zipWith (eqD n H) xs ys) else some false
      | some (.tuple xs),some (.tuple ys)=>if xs.length = ys.length then allO (List.zipWith (eqD n H) xs ys) else none
      | _,_=>none) = some r := e
  generalize H x = ox at *
  generalize H y = oy at *
  cases ox with
  | none=>cases e
  | some o =>
    cases o <;> first | (cases e; done) | skip
    all_goals
      cases oy with
      | none=>cases e
      | some o'=>cases o' <;> first | (cases e; done) | exact k1 _ _ rfl rfl e | exact k2 _ _ rfl rfl e
theorem eqD_RN {P:Prop} {n:Nat} {x:Addr} {r:Bool} (e:eqD (n + 1) H (.ref x) .none = some r ∨ eqD (n + 1) H .none (.ref x) = some r) (k1:∀ xs,r = false → H x = some (.list xs) → P) (k2:∀ xs,r = false → H x = some (.tuple xs) → P):P := by
  replace e:(match H x with | some (.list _)=>some false | some (.tuple _)=>some false | _=>none) = some r := e.elim (fun e=>e) fun e=>e
  generalize H x = ox at *
  cases ox with
  | none=>cases e
  | some o=>cases o <;> first | (cases e; done) | (cases e; first | exact k1 _ rfl rfl | exact k2 _ rfl rfl)
theorem eqD_refl (n:Nat):∀ {a:V} {r:Bool},eqD n H a a = some r → r = true := by
  induction n with
  | zero=>exact fun e=>eqB_refl e
  | succ n ih =>
    intro a r e
    refine eqD_form (H := H) n a a (fun x y q _=>?_) (fun x q q'=>?_) (fun x q q'=>?_) fun q=>?_
    · subst q
      refine eqD_RR e (fun xs ys h1 h2 e=>?_) fun xs ys h1 h2 e=>?_
      · rw [h1] at h2; cases h2
        rw [if_pos rfl] at e; exact allO_refl (fun a r h=>ih h) e
      · rw [h1] at h2; cases h2
        rw [if_pos rfl] at e; exact allO_refl (fun a r h=>ih h) e
    · rw [q] at q'; cases q'
    · rw [q] at q'; cases q'
    · rw [q] at e; exact eqB_refl e
open PySem.SeqAt in
theorem eqD_items {n:Nat} {A:Around} {xs ys:List V} {l1 l2:List Value} {f:Nat → Bool} (ih:∀ {a b:V} {u v:Value} {r:Bool},VR W a u → VR W b v → eqD n H a b = some r → EqAt A s u v r) (r1:VRs W xs l1) (r2:VRs W ys l2)
    (f1:∀ j x',(List.zipWith (eqD n H) xs ys)[j]? = some x' → x' = some (f j)) (j:Nat) (j1:j < l1.toArray.size) (j2:j < l2.toArray.size):EqAt A s l1.toArray[j] l2.toArray[j] (f j) := by
  obtain ⟨x',x1,x2⟩ := r1.get' j (c := l1.toArray[j]) (by simp)
  obtain ⟨y',y1,y2⟩ := r2.get' j (c := l2.toArray[j]) (by simp)
  exact ih x2 y2 (f1 j (eqD n H x' y') (by rw [List.getElem?_zipWith,x1,y1]))
open PySem.SeqAt in
theorem eqD_sound (R:Rel W h₀ env names H ρ s) (n:Nat):∀ (A:Around) {a b:V} {u v:Value} {r:Bool},A.units + n < cLine → VR W a u → VR W b v → eqD n H a b = some r →
    EqAt A s u v r ∧ RcAt A s u v r ∧ RcNeAt A s u v (!r) := by
  induction n with
  | zero=>exact fun A a b u v r _ ha hb e=>eqB_sound ha hb e
  | succ n ih =>
    intro A a b u v r hu ha hb e
    have hA:A.units < cLine := by (first | lia | omega)
    have hA1:A.in1.units + n < cLine := by show A.units + 1 + n < cLine; (first | lia | omega)
    have it := fun {a b:V} {u v:Value} {r:Bool} (ha:VR W a u) (hb:VR W b v) (e:eqD n H a b = some r)=>(ih A.in1 hA1 ha hb e).1
    refine eqD_form (H := H) n a b (fun x y p q=>?_) (fun x p q=>?_) (fun x p q=>?_) fun q=>?_
    · subst p q; cases ha; cases hb
      have fin:∀ {k:Bool},k = r → RcAt A s (.ref x) (.ref y) k → RcNeAt A s (.ref x) (.ref y) (!k) → EqAt A s (.ref x) (.ref y) r ∧ RcAt A s (.ref x) (.ref y) r ∧ RcNeAt A s (.ref x) (.ref y) (!r) := by
        rintro k rfl h1 h2
        refine ⟨?_,h1,h2⟩
        by_cases q:x = y
        · subst q; rw [eqD_refl _ e]; exact .same _
        · exact .of_refs q h1
      refine eqD_RR e (fun xs ys e1 e2 e'=>?_) fun xs ys e1 e2 e'=>?_
      · refine by_c fun no=>?_
        obtain ⟨l1,h1,r1,z1⟩ := R.isList e1
        refine no ?_;clear no
        refine by_c fun no=>?_
        obtain ⟨l2,h2,r2,z2⟩ := R.isList e2
        refine no ?_;clear no
        by_cases hl:xs.length = ys.length
        · rw [if_pos hl] at e'
          refine by_c fun no=>?_
          obtain ⟨f,f1,f2⟩ := allO_some e'
          refine no ?_;clear no
          have hsz:l1.toArray.size = l2.toArray.size := by rw [List.size_toArray,List.size_toArray,← r1.length,← r2.length,hl]
          refine fin ?_ (RcAt.lists h1 h2 hsz hA (eqD_items it r1 r2 f1)) (RcNeAt.lists h1 h2 hsz hA (eqD_items it r1 r2 f1))
          rw [← f2]; congr 2; simp [← r1.length,hl]
        · rw [if_neg hl] at e'
          cases e'
          have hsz:(l1.toArray.size != l2.toArray.size) = true := by simpa [← r1.length,← r2.length] using hl
          exact fin rfl (RcAt.lists_lengths h1 h2 hsz hA) (RcNeAt.lists_lengths h1 h2 hsz hA)
      · refine by_c fun no=>?_
        obtain ⟨l1,h1,r1,z1⟩ := R.isTup e1
        refine no ?_;clear no
        refine by_c fun no=>?_
        obtain ⟨l2,h2,r2,z2⟩ := R.isTup e2
        refine no ?_;clear no
        by_cases hl:xs.length = ys.length
        · rw [if_pos hl] at e'
          refine by_c fun no=>?_
          obtain ⟨f,f1,f2⟩ := allO_some e'
          refine no ?_;clear no
          refine fin ?_ (RcAt.tuples h1 h2 hA (eqD_items it r1 r2 f1)) (RcNeAt.tuples h1 h2 hA (eqD_items it r1 r2 f1))
          rw [← f2]; simp [← r1.length,← r2.length,hl]
        · rw [if_neg hl] at e'; cases e'
    · subst p q; cases ha; cases hb
      refine eqD_RN (.inl e) (fun xs q e1=>?_) fun xs q e1=>?_ <;> subst q
      · refine by_c fun no=>?_
        obtain ⟨l1,h1,r1,z1⟩ := R.isList e1
        refine no ?_;clear no
        exact ⟨.list_none h1 hA,.list_none h1 hA,.list_none h1 hA⟩
      · refine by_c fun no=>?_
        obtain ⟨l1,h1,r1,z1⟩ := R.isTup e1
        refine no ?_;clear no
        exact ⟨.tuple_none h1 hA,.tuple_none h1 hA,.tuple_none h1 hA⟩
    · subst p q; cases ha; cases hb
      refine eqD_RN (.inr e) (fun xs q e1=>?_) fun xs q e1=>?_ <;> subst q
      · refine by_c fun no=>?_
        obtain ⟨l1,h1,r1,z1⟩ := R.isList e1
        refine no ?_;clear no
        exact ⟨.none_list h1 hA,.none_list h1 hA,.none_list h1 hA⟩
      · refine by_c fun no=>?_
        obtain ⟨l1,h1,r1,z1⟩ := R.isTup e1
        refine no ?_;clear no
        exact ⟨.none_tuple h1 hA,.none_tuple h1 hA,.none_tuple h1 hA⟩
    · rw [q] at e; exact eqB_sound ha hb e
theorem anyO_some {l:List (Option Bool)} {r:Bool} (h:anyO l = some r):(∀ x ∈ l,∃ b,x = some b) ∧ r = l.any (· == some true) := by
  induction l generalizing r with
  | nil=>simp only [anyO,Option.some.injEq] at h; subst h; simp
  | cons x t ih =>
    cases x with
    | none=>simp [anyO] at h
    | some b =>
      simp only [anyO,Option.map_eq_some_iff] at h
      obtain ⟨r',h1,h2⟩ := h
      obtain ⟨h3,h4⟩ := ih h1
      refine ⟨fun x hx=>?_,?_⟩
      · rcases List.mem_cons.mp hx with rfl | hx
        · exact ⟨b,rfl⟩
        · exact h3 x hx
      · subst h2; subst h4; cases b <;> simp
noncomputable def eqTo (W:Wd) (v:V) (c:Value):Bool := by classical exact if ∃ x,VR W x c ∧ eqB x v = some true then true else false
theorem vr_fun {x y:V} {c:Value} (h1:VR W x c) (h2:VR W y c) (hx:eqB x v = some r) (hy:eqB y v = some r'):r = r' := by
  induction h1 <;> first | exact @nn _ _ _ hx | (cases h2; exact Option.some.inj (hx.symm.trans hy))
theorem eqTo_is {x v:V} {c:Value} {r:Bool} (h:VR W x c) (e:eqB x v = some r):eqTo W v c = r := by
  unfold eqTo
  cases r with
  | true=>rw [if_pos ⟨x,h,e⟩]
  | false =>
    rw [if_neg]
    rintro ⟨y,h1,h2⟩
    have := vr_fun h h1 e h2
    cases this
open PySem.SeqAt in
theorem memD_sound {v:V} {u:Value} {xs:List V} {items:List Value} {r:Bool} (hu:VR W v u) (hr:VRs W xs items) (e:memD v xs = some r) :
    (∀ y,y ∈ items.toArray → EqAt A s y u (eqTo W v y)) ∧ items.toArray.any (eqTo W v) = r := by
  obtain ⟨h1,h2⟩ := anyO_some e
  constructor
  · intro y hy
    obtain ⟨j,hj⟩ := List.mem_iff_getElem?.mp (by simpa using hy)
    obtain ⟨x,x1,x2⟩ := hr.get' j hj
    obtain ⟨b,hb⟩ := h1 (eqB x v) (List.mem_map_of_mem (List.mem_iff_getElem?.mpr ⟨j,x1⟩))
    rw [eqTo_is x2 hb]
    exact (eqB_sound x2 hu hb).1
  · rw [h2]
    clear h2 e
    induction hr with
    | nil=>simp
    | cons h t ih =>
      simp only [List.map_cons,List.mem_cons,forall_eq_or_imp] at h1
      obtain ⟨⟨b,hb⟩,h1⟩ := h1
      have := ih h1
      simp only [List.any_toArray,List.map_cons,List.any_cons] at this ⊢
      rw [this,eqTo_is h hb,hb]
      cases b <;> simp
theorem Rel.dget (hk:KvR W es kvs) (k:Int):(dget es k).isSome = (kvs.lookup k).isSome ∧ ∀ v,dget es k = some v → ∃ c,kvs.lookup k = some c ∧ VR W v c := by
  induction hk with
  | nil=>simp [Mine.dget]
  | @cons k' v' c' es kvs h t ih =>
    unfold Mine.dget at ih ⊢
    simp only [List.lookup_cons]
    cases k == k' with
    | true=>simp; exact h
    | false=>simpa using ih
theorem Rel.noSys (R:Rel W h₀ env names H ρ s) (Y:EnvOk W env c h₀) {a:Addr} {es:List (Int × V)} (e:H a = some (.dict es)):(a == sysModules) = false := by
  have h1 := R.low a es e
  have h2 := Y.lo
  have h3:a ≠ sysModules := Nat.ne_of_gt (Nat.lt_of_lt_of_le h2 h1)
  simpa using h3
theorem valueAt_is (kvs:List (Int × Value)) (k:Int):valueAt kvs k = kvs.lookup k := by
  unfold valueAt
  induction kvs with
  | nil=>rfl
  | cons p t ih =>
    obtain ⟨a,b⟩ := p
    rw [List.find?_cons,List.lookup_cons]
    by_cases q:a = k
    · subst q; simp
    · have:(k == a) = false := by simpa using fun h:k = a=>q h.symm
      simpa [q,this] using ih
open PySem.SeqAt in
open PySem.SeqAt in
theorem isB_sound {a b:V} {u v:Value} {r:Bool} (ha:VR W a u) (hb:VR W b v) (e:isB a b = some r) :
    (∀ Q E,Q (.bool r) s → wpAny W.M A (compareOp .Is u v) Q E s) ∧ (∀ Q E,Q (.bool (!r)) s → wpAny W.M A (compareOp .IsNot u v) Q E s) := by
  refine by_c fun no=>?_
  induction ha <;> induction hb <;> first | exact @nn _ _ _ e | (obtain rfl := Option.some.inj e; refine no ?_; clear no)
  · exact ⟨fun _ _ q=>is_none_none q,fun _ _ q=>isnot_none_none q⟩
  · exact ⟨fun _ _ q=>is_none_ne nofun q,fun _ _ q=>isnot_none_ne nofun q⟩
  · exact ⟨fun _ _ q=>is_bool q,fun _ _ q=>isnot_bool q⟩
  · exact ⟨fun _ _ q=>is_none_ne nofun q,fun _ _ q=>isnot_none_ne nofun q⟩
  · exact ⟨fun _ _ q=>is_none_ne nofun q,fun _ _ q=>isnot_none_ne nofun q⟩
  · exact ⟨fun _ _ q=>is_none_ne nofun q,fun _ _ q=>isnot_none_ne nofun q⟩
open PySem.SeqAt in
theorem sound_cmpOp (ok:AOk A c h₀ env Er n) (Y:EnvOk W env c h₀) (R:Rel W h₀ env names H ρ s) {op:CmpOp} {a b:V} {u v:Value} (ha:VR W a u) (hb:VR W b v) (q:cmpOp op a b H Q) :
    wpAny W.M A (compareOp op u v) (Res W h₀ env names ρ Q) E s := by
  have hu := ok.units
  cases op
  case Eq =>
    replace q:(match eqD depthEq H a b with | some r=>Q (.bool r) H | none=>False) := q
    split at q
    · rename_i r e
      exact (eqD_sound R depthEq A (by unfold depthEq; (first | lia | omega)) ha hb e).2.1 _ _ _ _ (Res.mk (.bool _) R q)
    · exact q.elim
  case NotEq =>
    replace q:(match eqD depthEq H a b with | some r=>Q (.bool (!r)) H | none=>False) := q
    split at q
    · rename_i r e
      exact (eqD_sound R depthEq A (by unfold depthEq; (first | lia | omega)) ha hb e).2.2 _ _ _ _ (Res.mk (.bool _) R q)
    · exact q.elim
  case Lt =>
    replace q:ltOp a b H Q := q
    induction ha <;> try exact q.elim
    induction hb <;> try exact q.elim
    exact lt_int (Res.mk (.bool _) R q)
  case LtE =>
    replace q:leOp a b H Q := q
    induction ha <;> try exact q.elim
    induction hb <;> try exact q.elim
    exact le_int (Res.mk (.bool _) R q)
  case Gt =>
    replace q:gtOp a b H Q := q
    induction ha <;> try exact q.elim
    induction hb <;> try exact q.elim
    exact gt_int (Res.mk (.bool _) R q)
  case GtE =>
    replace q:geOp a b H Q := q
    induction ha <;> try exact q.elim
    induction hb <;> try exact q.elim
    exact ge_int (Res.mk (.bool _) R q)
  case Is =>
    replace q:isOp a b H Q := q
    delta isOp at q
    split at q
    · rename_i r e
      exact (isB_sound ha hb e).1 _ _ (Res.mk (.bool _) R q)
    · exact q.elim
  case IsNot =>
    replace q:isNOp a b H Q := q
    delta isNOp at q
    split at q
    · rename_i r e
      exact (isB_sound ha hb e).2 _ _ (Res.mk (.bool _) R q)
    · exact q.elim
  case In =>
    replace q:inOp a b H Q := q
    delta inOp at q
    split at q
    · cases hb
      split at q
      · rename_i xs e1
        split at q
        · rename_i r e
          obtain ⟨l1,h1,r1,z1⟩ := R.isList e1
          obtain ⟨m1,m2⟩ := memD_sound (A := A.in1) (s := s) ha r1 e
          exact in_listAt (eqTo W a) h1 m1 (by rw [m2]; exact Res.mk (.bool _) R q)
        · exact q.elim
      · rename_i xs e1
        split at q
        · rename_i r e
          obtain ⟨l1,h1,r1,z1⟩ := R.isTup e1
          obtain ⟨m1,m2⟩ := memD_sound (A := A.in1) (s := s) ha r1 e
          exact in_tupleAt (eqTo W a) h1 m1 (by rw [m2]; exact Res.mk (.bool _) R q)
        · exact q.elim
      · rename_i es e1
        split at q
        · cases ha
          obtain ⟨kvs,h1,r1,z1⟩ := R.isDict e1
          refine wpAny_in_of (intKind_is _ _ _ _) (R.noSys Y e1) h1.mapOf ?_
          rw [valueAt_is,← (Rel.dget r1 _).1]
          exact Res.mk (.bool _) (R.toks _) q
        · exact q.elim
      · exact q.elim
    · exact q.elim
  case NotIn =>
    replace q:inOp a b H (fun v H=>match v with | .bool r=>Q (.bool (!r)) H | _=>False) := q
    delta inOp at q
    split at q
    · cases hb
      split at q
      · rename_i xs e1
        split at q
        · rename_i r e
          obtain ⟨l1,h1,r1,z1⟩ := R.isList e1
          obtain ⟨m1,m2⟩ := memD_sound (A := A.in1) (s := s) ha r1 e
          exact notIn_listAt (eqTo W a) h1 m1 (by rw [m2]; exact Res.mk (.bool _) R q)
        · exact q.elim
      · rename_i xs e1
        split at q
        · rename_i r e
          obtain ⟨l1,h1,r1,z1⟩ := R.isTup e1
          obtain ⟨m1,m2⟩ := memD_sound (A := A.in1) (s := s) ha r1 e
          exact notIn_tupleAt (eqTo W a) h1 m1 (by rw [m2]; exact Res.mk (.bool _) R q)
        · exact q.elim
      · rename_i es e1
        split at q
        · cases ha
          obtain ⟨kvs,h1,r1,z1⟩ := R.isDict e1
          refine wpAny_notIn_of (intKind_is _ _ _ _) (R.noSys Y e1) h1.mapOf ?_
          rw [valueAt_is,← (Rel.dget r1 _).1]
          exact Res.mk (.bool _) (R.toks _) q
        · exact q.elim
      · exact q.elim
    · exact q.elim
end Mine
namespace Mine
open PySem PySem.W PyProof.Rows
variable {W:Wd} {A:Around} {h₀:HB} {env:Env} {c:Cx} {names:List Str} {H:AH} {ρ:Loc} {s:Shared} {E:Value → Shared → Prop} {n:Nat} {Q:Post} {Er:EP}
theorem place_seqIndex {k:Int} {n j:Nat} (h:place k n = some j):seqIndex? k n = some j ∧ j < n := by
  delta place at h
  split at h
  · rename_i h0
    split at h
    · rename_i h1; cases h; exact ⟨seqIndex_of h0 h1,by (first | lia | omega)⟩
    · cases h
  · rename_i h0
    split at h
    · rename_i h1; cases h; exact ⟨seqIndex_neg (by (first | lia | omega)) (by (first | lia | omega)),by (first | lia | omega)⟩
    · cases h
theorem big63:(big:Int) < 2 ^ 63 := by decide
theorem sound_subOp (Y:EnvOk W env c h₀) (R:Rel W h₀ env names H ρ s) {a b:V} {u v:Value} (ha:VR W a u) (hb:VR W b v) (q:subOp a b H Q) :
    wpAny W.M A (getItem u v) (Res W h₀ env names ρ Q) E s := by
  delta subOp at q
  split at q
  · cases ha; cases hb
    split at q
    · rename_i xs e1
      obtain ⟨l1,h1,r1,z1⟩ := R.isList e1
      split at q
      · rename_i j e2
        split at q
        · rename_i v' e3
          obtain ⟨cv,x1,x2⟩ := r1.get j e3
          have b63 := big63
          delta place at e2
          split at e2
          · rename_i h0
            split at e2
            · rename_i h2; cases e2
              exact wpAny_getItem_list h1 h0 (by (first | lia | omega)) (by simpa using x1) (Res.mk x2 R q)
            · cases e2
          · rename_i h0
            split at e2
            · rename_i h2; cases e2
              have hs:l1.toArray.size = xs.length := by simp [r1.length]
              exact wpAny_getItem_list_neg h1 (by (first | lia | omega)) (by rw [hs]; (first | lia | omega)) (by (first | lia | omega)) (by rw [hs]; simpa using x1) (Res.mk x2 R q)
            · cases e2
        · exact q.elim
      · exact q.elim
    · rename_i xs e1
      obtain ⟨l1,h1,r1,z1⟩ := R.isTup e1
      split at q
      · rename_i j e2
        split at q
        · rename_i v' e3
          obtain ⟨cv,x1,x2⟩ := r1.get j e3
          have b63 := big63
          obtain ⟨i1,i2⟩ := place_seqIndex e2
          refine getItem_tuple h1 ?_ ?_ (by simpa [← r1.length] using i1) (by simpa using x1) (Res.mk x2 R q)
          · delta place at e2; split at e2
            · (first | lia | omega)
            · split at e2
              · (first | lia | omega)
              · cases e2
          · delta place at e2; split at e2
            · split at e2
              · (first | lia | omega)
              · cases e2
            · (first | lia | omega)
        · exact q.elim
      · exact q.elim
    · rename_i es e1
      obtain ⟨kvs,h1,r1,z1⟩ := R.isDict e1
      split at q
      · rename_i v' e2
        obtain ⟨cv,x1,x2⟩ := (Rel.dget r1 _).2 _ e2
        exact wpAny_getItem_of (intKind_is _ _ _ _) h1.mapOf (by rw [valueAt_is]; exact x1) (Res.mk x2 (R.toks _) q)
      · exact q.elim
    · exact q.elim
  · cases ha; cases hb
    obtain ⟨l1,h1,r1,z1⟩ := R.script Y
    have r2:VRs W (W.sn.map V.int) l1 := vrs_ints r1
    have hl:W.sn.length = l1.length := by have := r2.length; simpa using this
    split at q
    · rename_i j e2
      split at q
      · rename_i v' e3
        obtain ⟨cv,x1,x2⟩ := r2.get j (by rw [List.getElem?_map,e3]; rfl)
        have b63 := big63
        delta place at e2
        split at e2
        · rename_i h0
          split at e2
          · rename_i h2; cases e2
            exact wpAny_getItem_list h1 h0 (by (first | lia | omega)) (by simpa using x1) (Res.mk x2 R q)
          · cases e2
        · rename_i h0
          split at e2
          · rename_i h2; cases e2
            have hs:l1.toArray.size = W.sn.length := by simp [hl]
            exact wpAny_getItem_list_neg h1 (by (first | lia | omega)) (by rw [hs]; (first | lia | omega)) (by (first | lia | omega)) (by rw [hs]; simpa using x1) (Res.mk x2 R q)
          · cases e2
      · exact q.elim
    · exact q.elim
  · exact q.elim
theorem slice_cut (items:List Value) (lo hi:Option Int):(slicePick items.toArray lo hi none).toList =
    ((items.take (match hi with | some k=>clamp k items.length | none=>items.length)).drop (match lo with | some k=>clamp k items.length | none=>0)) := by
  have key:∀ (a b:Nat),a ≤ items.length → b ≤ items.length → sliceBounds lo hi none items.length = ((a:Int),(b:Int),1) → (slicePick items.toArray lo hi none).toList = (items.take b).drop a := by
    intro a b ha hb e
    unfold slicePick
    rw [List.size_toArray,e]
    simp only
    rw [sliceRange_one,pick_run]
    simp only [List.drop_take]
  have cl:∀ k:Int,(max 0 (min (if k < 0 then k + (items.length:Int) else k) items.length)) = ((clamp k items.length:Nat):Int) ∧ clamp k items.length ≤ items.length := by
    intro k
    delta clamp
    split <;> constructor <;> (first | lia | omega)
  cases lo with
  | none=>cases hi with
    | none=>exact key 0 items.length (by (first | lia | omega)) (by (first | lia | omega)) rfl
    | some u=>exact key 0 (clamp u items.length) (by (first | lia | omega)) (cl u).2 (by unfold sliceBounds; simp only [Option.getD_none]; simp [(cl u).1])
  | some l=>cases hi with
    | none=>exact key (clamp l items.length) items.length (cl l).2 (by (first | lia | omega)) (by unfold sliceBounds; simp only [Option.getD_none]; simp [(cl l).1])
    | some u=>exact key (clamp l items.length) (clamp u items.length) (cl l).2 (cl u).2 (by unfold sliceBounds; simp only [Option.getD_none]; simp [(cl l).1,(cl u).1])
theorem bound_part {v:V} {u:Value} {k:Option Int} (h:VR W v u) (e:bound? v = some k):IsPart u k := by
  induction h <;> first | (cases e; first | exact .none | exact .int _ _) | (cases e; done)
theorem cut_len (xs:List V) (l u:Option Int):(cut xs l u).length ≤ xs.length := by
  delta cut
  simp only [List.length_drop,List.length_take]
  omega
theorem sound_sliceOp (Y:EnvOk W env c h₀) (R:Rel W h₀ env names H ρ s) {a l u st:V} {va vl vu vs:Value} {sl:Addr} (ha:VR W a va) (hl:VR W l vl) (hu:VR W u vu) (hs:VR W st vs) (hsl:s.heap.IsSliceOf sl vl vu vs) (q:sliceOp a l u st H Q) :
    wpAny W.M A (getItem va (.ref sl)) (Res W h₀ env names ρ Q) E s := by
  delta sliceOp at q
  split at q
  · rename_i a' l' u' e1 e2
    cases ha; cases hs
    split at q
    · rename_i xs e3
      obtain ⟨l1,h1,r1,z1⟩ := R.isList e3
      refine wpAny_getItem_list_slice h1 hsl (bound_part hl e1) (bound_part hu e2) .none (by simp) ?_ (by simp [← r1.length]; exact Nat.le_trans z1 big_line)
      have e:slicePick l1.toArray l' u' none = (slicePick l1.toArray l' u' none).toList.toArray := by simp
      rw [e,slice_cut]
      have R' := R.push (o := .list (cut xs l' u')) (or_list (n := 0) (by
        delta cut
        rw [r1.length]
        exact (r1.take _).drop _) (Nat.le_trans (cut_len _ _ _) z1)) rfl s.toks
      exact Res.mk (.ref _) R' (q _ R.fresh)
    · exact q.elim
  · exact q.elim
theorem KvR.put {es:List (Int × V)} {kvs:List (Int × Value)} (h:KvR W es kvs) {k:Int} {v:V} {u:Value} (hv:VR W v u) (hn:(kvs.map (·.1)).Nodup):KvR W (dput es k v) (stored kvs k u) := by
  have none_eq:∀ l:List (Int × Value),l.any (fun kv=>kv.1 = k) = false → l.map (fun kv=>if kv.1 = k then (kv.1,u) else kv) = l := by
    intro l hl
    induction l with
    | nil=>rfl
    | cons p t ih =>
      simp only [List.any_cons,Bool.or_eq_false_iff,decide_eq_false_iff_not] at hl
      simp only [List.map_cons,if_neg hl.1,ih hl.2]
  induction h with
  | nil=>exact .cons hv .nil
  | @cons k' v' c' es kvs h t ih =>
    simp only [List.map_cons,List.nodup_cons] at hn
    unfold dput
    by_cases q:k = k'
    · subst q
      rw [if_pos rfl]
      unfold stored
      rw [if_pos (by simp)]
      simp only [List.map_cons,if_true]
      rw [none_eq kvs (by
        rw [List.any_eq_false]
        intro p hp he
        exact hn.1 (List.mem_map.mpr ⟨p,hp,by simpa using he⟩))]
      exact .cons hv t
    · rw [if_neg q]
      have := ih hn.2
      unfold stored at this ⊢
      have q':¬ k' = k := fun e=>q e.symm
      simp only [List.any_cons,q',decide_false,Bool.false_or,List.map_cons,if_false]
      split
      · rename_i hh; rw [if_pos hh] at this; exact .cons h this
      · rename_i hh; rw [if_neg hh] at this; exact .cons h this
theorem KvR.length {es:List (Int × V)} {kvs:List (Int × Value)} (h:KvR W es kvs):es.length = kvs.length := by
  induction h with
  | nil=>rfl
  | cons _ _ ih=>simp [ih]
theorem dput_len (es:List (Int × V)) (k:Int) (v:V):(dput es k v).length ≤ es.length + 1 := by
  induction es with
  | nil=>simp [dput]
  | cons p t ih =>
    obtain ⟨a,b⟩ := p
    unfold dput
    split
    · simp
    · simp only [List.length_cons]; (first | lia | omega)
theorem isDictOf_of {h:Heap} {a:Addr} {kvs:List (Int × Value)} (x:h.DictOf (intKind W.prog W.w) a kvs):∃ ob,h.get? a = some ob ∧ ob.IsDictOf (intKind W.prog W.w) kvs :=
  let ⟨o,es,ep,h1,h2⟩ := x; ⟨o,h1,es,ep,h2⟩
theorem dictOf_nodup {h:Heap} {a:Addr} {kvs:List (Int × Value)} (x:h.DictOf (intKind W.prog W.w) a kvs):(kvs.map (·.1)).Nodup := by
  obtain ⟨_,_,_,_,_,_,_,_,h⟩ := x
  exact h
noncomputable def ResU (W:Wd) (h₀:HB) (env:Env) (names:List Str) (ρ:Loc) (N:AH → Prop) (s':Shared):Prop := ∃ H',Rel W h₀ env names H' ρ s' ∧ N H'
theorem sound_setItem (Y:EnvOk W env c h₀) (R:Rel W h₀ env names H ρ s) {o i v:V} {uo ui uv:Value} (ho:VR W o uo) (hi:VR W i ui) (hv:VR W v uv) {N:AH → Prop} (q:setItem o i v H N) :
    wpAny W.M A (PySem.setItem uo ui uv) (fun _ s'=>ResU W h₀ env names ρ N s') E s := by
  unfold Mine.setItem at q
  split at q
  · cases ho; cases hi
    split at q
    · rename_i xs e1
      obtain ⟨l1,nn,h1,r1,z1⟩ := R.lst e1
      split at q
      · rename_i j e2
        have b63 := big63
        delta place at e2
        split at e2
        · rename_i h0
          split at e2
          · rename_i h2; cases e2
            refine ki_setAt (n := nn) h1 h0 (by (first | lia | omega)) (by simp [← r1.length]; exact h2) ?_
            exact ⟨_,R.changeL e1 h1 (·.setIfInBounds _ uv) (by simp) (r1.set _ hv) (by simpa using z1) s.toks,q⟩
          · cases e2
        · rename_i h0
          split at e2
          · rename_i h2; cases e2
            have hs:l1.toArray.size = xs.length := by simp [r1.length]
            refine ki_setBack (n := nn) h1 (by (first | lia | omega)) (by rw [hs]; (first | lia | omega)) (by (first | lia | omega)) ?_
            exact ⟨_,R.changeL e1 h1 (·.setIfInBounds _ uv) (by simp [r1.length]) (r1.set _ hv) (by simpa using z1) s.toks,q⟩
          · cases e2
      · exact q.elim
    · rename_i es e1
      obtain ⟨kvs,h1,r1,z1⟩ := R.isDict e1
      refine wpAny_setItem_pairs (intKind_is _ _ _ _) h1 (fun h' h2 h3=>?_) (by rw [← r1.length]; exact Nat.le_trans z1 big_line)
      obtain ⟨ob,h4,h5⟩ := isDictOf_of h2
      exact ⟨_,R.change _ e1 h3 h4 (.dict (r1.put hv (dictOf_nodup h1)) (Nat.le_trans (dput_len _ _ _) q.1) h5) fun _ _=>⟨_,rfl⟩,q.2⟩
    · exact q.elim
  · exact q.elim
end Mine
namespace Mine
open PySem PySem.W PyProof.Rows
variable {W:Wd} {A:Around} {h₀:HB} {env:Env} {c:Cx} {names:List Str} {H:AH} {ρ:Loc} {s:Shared} {E:Value → Shared → Prop} {n:Nat} {Q:Post} {Er:EP}
noncomputable def tyVal (_:Wd):Ty → Value
  | .int=>.type "int" | .bool=>.type "bool" | .list=>.type "list" | .tuple=>.type "tuple" | .str=>.type "str"
theorem sound_isInst (R:Rel W h₀ env names H ρ s) {t:Ty} {v:V} {u:Value} (hp:plainTy t = true) (hv:VR W v u) {r:Bool} (e:isInst t v H = some r) (q:Q (.bool r) H) :
    wpAny W.M A (call (.builtin "isinstance") [u,tyVal W t]) (Res W h₀ env names ρ Q) E s := by
  induction hv with
  | none => cases t <;> first | (cases hp; done) | (obtain rfl := Option.some.inj e)
            · exact IsiPair.NoneType_int (Res.mk (.bool _) (R.toks _) q)
            · exact IsiPair.NoneType_bool (Res.mk (.bool _) (R.toks _) q)
            · exact IsiPair.NoneType_list (Res.mk (.bool _) (R.toks _) q)
            · exact IsiPair.NoneType_tuple (Res.mk (.bool _) (R.toks _) q)
            · exact IsiPair.NoneType_str (Res.mk (.bool _) (R.toks _) q)
  | bool b => cases t <;> first | (cases hp; done) | (obtain rfl := Option.some.inj e)
              · exact IsiPair.bool_int (Res.mk (.bool _) R q)
              · exact IsiPair.bool_bool (Res.mk (.bool _) R q)
              · exact IsiPair.bool_list (Res.mk (.bool _) (R.toks _) q)
              · exact IsiPair.bool_tuple (Res.mk (.bool _) (R.toks _) q)
              · exact IsiPair.bool_str (Res.mk (.bool _) (R.toks _) q)
  | int i t' => cases t <;> first | (cases hp; done) | (obtain rfl := Option.some.inj e)
                · exact IsiPair.int_int (Res.mk (.bool _) R q)
                · exact IsiPair.int_bool (Res.mk (.bool _) (R.toks _) q)
                · exact IsiPair.int_list (Res.mk (.bool _) (R.toks _) q)
                · exact IsiPair.int_tuple (Res.mk (.bool _) (R.toks _) q)
                · exact IsiPair.int_str (Res.mk (.bool _) (R.toks _) q)
  | str x t' => cases t <;> first | (cases hp; done) | (obtain rfl := Option.some.inj e)
                · exact IsiPair.str_int (Res.mk (.bool _) (R.toks _) q)
                · exact IsiPair.str_bool (Res.mk (.bool _) (R.toks _) q)
                · exact IsiPair.str_list (Res.mk (.bool _) (R.toks _) q)
                · exact IsiPair.str_tuple (Res.mk (.bool _) (R.toks _) q)
                · exact IsiPair.str_str (Res.mk (.bool _) R q)
  | script=>exact @nn _ _ _ e
  | fn _=>exact @nn _ _ _ e
  | ref a =>
    cases ha:H a with
    | none=>rw [show isInst t (.ref a) H = none from (by show (match H a with | some o=>isInstO o t | none=>none) = _; rw [ha])] at e; cases e
    | some o =>
      replace e:isInstO o t = some r := by rw [← e]; show _ = (match H a with | some o=>isInstO o t | none=>none); rw [ha]
      cases o with
      | list xs =>
        obtain ⟨l1,h1,r1,z1⟩ := R.isList ha
        cases t <;> first | (cases hp; done) | (obtain rfl := Option.some.inj e)
        · exact IsiPair.isList_int h1 (fun _ _ e=>e) (Res.mk (.bool _) (R.toks _) q)
        · exact IsiPair.isList_bool h1 (fun _ _ e=>e) (Res.mk (.bool _) (R.toks _) q)
        · exact IsiPair.isList_list h1 (fun _ _ e=>e) (Res.mk (.bool _) R q)
        · exact IsiPair.isList_tuple h1 (fun _ _ e=>e) (Res.mk (.bool _) (R.toks _) q)
        · exact IsiPair.isList_str h1 (fun _ _ e=>e) (Res.mk (.bool _) (R.toks _) q)
      | tuple xs =>
        obtain ⟨l1,h1,r1,z1⟩ := R.isTup ha
        cases t <;> first | (cases hp; done) | (obtain rfl := Option.some.inj e)
        · exact IsiPair.isTuple_int h1 (fun _ _ e=>e) (Res.mk (.bool _) (R.toks _) q)
        · exact IsiPair.isTuple_bool h1 (fun _ _ e=>e) (Res.mk (.bool _) (R.toks _) q)
        · exact IsiPair.isTuple_list h1 (fun _ _ e=>e) (Res.mk (.bool _) (R.toks _) q)
        · exact IsiPair.isTuple_tuple h1 (fun _ _ e=>e) (Res.mk (.bool _) R q)
        · exact IsiPair.isTuple_str h1 (fun _ _ e=>e) (Res.mk (.bool _) (R.toks _) q)
      | _=>cases t <;> first | (cases hp; done) | exact @nn _ _ _ e
noncomputable def biVal:BI → Value
  | .len=>.builtin "len" | .list=>.type "list" | .sorted=>.builtin "sorted" | .max=>.builtin "max" | .min=>.builtin "min" | .minL=>.builtin "min"
  | .all=>.builtin "all" | .any=>.builtin "any" | .str=>.type "str" | .int=>.type "int" | _=>.none
noncomputable def directBI:BI → Bool
  | .len | .list | .sorted | .max | .min | .minL | .all | .any=>true
  | _=>false
theorem bools_at {xs:List V} {items:List Value} {bs:List Bool} (h:VRs W xs items) (e:bools? xs = some bs):items = bs.map Value.bool := by
  induction h generalizing bs with
  | nil=>cases e; rfl
  | cons h _ ih =>
    induction h with
    | bool b =>
      obtain ⟨l,h1,h2⟩ := Option.map_eq_some_iff.mp (show (bools? _).map _ = some bs from e)
      subst h2
      rw [ih h1]; rfl
    | _=>cases e
theorem range_all (bs:List Bool):(List.range bs.length).all (fun i=>bs.getD i false) = bs.all id := by
  induction bs with
  | nil=>rfl
  | cons b r ih=>rw [List.length_cons,List.range_succ_eq_map,List.all_cons,List.all_map,List.all_cons]; congr 1
theorem range_any (bs:List Bool):(List.range bs.length).any (fun i=>bs.getD i false) = bs.any id := by
  induction bs with
  | nil=>rfl
  | cons b r ih=>rw [List.length_cons,List.range_succ_eq_map,List.any_cons,List.any_map,List.any_cons]; congr 1
theorem keys_are {es:List (Int × V)} {kvs:List (Int × Value)} {vs:List Value} (h:KvR W es kvs):vs.length = kvs.length →
    (∀ (j:Nat) (v:Value),vs[j]? = some v → ∃ k x,kvs[j]? = some (k,x) ∧ (intKind W.prog W.w).is k v = true) → IntsAre vs (es.map (·.1)) := by
  induction h generalizing vs with
  | nil =>
    intro hl _
    cases vs with
    | nil=>exact .nil
    | cons v vs=>cases hl
  | @cons k _ _ _ _ h t ih =>
    intro hl hv
    cases vs with
    | nil=>cases hl
    | cons v vs =>
      obtain ⟨k',x,e1,e2⟩ := hv 0 v rfl
      cases e1
      obtain ⟨t',rfl⟩ := Value.isInt_shape (show Value.isInt k v = true from e2)
      exact .cons k t' (ih (Nat.succ.inj hl) fun j v hj=>hv (j + 1) v hj)
theorem sorted_src {T:String} {r d:Addr} {n:Nat} {P:Nat → Value → Prop} {OK:Heap → Prop} {ks:List Int} {Q:Value → Shared → Prop} (K:KdlSrc W.prog W.w T r d n P OK) (hh:A.handled = none) (hok:OK s.heap) (hn:n ≤ sizeLine) (h64:n < 64)
    (hI:∀ acc:Array Value,ItemsOf P acc n → ∃ ks',IntsAre acc.toList ks' ∧ ks'.Perm ks)
    (h:∀ (D:Addr) (h':Heap) (tk ee:Nat) (vs:List Value),s.heap.get? D = none → (∀ b,s.heap.get? b ≠ none → b < D) → (∀ b o,s.heap.get? b = some o → h'.get? b = some o) → h'.get? D = some { cls := .type "list",data := .seq vs.toArray ee } →
      IntsAre vs (sortI ks) → Q (.ref D) { s with heap := h',toks := tk }) :
    wpAny W.M A (call (.builtin "sorted") [.ref r]) Q E s := by
  refine Calls.call_function_entry kind_sorted plain_sorted entry_sorted (args_sorted1 _) ?_
  unfold Builtin.«sorted»
  refine wpAny_bind (m := checkCount "sorted" 1 1 _) (wpAny_pure ?_)
  refine wpAny_bind (kdu_collect (A := A.in1) K hh hok hn fun h' tk acc hk hacc=>?_)
  have hl:acc.toList.length = n := by rw [Array.length_toList]; exact hacc.1
  refine wpAny_bind (wpAny_newList ?_ (by rw [hl]; exact hn))
  refine by_c fun no=>?_
  obtain ⟨ks',hI,hpk⟩ := hI acc hacc
  refine no ?_;clear no
  have hD:s.heap.get? h'.objs.size = none := none_of_size hk
  have hlt:∀ b,s.heap.get? b ≠ none → b < h'.objs.size := fun b hb=>by
    cases q:s.heap.get? b with
    | none=>exact absurd q hb
    | some o=>exact Heap.lt_size (hk b o q)
  have ho:(h'.push (seqObj "list" acc.toList.toArray 0)).get? h'.objs.size = some (seqObj "list" acc.toList.toArray 0) := Heap.get?_push_size _ rfl
  refine wpAny_bind (wpAny_holding (wpAny_call_entry slot_list_sort ⟨_,ho,rfl⟩ entry_list_sort (list_sort_tree (n := 0) ho hI (by rw [hl]; exact h64) fun out ns' a1 a2 a3=>⟨_,rfl,?_⟩) (args_list_sort _)))
  have en:ns' = sortI ks := sorted_unique ((a2.trans hpk).trans (sortI_perm _).symm) a3 (sortI_sorted _)
  subst en
  obtain ⟨ee,he⟩ := sortedHeap_at (out := out) ho
  refine wpAny_pure ⟨_,rfl,h h'.objs.size _ tk ee out.toList hD hlt (fun b o e=>?_) he a1⟩
  have hb := Heap.lt_size (hk b o e)
  rw [sortedHeap_old (Nat.ne_of_lt hb) (by rw [Heap.size_push]; exact Nat.lt_succ_of_lt hb)]
  exact Heap.get?_push_of_some _ (hk b o e)
theorem sorted_dict {d:Addr} {es:List (Int × V)} {kvs:List (Int × Value)} {ep:Nat} {Q:Value → Shared → Prop} (lo:(d == sysModules) = false) (hh:A.handled = none) (hat:s.heap.DictAt (intKind W.prog W.w) d kvs ep)
    (hn:kvs.length ≤ sizeLine) (r1:KvR W es kvs) (h64:kvs.length < 64)
    (h:∀ (D:Addr) (h':Heap) (tk ee:Nat) (vs:List Value),s.heap.get? D = none → (∀ b,s.heap.get? b ≠ none → b < D) → (∀ b o,s.heap.get? b = some o → h'.get? b = some o) → h'.get? D = some { cls := .type "list",data := .seq vs.toArray ee } →
      IntsAre vs (sortI (es.map (·.1))) → Q (.ref D) { s with heap := h',toks := tk }) :
    wpAny W.M A (call (.builtin "sorted") [.ref d]) Q E s :=
  sorted_src (kdl_dict (knd := intKind W.prog W.w) (kvs := kvs) (ep := ep) lo) hh hat hn h64 (fun acc hacc=>⟨_,keys_are r1 (by rw [Array.length_toList]; exact hacc.1) fun j v hj=>hacc.2 j v (by rw [← Array.getElem?_toList]; exact hj),.rfl⟩) h
theorem vrs1 {v:V} {us:List Value} (h:VRs W [v] us):∃ u,us = [u] ∧ VR W v u := by
  cases h with | cons h t=>cases t; exact ⟨_,rfl,h⟩
theorem vrs2 {v v':V} {us:List Value} (h:VRs W [v,v'] us):(Ex2 fun u u'=>An3 (us = [u,u']) (VR W v u) (VR W v' u')):= by
  cases h with | cons h t=>cases t with | cons h' t=>cases t; exact ⟨_,_,rfl,h,h'⟩
/-! sorted of pairs: some order of them -/
noncomputable def KOk {α:Type} (n:Nat) (P:α → Prop):KasT α → Prop
  | .ret a=>P a
  | .ask i j k=>i < n ∧ j < n ∧ ∀ b,KOk n P (k b)
theorem KOk.bind {α β:Type} {n:Nat} {P:α → Prop} {P':β → Prop} {f:α → KasT β}:∀ t:KasT α,KOk n P t → (∀ a,P a → KOk n P' (f a)) → KOk n P' (t.bind f)
  | .ret a,h,hf=>hf a h
  | .ask _ _ k,h,hf=>⟨h.1,h.2.1,fun b=>KOk.bind (k b) (h.2.2 b) hf⟩
theorem KOk.wp {α:Type} {n:Nat} {P:α → Prop} {ask:Nat → Nat → (Bool → Shared → Prop) → Shared → Prop} {Q:α → Shared → Prop} {s:Shared} (ha:∀ i j C,i < n → j < n → (∀ b,C b s) → ask i j C s) (hQ:∀ a,P a → Q a s) :
    ∀ t:KasT α,KOk n P t → t.kasWp ask Q s
  | .ret a,h=>hQ a h
  | .ask i j k,h=>ha i j _ h.1 h.2.1 fun b=>KOk.wp ha hQ (k b) (h.2.2 b)
noncomputable def PermN (n:Nat) (p:Array Nat):Prop := p.toList.Perm (List.range n)
theorem PermN.lt {n:Nat} {p:Array Nat} (h:PermN n p) (hn:0 < n) (i:Nat):p.getD i 0 < n := by
  rw [Array.getD_eq_getD_getElem?]
  cases q:p[i]? with
  | none=>exact hn
  | some x=>exact List.mem_range.mp (h.mem_iff.mp (List.mem_of_getElem? (by rw [Array.getElem?_toList]; exact q)))
theorem PermN.rev {n:Nat} {p:Array Nat} (h:PermN n p) {i j:Nat}:PermN n (kas_rev p i j) := (Array.perm_iff_toList_perm.mp (mirror_perm p i j _)).trans h
theorem PermN.bub {n:Nat} {p:Array Nat} (h:PermN n p) {i j:Nat}:PermN n (bubble p i j) := (Array.perm_iff_toList_perm.mp (bubble_perm p i j)).trans h
theorem ko_asc {n:Nat} {p:Array Nat} (h:PermN n p) (hn:0 < n):∀ f k,KOk n (fun _=>True) (kas_asc p f k)
  | 0,_=>trivial
  | f + 1,k=>⟨h.lt hn _,h.lt hn _,fun b=>match b with | true=>trivial | false=>ko_asc h hn f (k + 1)⟩
theorem ko_desc {n:Nat} (hn:0 < n):∀ f {p:Array Nat} k q,PermN n p → KOk n (fun r:Array Nat × Nat × Nat=>PermN n r.1) (kas_desc f p k q)
  | 0,_,_,_,h=>h
  | f + 1,p,k,q,h=>by
    refine ⟨h.lt hn _,h.lt hn _,fun b=>?_⟩
    cases b with
    | true =>
      show KOk n _ (if q > 0 then _ else _)
      split
      · exact ko_desc hn f _ _ h.rev
      · exact ko_desc hn f _ _ h
    | false=>exact ⟨h.lt hn _,h.lt hn _,fun b=>match b with | true=>h | false=>ko_desc hn f _ _ h⟩
theorem ko_tail3 {n:Nat} {p:Array Nat} (h:PermN n p) (hn:0 < n) (k r:Nat):KOk n (fun x:Nat × Array Nat=>PermN n x.2) (kas_tail3 k r p) :=
  KOk.bind _ (ko_asc h.rev hn _ _) fun _ _=>h.rev
theorem ko_descPart {n:Nat} {p:Array Nat} (h:PermN n p) (hn:0 < n) (k r:Nat):KOk n (fun x:Nat × Array Nat=>PermN n x.2) (kas_descPart k r p) := by
  refine KOk.bind _ (ko_desc hn _ _ _ h) fun x hx=>?_
  split
  · exact ko_tail3 hx.rev hn _ _
  · exact ko_tail3 hx hn _ _
theorem ko_count {n:Nat} {p:Array Nat} (h:PermN n p) (hn:0 < n) (r:Nat):KOk n (fun x:Nat × Array Nat=>PermN n x.2) (kas_count r p) := by
  refine KOk.bind _ (ko_asc h hn _ _) fun k _=>?_
  split
  · exact h
  · split
    · exact ⟨h.lt hn _,h.lt hn _,fun b=>match b with | true=>h | false=>ko_descPart h.rev hn _ _⟩
    · exact ko_descPart h hn _ _
theorem ko_place {n:Nat} {p:Array Nat} (h:PermN n p) (hn:0 < n) (k:Nat):∀ f l r,KOk n (fun _=>True) (kas_place p k f l r)
  | 0,_,_=>trivial
  | f + 1,l,r=>by
    unfold kas_place
    split
    · trivial
    · exact ⟨h.lt hn _,h.lt hn _,fun b=>match b with | true=>ko_place h hn k f _ _ | false=>ko_place h hn k f _ _⟩
theorem ko_bin {n:Nat} (hn:0 < n):∀ f {p:Array Nat} k,PermN n p → KOk n (PermN n) (kas_bin f p k)
  | 0,_,_,h=>h
  | f + 1,_,k,h=>KOk.bind _ (ko_place h hn k _ _ _) fun _ _=>ko_bin hn f _ h.bub
theorem ko_sort {n:Nat} (hn:0 < n):KOk n (PermN n) (kas_sort n) := by
  refine KOk.bind _ (ko_count (List.Perm.refl _) hn n) fun x hx=>?_
  split
  · exact ko_bin hn _ _ hx
  · exact hx
theorem perm_out {n:Nat} {p:Array Nat} {vs:List Value} (h:PermN n p) (hn:n = vs.length):(p.toList.map fun i=>vs.getD i Value.none).Perm vs := by
  have h1 := h.map fun i=>vs.getD i Value.none
  have e:(List.range n).map (fun i=>vs.getD i Value.none) = vs := by
    subst hn
    refine List.ext_getElem (by simp) fun i h1 h2=>?_
    simp [h2]
  rw [e] at h1
  exact h1
theorem vrs_perm {out vs:List Value} (h:out.Perm vs):∀ {xs:List V},VRs W xs vs → ∃ xs',xs'.Perm xs ∧ VRs W xs' out := by
  induction h with
  | nil=>intro xs r; exact ⟨xs,.refl _,r⟩
  | cons x h ih =>
    intro xs r
    cases r with
    | cons r t =>
      obtain ⟨ys,h1,h2⟩ := ih t
      exact ⟨_,h1.cons _,.cons r h2⟩
  | swap x y l =>
    intro xs r
    cases r with
    | cons r t =>
      cases t with
      | cons r' t=>exact ⟨_,.swap _ _ _,.cons r' (.cons r t)⟩
  | trans _ _ ih1 ih2 =>
    intro xs r
    obtain ⟨ys,h1,h2⟩ := ih2 r
    obtain ⟨zs,h3,h4⟩ := ih1 h2
    exact ⟨zs,h3.trans h1,h4⟩
noncomputable def PrAt (h:Heap) (v:Value):Prop := ∃ a o i j t u n,v = .ref a ∧ h.get? a = some o ∧ o.cls = .type "tuple" ∧ o.data = .seq #[.int i t,.int j u] n
theorem pr_lt {i j:Int} {x y:Value} {Q:Bool → Shared → Prop} (hx:PrAt s.heap x) (hy:PrAt s.heap y) (hq:∀ b,Q b s):wpAny (model W.prog W.w) A (keyLt' (tuples' true) x y) Q E s := by
  refine by_c fun no=>?_
  obtain ⟨a,o,i,j,t,u,n,rfl,h1,_,h3⟩ := hx
  refine no ?_;clear no
  refine by_c fun no=>?_
  obtain ⟨a',o',i',j',t',u',n',rfl,h1',_,h3'⟩ := hy
  refine no ?_;clear no
  refine kat_lt h1 h3 h1' h3' ?_
  refine kat_cons (wpAny_eqBool_int (kat_go (fun _=>kat_yes ?_) fun _=>kat_no (oneLt_int (hq _))))
  refine kat_cons (wpAny_eqBool_int (kat_go (fun _=>kat_yes (kat_nil (hq _))) fun _=>kat_no ?_))
  exact kat_one _ _ (lt_int (hq _))
theorem pr_tups {h:Heap}:∀ {vs:List Value},(∀ v ∈ vs,PrAt h v) → ∃ fs,KatTups h vs fs ∧ fs.length = vs.length ∧ ∀ f ∈ fs,∃ i t,f = .int i t
  | [],_=>⟨[],.nil,rfl,fun _ h=>absurd h List.not_mem_nil⟩
  | v :: vs,hv=>by
    obtain ⟨fs,h1,h2,h3⟩ := pr_tups (vs := vs) fun v hm=>hv v (.tail _ hm)
    refine by_c fun no=>?_
    obtain ⟨a,o,i,j,t,u,n,rfl,q1,q2,q3⟩ := hv v (.head _)
    refine no ?_;clear no
    refine ⟨.int i t :: fs,.cons q1 q2 q3 rfl h1,by simp [h2],fun f hf=>?_⟩
    rcases List.mem_cons.mp hf with rfl | hf
    · exact ⟨_,_,rfl⟩
    · exact h3 f hf
theorem list_sort_short {a:Addr} {vs:List Value} {n:Nat} {P:PySem.Fin → Shared → Prop} (ho:s.heap.get? a = some (seqObj "list" vs.toArray n)) (h2:vs.length < 2)
    (h:P (.done (.ret .none)) { s with heap := sortedHeap s.heap a vs ((vs.toArray.zip vs.toArray).map (·.2)) }):wpAny (model W.prog W.w) A (Builtin.«list.sort» ⟨[.ref a],[]⟩) P E s := by
  rw [list_sort_plain]
  have ha:a < s.heap.objs.size := Heap.lt_size ho
  refine wpAny_bind (listItems_at ho rfl ?_)
  refine wpAny_bind (listUpdate_at ho rfl ?_ (by rw [List.size_toArray,sizeLine_eq]; (first | lia | omega)) (Nat.zero_le _))
  obtain ⟨e1,ho1⟩:∃ e1,(s.heap.update a (Obj.mapSeq fun _=>#[])).get? a = some (seqObj "list" #[] e1) := ⟨_,get?_update_seq ho (fun _=>#[])⟩
  refine wpAny_bind (seqEpoch_at ho1 rfl ?_)
  refine wpAny_bind (wpAny_newTuple ?_ (by show vs.length ≤ _; rw [sizeLine_eq]; (first | lia | omega)))
  refine wpAny_bind (wpAny_newList ?_ (Nat.zero_le _))
  refine wpAny_holding ?_
  have ho6:(((s.heap.update a (Obj.mapSeq fun _=>#[])).push (seqObj "tuple" vs.toArray 0)).push (seqObj "list" #[] 0)).get? a = some (seqObj "list" #[] e1) := by
    rw [Heap.get?_push_ne _ _ _ (by rw [size_push',Heap.size_update]; exact Nat.ne_of_lt (Nat.lt_succ_of_lt ha)),Heap.get?_push_ne _ _ _ (by rw [Heap.size_update]; exact Nat.ne_of_lt ha)]
    exact ho1
  show wpAny (model W.prog W.w) A _ P E { s with heap := ((s.heap.update a (Obj.mapSeq fun _=>#[])).push (seqObj "tuple" vs.toArray 0)).push (seqObj "list" #[] 0) }
  dsimp only
  have h2':vs.toArray.size < 2 := by rw [List.size_toArray]; exact h2
  rw [if_pos h2',if_pos h2']
  refine wpAny_bind (wpAny_pure ?_)
  rw [StateT.run_pure]
  refine wpAny_bind (wpAny_pure ?_)
  dsimp only
  refine wpAny_bind (seqEpoch_at ho6 rfl ?_)
  refine wpAny_bind (listUpdate_at ho6 rfl ?_ (Nat.zero_le _) (by rw [Array.size_map]; show (pairsOf vs).size ≤ _; rw [pairsOf_size,sizeLine_eq]; (first | lia | omega)))
  simp only [bne_self_eq_false,Bool.false_eq_true,if_false]
  exact wpAny_pure h
theorem sorted_tup {l:Addr} {vs:List Value} {L:Addr} {m:Str → Option Value} {b₀:Heap} {news:List (Addr × Obj)} {Q:Value → Shared → Prop} (F:Fr b₀ L s.heap m) (N:News b₀ L s.heap news) (hl:s.heap.IsList l vs.toArray) (h64:vs.length < 64)
    (hp:∀ h',Fr b₀ L h' m → (∃ ob,News b₀ L h' ((s.heap.objs.size + 1,ob) :: news)) → ∀ v ∈ vs,PrAt h' v)
    (h:∀ (h':Heap) (vs':List Value) (e:Nat),Fr b₀ L h' m → News b₀ L h' ((s.heap.objs.size + 1,seqObj "list" vs'.toArray e) :: news) → vs'.Perm vs → Q (.ref (s.heap.objs.size + 1)) { s with heap := h' }) :
    wpAny (model W.prog W.w) A (call (.builtin "sorted") [.ref l]) Q E s := by
  refine Calls.call_function_entry kind_sorted plain_sorted entry_sorted (args_sorted1 _) ?_
  unfold Builtin.«sorted»
  refine wpAny_bind (m := checkCount "sorted" 1 1 _) (wpAny_pure ?_)
  refine wpAny_bind (collect_list hl ?_ (by rw [sizeLine_eq]; (first | lia | omega)))
  refine wpAny_bind (wpAny_newList ?_ (by rw [sizeLine_eq]; (first | lia | omega)))
  have hsz:((s.heap.push (seqObj "list" #[] 0)).update s.heap.objs.size (Obj.mapSeq (· ++ vs.toArray))).objs.size = s.heap.objs.size + 1 := by
    rw [Heap.size_update,size_push']
  have hoL:(((s.heap.push (seqObj "list" #[] 0)).update s.heap.objs.size (Obj.mapSeq (· ++ vs.toArray))).push (seqObj "list" vs.toArray 0)).get? (s.heap.objs.size + 1) = some (seqObj "list" vs.toArray 0) := by
    rw [← hsz]; exact Heap.get?_push_size _ rfl
  have keep:∀ b o,s.heap.get? b = some o → (((s.heap.push (seqObj "list" #[] 0)).update s.heap.objs.size (Obj.mapSeq (· ++ vs.toArray))).push (seqObj "list" vs.toArray 0)).get? b = some o := fun b o q=>by
    have hlt:b < s.heap.objs.size := Heap.lt_size q
    rw [Heap.get?_push_ne _ _ _ (by rw [hsz]; exact Nat.ne_of_lt (Nat.lt_succ_of_lt hlt)),Heap.get?_update_ne _ _ _ _ (Nat.ne_of_lt hlt),Heap.get?_push_ne _ _ _ (Nat.ne_of_lt hlt)]
    exact q
  have hL:L < s.heap.objs.size := F.ns.lt
  show wpAny _ _ _ _ _ { s with heap := ((s.heap.push (seqObj "list" #[] 0)).update s.heap.objs.size (Obj.mapSeq (· ++ vs.toArray))).push (seqObj "list" vs.toArray 0) }
  rw [hsz]
  have F1 := F.kept keep
  have N1 := N.grown keep
  generalize ((s.heap.push (seqObj "list" #[] 0)).update s.heap.objs.size (Obj.mapSeq (· ++ vs.toArray))).push (seqObj "list" vs.toArray 0) = H1 at *
  have haL := Nat.ne_of_gt (Nat.lt_succ_of_lt hL)
  have ha0:b₀.get? (s.heap.objs.size + 1) = none := Heap.get?_none_of_le (Nat.le_trans F.above (Nat.le_succ_of_le (Nat.le_of_lt hL)))
  have hna:∀ p ∈ news,p.1 ≠ s.heap.objs.size + 1 := fun p hp=>Nat.ne_of_lt (Nat.lt_succ_of_lt (Heap.lt_size (N p hp).1))
  refine wpAny_bind (wpAny_holding (wpAny_call_entry slot_list_sort ⟨_,hoL,rfl⟩ entry_list_sort ?body (args_list_sort _)))
  case body =>
    by_cases h2:2 ≤ vs.length
    · refine kat_list_sort (s := { s with heap := H1 }) F1 N1 hoL haL ha0 hna h2 h64 fun e1 h' F' N'=>?_
      have hpr := hp h' F' ⟨_,N'⟩
      refine by_c fun no=>?_
      obtain ⟨fs,t1,t2,t3⟩ := pr_tups hpr
      refine no ?_;clear no
      refine kat_kind t1 (by (first | lia | omega)) (T := .type "int") (fun v hv=>?_) rfl ?_
      · refine by_c fun no=>?_
        obtain ⟨i,t,rfl⟩ := t3 v hv
        refine no ?_;clear no
        exact Looks.of_pure rfl
      refine KOk.wp (fun i j C hi hj hC=>?_) (fun p hpm=>?_) _ (ko_sort (n := vs.length) (by (first | lia | omega)))
      · have at_:∀ k,k < vs.length → vs.getD k Value.none ∈ vs := fun k hk=>by
          rw [List.getD_eq_getElem?_getD,List.getElem?_eq_getElem hk]; exact List.getElem_mem _
        exact pr_lt (i := 0) (j := 0) (hpr _ (at_ i hi)) (hpr _ (at_ j hj)) hC
      · exact KasFin.intro F' N' (.head hna) fun h2 c F2 N2=>⟨_,rfl,wpAny_pure ⟨_,rfl,h h2 _ c F2 N2 (perm_out hpm rfl)⟩⟩
    · have eo:((vs.toArray.zip vs.toArray).map (·.2)).toList = vs := by
        rw [Array.toList_map,Array.toList_zip]
        exact List.map_snd_zip (Nat.le_refl _)
      refine list_sort_short (s := { s with heap := H1 }) hoL (by (first | lia | omega)) ⟨_,rfl,?_⟩
      obtain ⟨ee,he⟩ := sortedHeap_at (out := (vs.toArray.zip vs.toArray).map (·.2)) hoL
      have keep2:∀ b o,s.heap.get? b = some o → (sortedHeap H1 (s.heap.objs.size + 1) vs ((vs.toArray.zip vs.toArray).map (·.2))).get? b = some o := fun b o e=>by
        have hb := Heap.lt_size e
        rw [sortedHeap_old (Nat.ne_of_lt (Nat.lt_succ_of_lt hb)) (Heap.lt_size (keep b o e))]
        exact keep b o e
      have hw := h _ ((vs.toArray.zip vs.toArray).map (·.2)).toList ee (F.kept keep2) (N.kept_cons F keep2 (Nat.le_succ _) he) (by rw [eo])
      exact wpAny_pure ⟨_,rfl,hw⟩
theorem isPr_is {x:V} (h:isPr H x = true):∃ t i j,x = .ref t ∧ H t = some (.tuple [.int i,.int j]) := by
  refine by_c fun no=>?_
  cases x <;> try (cases h; done)
  rename_i t
  replace h:(match H t with | some (.tuple [.int _,.int _])=>true | _=>false) = true := h
  cases q:H t with
  | none=>rw [q] at h; cases h
  | some o =>
    rw [q] at h
    cases o <;> try (cases h; done)
    rename_i xs
    rcases xs with _ | ⟨a,_ | ⟨b,_ | ⟨c',r'⟩⟩⟩ <;> try (cases h; done)
    all_goals cases a <;> try (cases h; done)
    all_goals cases b <;> try (cases h; done)
    exact no ⟨_,_,_,rfl,q⟩
theorem sound_sortT (Y:EnvOk W env c h₀) (R:Rel W h₀ env names H ρ s) {m:Str → Option Value} (F:Fr W.b₀ env.locals s.heap m) {l:Addr} {l1:List Value} {xs:List V} (h1:s.heap.IsList l l1.toArray) (r1:VRs W xs l1) (z1:xs.length ≤ big) (q:sortTOp xs H Q) :
    wpAny W.M A (call (.builtin "sorted") [.ref l]) (Res W h₀ env names ρ Q) E s := by
  refine sorted_tup (W := W) F kitN h1 (by rw [← r1.length]; exact q.1) (fun h' F' ⟨_,N'⟩ v hv=>?_) fun h' vs' e F' N' hpm=>?_
  · obtain ⟨i,hi⟩ := List.mem_iff_getElem?.mp hv
    obtain ⟨x,hx,rx⟩ := VRs.get' i r1 hi
    obtain ⟨t,i',j',rfl,ht⟩ := isPr_is (List.all_eq_true.mp q.2.1 x (List.mem_of_getElem? hx))
    cases rx
    obtain ⟨l2,⟨o,ho,hc,nn,hdd⟩,r2,z2⟩ := R.isTup ht
    cases r2 with
    | cons ra rb =>
      cases rb with
      | cons rb rc =>
        cases rc; cases ra; cases rb
        exact ⟨_,o,_,_,_,_,nn,rfl,kit_ext R Y F' N' (fun p hp=>.tail _ hp) _ _ (R.sep _ _ ht).2.1 ho,hc,hdd⟩
  · obtain ⟨xs',hx1,hx2⟩ := vrs_perm hpm r1
    obtain ⟨e',R'⟩ := kit_new (t := s.toks) R Y F F' N' (Nat.le_succ _) (or_list hx2 (by rw [hx1.length_eq]; exact z1))
    exact Res.mk (.ref _) R' (q.2.2 xs' hx1 _ e')
theorem sound_biOp (ok:AOk A c h₀ env Er n) (hf:c.hnd = false) (Y:EnvOk W env c h₀) (R:Rel W h₀ env names H ρ s) {b:BI} {vs:List V} {us:List Value} (hd:directBI b = true) (hv:VRs W vs us) (q:biOp b vs H Q) :
    wpAny W.M A (call (biVal b) us) (Res W h₀ env names ρ Q) E s := by
  obtain ⟨m,F⟩ := R.kitF Y
  have N:News W.b₀ env.locals s.heap _ := kitN
  have hh := ok.handled hf
  have b63 := big63
  cases b <;> first | (cases hd; done) | exact False.elim q | skip
  case len =>
    replace q:lenOp vs H Q := q
    delta lenOp at q
    split at q
    · -- the script
      obtain ⟨u,rfl,h⟩ := vrs1 hv; cases h
      obtain ⟨l1,h1,r1,z1⟩ := R.script Y
      have r2:VRs W (W.sn.map V.int) l1 := vrs_ints r1
      have hl:W.sn.length = l1.length := by have := r2.length; simpa using this
      have hs:((l1.toArray.size:Nat):Int) = W.sn.length := by simp [hl]
      exact len_list h1 (by rw [hs]; (first | lia | omega)) (by rw [hs]; exact Res.mk (.int _ _) (R.toks _) q)
    · -- len
      obtain ⟨u,rfl,h⟩ := vrs1 hv; cases h
      split at q
      · rename_i xs e
        obtain ⟨l1,h1,r1,z1⟩ := R.isList e
        have hs:((l1.toArray.size:Nat):Int) = xs.length := by simp [r1.length]
        exact len_list h1 (by rw [hs]; (first | lia | omega)) (by rw [hs]; exact Res.mk (.int _ _) (R.toks _) q)
      · rename_i xs e
        obtain ⟨l1,h1,r1,z1⟩ := R.isTup e
        have hs:((l1.toArray.size:Nat):Int) = xs.length := by simp [r1.length]
        exact PyProof.Rows.len_tuple h1 (by rw [hs]; (first | lia | omega)) (by rw [hs]; exact Res.mk (.int _ _) (R.toks _) q)
      · rename_i es e
        obtain ⟨kvs,h1,r1,z1⟩ := R.isDict e
        have hs:(kvs.length:Int) = es.length := by rw [r1.length]
        exact call_len_dict (R.noSys Y e) h1 (by rw [hs]; (first | lia | omega)) (by rw [hs]; exact Res.mk (.int _ _) (R.toks _) q)
      · exact q.elim
    · exact q.elim
  case list =>
    replace q:listOp vs H Q := q
    delta listOp at q
    split at q
    · -- list
      obtain ⟨u,rfl,h⟩ := vrs1 hv; cases h
      split at q
      · rename_i xs e
        obtain ⟨l1,⟨o,ho,hc,nn,hdd⟩,r1,z1⟩ := R.isList e
        refine call_list_seq (hsz := by simp [← r1.length]; exact Nat.le_trans z1 big_line) _ (.inl rfl) ho hc hdd fun h' c' hk hD=>?_
        exact Res.mk (.ref _) (R.put s.toks hk hD (or_list r1 z1) (none_size _) fun _ _=>R.up) (q _ R.fresh)
      · rename_i xs e
        obtain ⟨l1,⟨o,ho,hc,nn,hdd⟩,r1,z1⟩ := R.isTup e
        refine call_list_seq (hsz := by simp [← r1.length]; exact Nat.le_trans z1 big_line) _ (.inr rfl) ho hc hdd fun h' c' hk hD=>?_
        exact Res.mk (.ref _) (R.put s.toks hk hD (or_list r1 z1) (none_size _) fun _ _=>R.up) (q _ R.fresh)
      · exact q.elim
    · exact q.elim
  case sorted =>
    replace q:sortOp vs H Q := q
    delta sortOp at q
    split at q
    · -- sorted
      obtain ⟨u,rfl,h⟩ := vrs1 hv; cases h
      split at q
      · rename_i xs e
        obtain ⟨l1,h1,r1,z1⟩ := R.isList e
        split at q
        · rename_i ns e2
          have hI := ints_are r1 e2
          refine sorted_N F N h1 hI (by rw [← r1.length,← ints?_length e2]; exact q.1) fun h' vs' ns' ee F' N' a1 a2 a3=>?_
          have en:ns' = sortI ns := sorted_unique (a2.trans (sortI_perm ns).symm) a3 (sortI_sorted ns)
          subst en
          have hz:((sortI ns).map V.int).length ≤ big := by
            rw [List.length_map,(sortI_perm ns).length_eq,ints?_length e2]; exact z1
          obtain ⟨e,R'⟩ := kit_new (t := s.toks) R Y F F' N' (Nat.le_succ _) (or_list (vrs_ints a1) hz)
          exact Res.mk (.ref _) R' (q.2 _ e)
        · exact sound_sortT Y R F h1 r1 z1 q
      · rename_i es e
        obtain ⟨kvs,h1,r1,z1⟩ := R.isDict e
        obtain ⟨ep,hat⟩ := h1.dictAt
        refine sorted_dict (R.noSys Y e) hh hat (by rw [← r1.length]; exact Nat.le_trans z1 big_line) r1 (by rw [← r1.length]; exact q.1) fun D h' tk ee vs hn hlt hk ho hI=>?_
        have hb:W.b₀.objs.size ≤ D := by
          obtain ⟨m,⟨o,_,_,h,_⟩,_⟩ := R.ns
          exact Nat.le_trans R.above (Nat.le_of_lt (hlt _ (by rw [h]; simp)))
        exact Res.mk (.ref _) (R.put tk hk ho (or_list (vrs_ints hI) (by rw [List.length_map,(sortI_perm _).length_eq,List.length_map]; exact z1)) hn fun _ _=>hb) (q.2 _ (R.new_sep hn hb).1)
      · exact q.elim
    · exact q.elim
  case max =>
    replace q:maxOp vs H Q := q
    rcases vs with _ | ⟨a,_ | ⟨b,_ | ⟨c',r'⟩⟩⟩ <;> try exact False.elim q
    all_goals cases a <;> try exact False.elim q
    all_goals cases b <;> try exact False.elim q
    obtain ⟨u,u',rfl,h,h'⟩ := vrs2 hv; cases h; cases h'
    refine max_two_N hh F N fun h' tk F' N'=>?_
    have e:∀ i j:Int,(if j > i then j else i) = max i j := by intro i j; split <;> (first | lia | omega)
    rw [e]
    exact Res.mk (.int _ _) (kit_same R Y F F' N') q
  case min =>
    replace q:minOp vs H Q := q
    rcases vs with _ | ⟨a,_ | ⟨b,_ | ⟨c',r'⟩⟩⟩ <;> try exact False.elim q
    all_goals cases a <;> try exact False.elim q
    all_goals cases b <;> try exact False.elim q
    obtain ⟨u,u',rfl,h,h'⟩ := vrs2 hv; cases h; cases h'
    refine min_two_N hh F N fun h' tk F' N'=>?_
    have e:∀ i j:Int,(if j < i then j else i) = min i j := by intro i j; split <;> (first | lia | omega)
    rw [e]
    exact Res.mk (.int _ _) (kit_same R Y F F' N') q
  case all =>
    replace q:allOp vs H Q := q
    delta allOp at q
    split at q
    · obtain ⟨u,rfl,h⟩ := vrs1 hv; cases h
      split at q
      · rename_i xs e
        obtain ⟨l1,h1,r1,z1⟩ := R.isList e
        split at q
        · rename_i bs e2
          have hb := bools_at r1 e2
          subst hb
          refine call_all_walk (wpAny_pyIter_list h1 ?_)
          refine ⟨_,_,_,_,_,_,fun i=>bs.getD i false,rfl,Walks.list (A := A.in1) hh s.heap.objs.size _ (Nat.ne_of_lt (Heap.lt_size h1.choose_spec.1)) _,⟨⟨_,Heap.get?_push_size _ rfl,rfl,rfl⟩,h1.at fun o e=>Heap.get?_push_of_some _ e⟩,?_,?_⟩
          · intro i v s' Q' E' hP hq
            have hP':bs[i]?.map Value.bool = some v := by simpa using hP
            obtain ⟨b,b1,rfl⟩ := Option.map_eq_some_iff.mp hP'
            refine wpAny_truthy_bool ?_
            have:bs.getD i false = b := by simp [b1]
            exact this ▸ hq
          · intro h' tk hk
            have:(bs.map Value.bool).toArray.size = bs.length := by simp
            rw [this,range_all]
            refine Res.mk (.bool _) (R.move tk fun b o e=>hk b o ?_ (Heap.get?_push_of_some _ e)) q
            intro hm; rw [List.mem_singleton.mp hm] at e; exact absurd (Heap.lt_size e) (Nat.lt_irrefl _)
        · exact q.elim
      · exact q.elim
    · exact q.elim
  case any =>
    replace q:anyOp vs H Q := q
    delta anyOp at q
    split at q
    · obtain ⟨u,rfl,h⟩ := vrs1 hv; cases h
      split at q
      · rename_i xs e
        obtain ⟨l1,h1,r1,z1⟩ := R.isList e
        split at q
        · rename_i bs e2
          have hb := bools_at r1 e2
          subst hb
          refine call_any_walk (wpAny_pyIter_list h1 ?_)
          refine ⟨_,_,_,_,_,_,fun i=>bs.getD i false,rfl,Walks.list (A := A.in1) hh s.heap.objs.size _ (Nat.ne_of_lt (Heap.lt_size h1.choose_spec.1)) _,⟨⟨_,Heap.get?_push_size _ rfl,rfl,rfl⟩,h1.at fun o e=>Heap.get?_push_of_some _ e⟩,?_,?_⟩
          · intro i v s' Q' E' hP hq
            have hP':bs[i]?.map Value.bool = some v := by simpa using hP
            obtain ⟨b,b1,rfl⟩ := Option.map_eq_some_iff.mp hP'
            refine wpAny_truthy_bool ?_
            have:bs.getD i false = b := by simp [b1]
            exact this ▸ hq
          · intro h' tk hk
            have:(bs.map Value.bool).toArray.size = bs.length := by simp
            rw [this,range_any]
            refine Res.mk (.bool _) (R.move tk fun b o e=>hk b o ?_ (Heap.get?_push_of_some _ e)) q
            intro hm; rw [List.mem_singleton.mp hm] at e; exact absurd (Heap.lt_size e) (Nat.lt_irrefl _)
        · exact q.elim
      · exact q.elim
    · exact q.elim
end Mine
set_option Elab.async false
namespace Mine
open PySem
noncomputable abbrev Ris (xs:Array Nat):Prop := xs.toList.Pairwise (· < ·)
theorem Ris.lt {xs:Array Nat} (h:Ris xs) {i k a b:Nat} (ha:xs[i]? = some a) (hb:xs[k]? = some b) (hik:i < k):a < b := by
  rw [← Array.getElem?_toList] at ha hb
  obtain ⟨h1,rfl⟩ := List.getElem?_eq_some_iff.mp ha
  obtain ⟨h2,rfl⟩ := List.getElem?_eq_some_iff.mp hb
  exact List.pairwise_iff_getElem.mp h i k h1 h2 hik
structure Bel (xs:Array Nat) (j b:Nat):Prop where
  le:b ≤ xs.size
  lo:∀ i v,xs[i]? = some v → i < b → v < j
  hi:∀ i v,xs[i]? = some v → b ≤ i → j ≤ v
theorem below_go {xs:Array Nat} {j:Nat} (hr:Ris xs):∀ (fuel lo hi:Nat),hi ≤ xs.size → lo ≤ hi → hi - lo ≤ fuel →
    (∀ i v,xs[i]? = some v → i < lo → v < j) → (∀ i v,xs[i]? = some v → hi ≤ i → j ≤ v) → Bel xs j (SetTable.below.go xs j fuel lo hi) := by
  intro fuel
  induction fuel with
  | zero =>
    intro lo hi h1 h2 h3 p r
    have:lo = hi := Nat.le_antisymm h2 (Nat.le_of_sub_eq_zero (Nat.le_zero.mp h3))
    subst this
    exact ⟨h1,p,r⟩
  | succ fuel ih =>
    intro lo hi h1 h2 h3 p r
    show Bel xs j (if lo < hi then (if xs.getD ((lo + hi) / 2) j < j then SetTable.below.go xs j fuel ((lo + hi) / 2 + 1) hi else SetTable.below.go xs j fuel lo ((lo + hi) / 2)) else lo)
    by_cases hlt:lo < hi
    · rw [if_pos hlt]
      have g1:lo ≤ (lo + hi) / 2 ∧ (lo + hi) / 2 < hi := by omega
      generalize (lo + hi) / 2 = mid at *
      have hm:mid < xs.size := Nat.lt_of_lt_of_le g1.2 h1
      have e:xs[mid]? = some xs[mid] := Array.getElem?_eq_getElem hm
      rw [show xs.getD mid j = xs[mid] by rw [Array.getD_eq_getD_getElem?,e]; rfl]
      by_cases hv:xs[mid] < j
      · rw [if_pos hv]
        refine ih _ hi h1 g1.2 (by omega) (fun i v hi' hl=>?_) r
        rcases Nat.lt_or_eq_of_le (Nat.le_of_lt_succ hl) with q | q
        · exact Nat.lt_trans (hr.lt hi' e q) hv
        · subst q; rw [e] at hi'; cases hi'; exact hv
      · rw [if_neg hv]
        refine ih lo _ (Nat.le_of_lt hm) g1.1 (by omega) p (fun i v hi' hl=>?_)
        rcases Nat.lt_or_eq_of_le hl with q | q
        · exact Nat.le_trans (Nat.le_of_not_lt hv) (Nat.le_of_lt (hr.lt e hi' q))
        · subst q; rw [e] at hi'; cases hi'; exact Nat.le_of_not_lt hv
    · rw [if_neg hlt]
      have:lo = hi := Nat.le_antisymm h2 (Nat.le_of_not_lt hlt)
      subst this
      exact ⟨h1,p,r⟩
theorem below_spec {xs:Array Nat} (j:Nat) (hr:Ris xs):Bel xs j (SetTable.below xs j) :=
  below_go hr xs.size 0 xs.size (Nat.le_refl _) (Nat.zero_le _) (Nat.le_refl _) (fun _ _ _ h=>absurd h (Nat.not_lt_zero _)) (fun i v h q=>by
    rw [Array.getElem?_eq_none q] at h; cases h)
theorem arr_some {xs:Array Nat} {i:Nat} (h:i < xs.size):∃ v,xs[i]? = some v := ⟨xs[i],by simp [h]⟩
theorem arr_lt {α:Type} {xs:Array α} {i:Nat} {v:α} (h:xs[i]? = some v):i < xs.size := by
  rcases Nat.lt_or_ge i xs.size with q | q
  · exact q
  · rw [Array.getElem?_eq_none q] at h; cases h
theorem below_at {xs:Array Nat} (hr:Ris xs) {i j:Nat} (h:xs[i]? = some j):SetTable.below xs j = i := by
  obtain ⟨b1,b2,b3⟩ := below_spec j hr
  rcases Nat.lt_trichotomy (SetTable.below xs j) i with q | q | q
  · obtain ⟨v,hv⟩ := arr_some (xs := xs) (Nat.lt_trans q (arr_lt h))
    have := b3 _ v hv (Nat.le_refl _)
    have := hr.lt hv h q
    (first | lia | omega)
  · exact q
  · have := b2 i j h q; (first | lia | omega)
theorem below_next {xs:Array Nat} (hr:Ris xs) {i p:Nat} (h:xs[i]? = some p):SetTable.below xs (p + 1) = i + 1 := by
  obtain ⟨b1,b2,b3⟩ := below_spec (p + 1) hr
  rcases Nat.lt_trichotomy (SetTable.below xs (p + 1)) (i + 1) with q | q | q
  · have := b3 i p h (by (first | lia | omega)); (first | lia | omega)
  · exact q
  · obtain ⟨v,hv⟩ := arr_some (xs := xs) (Nat.lt_of_lt_of_le q b1)
    have := b2 _ v hv q
    have := hr.lt h hv (Nat.lt_succ_self _)
    (first | lia | omega)
theorem below_zero {xs:Array Nat} (hr:Ris xs):SetTable.below xs 0 = 0 := by
  obtain ⟨b1,b2,b3⟩ := below_spec 0 hr
  rcases Nat.eq_zero_or_pos (SetTable.below xs 0) with q | q
  · exact q
  · obtain ⟨v,hv⟩ := arr_some (xs := xs) (Nat.lt_of_lt_of_le q b1)
    exact absurd (b2 0 v hv q) (Nat.not_lt_zero _)
theorem ins_ris {xs:Array Nat} {j:Nat} (hr:Ris xs) (hn:j ∉ xs.toList):Ris (SetTable.insertAt xs (SetTable.below xs j) j) := by
  obtain ⟨b1,b2,b3⟩ := below_spec j hr
  show List.Pairwise _ (SetTable.insertAt xs (SetTable.below xs j) j).toList
  rw [SetTable.toList_insertAt]
  have hd:∀ b ∈ xs.toList.drop (SetTable.below xs j),j < b := fun b hb=>by
    obtain ⟨i,hi,rfl⟩ := List.getElem_of_mem hb
    rw [List.getElem_drop] at *
    have h1:xs.toList[SetTable.below xs j + i]? = some (xs.toList[SetTable.below xs j + i]'(by simp at hi; simp; (first | lia | omega))) := by simp
    have := b3 _ _ (by rw [← Array.getElem?_toList]; exact h1) (Nat.le_add_right _ _)
    rcases Nat.lt_or_eq_of_le this with q | q
    · exact q
    · exact absurd (q ▸ List.getElem_mem _) hn
  refine List.pairwise_append.mpr ⟨hr.sublist (List.take_sublist _ _),List.pairwise_cons.mpr ⟨hd,hr.sublist (List.drop_sublist _ _)⟩,fun a ha b hb=>?_⟩
  have haj:a < j := by
    obtain ⟨i,hi,rfl⟩ := List.getElem_of_mem ha
    rw [List.getElem_take]
    have h1:xs.toList[i]? = some (xs.toList[i]'(by simp at hi; simp; (first | lia | omega))) := by simp
    exact b2 _ _ (by rw [← Array.getElem?_toList]; exact h1) (by simp at hi; (first | lia | omega))
  rcases List.mem_cons.mp hb with rfl | hb
  · exact haj
  · exact Nat.lt_trans haj (hd b hb)
noncomputable def cov (mask:Nat):Nat → Nat → Nat → Nat
  | 0,_,_=>0
  | L + 1,i,pt=>(((1 <<< (SetTable.runEnd mask i + 1 - i)) - 1) <<< i) ||| cov mask L (SetTable.leap mask i pt).1 (SetTable.leap mask i pt).2
theorem cov_bit {mask L i pt j:Nat} (h:(cov mask (L + 1) i pt).testBit j = true):(∃ k,k ≤ SetTable.runEnd mask i - i ∧ j = i + k) ∨ (cov mask L (SetTable.leap mask i pt).1 (SetTable.leap mask i pt).2).testBit j = true := by
  rw [show cov mask (L + 1) i pt = (((1 <<< (SetTable.runEnd mask i + 1 - i)) - 1) <<< i) ||| cov mask L (SetTable.leap mask i pt).1 (SetTable.leap mask i pt).2 from rfl,Nat.testBit_or,Bool.or_eq_true] at h
  rcases h with h | h
  · rw [Nat.testBit_shiftLeft,Nat.one_shiftLeft,Nat.testBit_two_pow_sub_one] at h
    simp only [Bool.and_eq_true,decide_eq_true_eq] at h
    exact .inl ⟨j - i,by omega,by omega⟩
  · exact .inr h
theorem covers {h mask:Nat} (hh:h < 64) (hm:mask = 7 ∨ mask = 31 ∨ mask = 127):cov mask (SetTable.turns mask) (h % (mask + 1)) h = 2 ^ (mask + 1) - 1 := by
  have key:∀ m ∈ [7,31,127],((List.range 64).all fun h=>cov m (SetTable.turns m) (h % (m + 1)) h == 2 ^ (m + 1) - 1) = true := by decide +kernel
  have := List.all_eq_true.mp (key mask (by simpa using hm)) h (List.mem_range.mpr hh)
  exact beq_iff_eq.mp this
theorem covers_bit {h mask:Nat} (hh:h < 64) (hm:mask = 7 ∨ mask = 31 ∨ mask = 127) {j:Nat} (hj:j ≤ mask):(cov mask (SetTable.turns mask) (h % (mask + 1)) h).testBit j = true := by
  rw [covers hh hm,Nat.testBit_two_pow_sub_one]
  simp; (first | lia | omega)
theorem nodup_sub {α:Type} [DecidableEq α]:∀ {l m:List α},l.Nodup → (∀ x ∈ l,x ∈ m) → l.length ≤ m.length
  | [],_,_,_=>Nat.zero_le _
  | a :: l,m,hn,hs=>by
    have h1 := nodup_sub (l := l) (m := m.erase a) (List.nodup_cons.mp hn).2 fun x hx=>(List.mem_erase_of_ne (fun e:x = a=>(List.nodup_cons.mp hn).1 (by rw [← e]; exact hx))).mpr (hs x (.tail _ hx))
    rw [List.length_erase_of_mem (hs a (.head _))] at h1
    have:0 < m.length := List.length_pos_of_mem (hs a (.head _))
    simp only [List.length_cons]
    (first | lia | omega)
theorem some_free {m:List Nat} {mask:Nat} (h:m.length ≤ mask):¬ ∀ j,j ≤ mask → j ∈ m := fun q=>by
  have := nodup_sub (List.nodup_range (n := mask + 1)) fun x hx=>q x (by have := List.mem_range.mp hx; (first | lia | omega))
  simp at this
  (first | lia | omega)
section
variable {t:SetTable}
theorem slot_cases (hd:t.dummies = #[]) (hr:Ris t.place) (j:Nat):(∃ i,t.slot j = .live i ∧ j ∈ t.place.toList) ∨ (t.slot j = .empty ∧ j ∉ t.place.toList) := by
  unfold SetTable.slot
  by_cases h:t.place[SetTable.below t.place j]? = some j
  · refine .inl ⟨SetTable.below t.place j,by simp [h],?_⟩
    rw [← Array.getElem?_toList] at h
    exact List.mem_of_getElem? h
  · refine .inr ⟨by simp [h,SetTable.has,hd],fun q=>?_⟩
    obtain ⟨i,hi⟩ := List.mem_iff_getElem?.mp q
    rw [Array.getElem?_toList] at hi
    rw [below_at hr hi] at h
    exact h hi
noncomputable abbrev leapP (mask i pt:Nat):SetTable.Probe := { j := (SetTable.leap mask i pt).1,more := SetTable.runEnd mask (SetTable.leap mask i pt).1 - (SetTable.leap mask i pt).1,i := (SetTable.leap mask i pt).1,perturb := (SetTable.leap mask i pt).2,dummy := none }
theorem go_run (hd:t.dummies = #[]) (hr:Ris t.place) (h:Int) (f i pt:Nat):∀ (m j:Nat),
    (∃ k,SetTable.probe.go t (fun _=>h + 1) h (f + (m + 1)) ⟨j,m,i,pt,none⟩ = some (.empty k none) ∧ k ∉ t.place.toList) ∨
    ((∀ k,k ≤ m → j + k ∈ t.place.toList) ∧ SetTable.probe.go t (fun _=>h + 1) h (f + (m + 1)) ⟨j,m,i,pt,none⟩ = SetTable.probe.go t (fun _=>h + 1) h f (leapP t.mask i pt)) := by
  have hne:(h + 1 == h) = false := beq_eq_false_iff_ne.mpr (fun e=>by (first | lia | omega))
  have st:∀ m j i',t.slot j = .live i' → SetTable.probe.go t (fun _=>h + 1) h (f + m + 1) ⟨j,m,i,pt,none⟩ = SetTable.probe.go t (fun _=>h + 1) h (f + m) (t.advance ⟨j,m,i,pt,none⟩) := fun m j i' e=>by
    show (match t.slot j with
      | .empty=>some (SetTable.Met.empty j none)
      | .dummy=>SetTable.probe.go t (fun _=>h + 1) h (f + m) (t.advance { j,more := m,i,perturb := pt,dummy := some j })
      | .live i₁=>if h + 1 == h then some (SetTable.Met.candidate j i₁ (t.advance ⟨j,m,i,pt,none⟩)) else SetTable.probe.go t (fun _=>h + 1) h (f + m) (t.advance ⟨j,m,i,pt,none⟩)) = _
    rw [e,hne]
    rfl
  have em:∀ m j,t.slot j = .empty → SetTable.probe.go t (fun _=>h + 1) h (f + m + 1) ⟨j,m,i,pt,none⟩ = some (.empty j none) := fun m j e=>by
    show (match t.slot j with
      | .empty=>some (SetTable.Met.empty j none)
      | .dummy=>SetTable.probe.go t (fun _=>h + 1) h (f + m) (t.advance { j,more := m,i,perturb := pt,dummy := some j })
      | .live i₁=>if h + 1 == h then some (SetTable.Met.candidate j i₁ (t.advance ⟨j,m,i,pt,none⟩)) else SetTable.probe.go t (fun _=>h + 1) h (f + m) (t.advance ⟨j,m,i,pt,none⟩)) = _
    rw [e]
  intro m
  induction m with
  | zero =>
    intro j
    rcases slot_cases hd hr j with ⟨i',e,hm⟩ | ⟨e,hm⟩
    · refine .inr ⟨fun k hk=>?_,st 0 j i' e⟩
      rw [Nat.le_zero.mp hk]
      exact hm
    · exact .inl ⟨j,em 0 j e,hm⟩
  | succ m ih =>
    intro j
    rcases slot_cases hd hr j with ⟨i',e,hm⟩ | ⟨e,hm⟩
    · have s1 := st (m + 1) j i' e
      have e2:t.advance ⟨j,m + 1,i,pt,none⟩ = ⟨j + 1,m,i,pt,none⟩ := rfl
      rw [e2] at s1
      rcases ih (j + 1) with ⟨k,q1,q2⟩ | ⟨q1,q2⟩
      · exact .inl ⟨k,s1.trans q1,q2⟩
      · refine .inr ⟨fun k hk=>?_,s1.trans q2⟩
        cases k with
        | zero=>exact hm
        | succ k=>have := q1 k (Nat.le_of_succ_le_succ hk); rwa [Nat.add_assoc,Nat.add_comm 1 k] at this
    · exact .inl ⟨j,em (m + 1) j e,hm⟩
theorem runEnd_ge (mask i:Nat):i ≤ SetTable.runEnd mask i := by unfold SetTable.runEnd; split <;> (first | lia | omega)
theorem runEnd_le (mask i:Nat):SetTable.runEnd mask i - i + 1 ≤ 10 := by unfold SetTable.runEnd; split <;> (first | lia | omega)
theorem go_leaps (hd:t.dummies = #[]) (hr:Ris t.place) (h:Int) (L:Nat):∀ (f i pt:Nat),10 * L ≤ f →
    (∃ k,SetTable.probe.go t (fun _=>h + 1) h f ⟨i,SetTable.runEnd t.mask i - i,i,pt,none⟩ = some (.empty k none) ∧ k ∉ t.place.toList) ∨
    ∀ j,(cov t.mask L i pt).testBit j = true → j ∈ t.place.toList := by
  induction L with
  | zero=>exact fun f i pt _=>.inr fun j hj=>by rw [show cov t.mask 0 i pt = 0 from rfl,Nat.zero_testBit] at hj; cases hj
  | succ L ih =>
    intro f i pt hf
    have h10 := runEnd_le t.mask i
    obtain ⟨f',rfl⟩:∃ f',f = f' + (SetTable.runEnd t.mask i - i + 1) := ⟨f - (SetTable.runEnd t.mask i - i + 1),by (first | lia | omega)⟩
    rcases go_run hd hr h f' i pt (SetTable.runEnd t.mask i - i) i with q | ⟨q1,q2⟩
    · exact .inl q
    · rw [q2]
      rcases ih f' (SetTable.leap t.mask i pt).1 (SetTable.leap t.mask i pt).2 (by (first | lia | omega)) with q | q
      · exact .inl q
      · refine .inr fun j hj=>?_
        rcases cov_bit hj with ⟨k,hk,rfl⟩ | hj
        · exact q1 k hk
        · exact q j hj
noncomputable abbrev Masks (m:Nat):Prop := m = 7 ∨ m = 31 ∨ m = 127
theorem bits_small {h:Int} (h0:0 ≤ h) (h1:h < 64):SetTable.bits h = h.toNat := by
  unfold SetTable.bits
  rw [Int.emod_eq_of_lt h0 (by (first | lia | omega))]
theorem free_slot (hd:t.dummies = #[]) (hr:Ris t.place) (hm:Masks t.mask) (hs:t.place.size ≤ t.mask) {h:Int} (h0:0 ≤ h) (h1:h < 64) :
    ∃ j,t.freeSlot h = some (j,false) ∧ j ∉ t.place.toList := by
  unfold SetTable.freeSlot SetTable.probe SetTable.probeStart
  dsimp only
  rw [bits_small h0 h1]
  rcases go_leaps hd hr h (SetTable.turns t.mask) (10 * SetTable.turns t.mask) (h.toNat % (t.mask + 1)) h.toNat (Nat.le_refl _) with ⟨k,e,hk⟩ | q
  · exact ⟨k,by rw [e]; rfl,hk⟩
  · exact absurd (fun j hj=>q j (covers_bit (by (first | lia | omega)) hm hj)) (some_free (by simpa using hs))
end
/-! the table laid anew -/
theorem lay_free {mask:Nat} {owner:Array (Option Nat)} (f:Nat):∀ (i pt:Nat),(∃ j,SetTable.layClean.free mask owner f i pt = some j ∧ owner[j]? = some none) ∨ (∀ j,(cov mask f i pt).testBit j = true → owner[j]? ≠ some none) := by
  induction f with
  | zero=>exact fun i pt=>.inr fun j hj=>by rw [show cov mask 0 i pt = 0 from rfl,Nat.zero_testBit] at hj; cases hj
  | succ f ih =>
    intro i pt
    have es:SetTable.layClean.free mask owner (f + 1) i pt = (match (List.range (SetTable.runEnd mask i + 1 - i)).find? fun k=>(owner.getD (i + k) (some 0)).isNone with
      | some k=>some (i + k)
      | none=>SetTable.layClean.free mask owner f (SetTable.leap mask i pt).1 (SetTable.leap mask i pt).2) := rfl
    rw [es]
    cases hk:(List.range (SetTable.runEnd mask i + 1 - i)).find? fun k=>(owner.getD (i + k) (some 0)).isNone with
    | some k =>
      have := List.find?_some hk
      refine .inl ⟨_,rfl,?_⟩
      rw [Array.getD_eq_getD_getElem?] at this
      cases q:owner[i + k]? with
      | none=>rw [q] at this; cases this
      | some v=>rw [q] at this; cases v with
        | none=>rfl
        | some _=>cases this
    | none =>
      rw [List.find?_eq_none] at hk
      rcases ih (SetTable.leap mask i pt).1 (SetTable.leap mask i pt).2 with q | q
      · exact .inl q
      · refine .inr fun j hj=>?_
        rcases cov_bit hj with ⟨k,hk',rfl⟩ | hj
        · have := hk k (List.mem_range.mpr (by have := runEnd_ge mask i; (first | lia | omega)))
          intro e
          rw [Array.getD_eq_getD_getElem?,e] at this
          exact this rfl
        · exact q j hj
theorem list_split {α:Type} (b:α) (l:List α):∀ {j:Nat} {a:α},l[j]? = some a → ∃ p q,l = p ++ a :: q ∧ l.set j b = p ++ b :: q := by
  induction l with
  | nil=>intro j a h; cases h
  | cons x l ih =>
    intro j a h
    cases j with
    | zero=>cases h; exact ⟨[],l,rfl,rfl⟩
    | succ j =>
      obtain ⟨p,q,e1,e2⟩ := ih (j := j) h
      exact ⟨x :: p,q,by rw [e1]; rfl,by rw [List.set_cons_succ,e2]; rfl⟩
theorem all_some:∀ {l:List (Option Nat)},(∀ j:Nat,j < l.length → l[j]? ≠ some none) → (l.filterMap id).length = l.length
  | [],_=>rfl
  | none :: l,h=>absurd rfl (h 0 (Nat.zero_lt_succ _))
  | some a :: l,h=>by
    have := all_some (l := l) fun j hj=>h (j + 1) (Nat.succ_lt_succ hj)
    simp [this]
noncomputable abbrev layStep (mask:Nat) (acc:Option (Array (Option Nat) × Nat)) (h:Int):Option (Array (Option Nat) × Nat) := do
    let (owner,k) ← acc
    let j ← SetTable.layClean.free mask owner (SetTable.turns mask) (SetTable.bits h % (mask + 1)) (SetTable.bits h)
    pure (owner.setIfInBounds j (some k),k + 1)
theorem lay_fold {mask:Nat} (hm:Masks mask) (hs:List Int):∀ (owner:Array (Option Nat)) (k:Nat),(∀ h ∈ hs,0 ≤ h ∧ h < 64) → k + hs.length ≤ mask → owner.size = mask + 1 → List.Perm (owner.toList.filterMap id) (List.range k) →
    ∃ owner',hs.foldl (layStep mask) (some (owner,k)) = some (owner',k + hs.length) ∧ owner'.size = mask + 1 ∧ List.Perm (owner'.toList.filterMap id) (List.range (k + hs.length)) := by
  induction hs with
  | nil=>exact fun owner k _ _ h3 h4=>⟨owner,rfl,h3,h4⟩
  | cons h hs ih =>
    intro owner k h1 h2 h3 h4
    rw [List.length_cons,← Nat.add_assoc,Nat.add_right_comm] at h2
    obtain ⟨g0,g1⟩ := h1 h (.head _)
    have key:∃ j,SetTable.layClean.free mask owner (SetTable.turns mask) (SetTable.bits h % (mask + 1)) (SetTable.bits h) = some j ∧ owner[j]? = some none := by
      rcases lay_free (mask := mask) (owner := owner) (SetTable.turns mask) (SetTable.bits h % (mask + 1)) (SetTable.bits h) with q | q
      · exact q
      · rw [bits_small g0 g1] at q
        have := all_some (l := owner.toList) fun j hj=>by
          rw [Array.getElem?_toList]
          exact q j (covers_bit (by (first | lia | omega)) hm (by rw [Array.length_toList,h3] at hj; exact Nat.le_of_lt_succ hj))
        rw [h4.length_eq,List.length_range,Array.length_toList,h3] at this
        (first | lia | omega)
    refine by_c fun no=>?_
    obtain ⟨j,e,hj⟩ := key
    refine no ?_;clear no
    have hstep:layStep mask (some (owner,k)) h = some (owner.setIfInBounds j (some k),k + 1) := by
      show (SetTable.layClean.free mask owner (SetTable.turns mask) (SetTable.bits h % (mask + 1)) (SetTable.bits h)).bind _ = _
      rw [e]
      rfl
    rw [List.foldl_cons,hstep]
    have hj':owner.toList[j]? = some none := by rw [Array.getElem?_toList]; exact hj
    refine by_c fun no=>?_
    obtain ⟨p,q,e1,e2⟩ := list_split (some k) _ hj'
    refine no ?_;clear no
    have hp:List.Perm ((owner.setIfInBounds j (some k)).toList.filterMap id) (List.range (k + 1)) := by
      rw [Array.toList_setIfInBounds,e2,List.range_succ,List.filterMap_append,List.filterMap_cons]
      rw [e1,List.filterMap_append,List.filterMap_cons] at h4
      exact List.perm_middle.trans ((h4.cons k).trans (List.perm_append_singleton k _).symm)
    have ek:k + (h :: hs).length = k + 1 + hs.length := by rw [List.length_cons,← Nat.add_assoc,Nat.add_right_comm]
    rw [ek]
    exact ih (owner.setIfInBounds j (some k)) (k + 1) (fun x hx=>h1 x (.tail _ hx)) h2 (by rw [Array.size_setIfInBounds]; exact h3) hp
theorem filterMap_range (l:List (Option Nat)):(List.range l.length).filterMap (fun j=>l[j]?.getD none) = l.filterMap id := by
  induction l with
  | nil=>rfl
  | cons a l ih =>
    rw [List.length_cons,List.range_succ_eq_map,List.filterMap_cons,List.filterMap_map,List.filterMap_cons]
    have e:((fun j=>(a :: l)[j]?.getD none) ∘ Nat.succ) = fun j=>l[j]?.getD none := by funext i; simp
    rw [e,ih]
    rfl
theorem laid_ok {mask:Nat} (hm:Masks mask) {hs:Array Int} (h1:∀ h ∈ hs.toList,0 ≤ h ∧ h < 64) (h2:hs.size ≤ mask) (finger moves:Nat) (led plain:Bool) :
    ∃ place order,SetTable.laid mask finger moves led plain hs = some ({ mask,place,dummies := #[],finger,led,moves,plain },order) ∧ Ris place ∧ place.size = hs.size ∧ List.Perm order.toList (List.range hs.size) := by
  refine by_c fun no=>?_
  obtain ⟨o,e1,e2,e3⟩ := lay_fold hm hs.toList (Array.replicate (mask + 1) none) 0 h1 (by simpa using h2) (by simp) (by simp)
  refine no ?_;clear no
  have hc:SetTable.layClean mask hs = some o := by
    unfold SetTable.layClean
    rw [← Array.foldl_toList]
    show Option.map _ (List.foldl (layStep mask) _ _) = _
    rw [e1]
    rfl
  simp only [Nat.zero_add,Array.length_toList] at e3
  have el:((List.range (mask + 1)).filterMap fun j=>(o.getD j none).map (j,·)).map (·.2) = o.toList.filterMap id := by
    rw [List.map_filterMap,← filterMap_range,Array.length_toList,e2]
    congr 1
    funext j
    rw [Array.getD_eq_getD_getElem?,Array.getElem?_toList]
    cases o[j]?.getD none <;> rfl
  refine ⟨_,_,by unfold SetTable.laid; rw [hc]; rfl,?_,?_,?_⟩
  · show List.Pairwise _ (List.toArray _).toList
    rw [List.map_filterMap]
    refine (List.pairwise_lt_range (n := mask + 1)).filterMap _ fun a b hab x hx y hy=>?_
    simp only [Option.map_map] at hx hy
    refine by_c fun no=>?_
    obtain ⟨_,_,rfl⟩ := Option.map_eq_some_iff.mp hx
    refine no ?_;clear no
    refine by_c fun no=>?_
    obtain ⟨_,_,rfl⟩ := Option.map_eq_some_iff.mp hy
    refine no ?_;clear no
    exact hab
  · have := e3.length_eq
    rw [← el] at this
    simpa using this
  · show List.Perm (List.toArray _).toList _
    rw [el]
    exact e3
end Mine
set_option Elab.async false
namespace Mine
open PySem
structure Tab (led:Bool) (es:Array (Int × Value)) (t:SetTable):Prop where
  ris:Ris t.place
  dum:t.dummies = #[]
  plain:t.plain = true
  led:t.led = led
  size:t.place.size = es.size
  mask:Masks t.mask
  room:es.size * 5 < t.mask * 3
  keys:∀ e ∈ es.toList,0 ≤ e.1 ∧ e.1 < 60 ∧ ∃ t:Tok,e.2 = .int e.1 t
noncomputable def SetT (led:Bool) (h:Heap) (a:Addr) (m:List Int):Prop :=
  ∃ es ep t,h.get? a = some { cls := .type "set",dict := none,data := .set es ep t } ∧ Tab led es t ∧ List.Perm (es.toList.map (·.1)) m ∧ m.Nodup
noncomputable def stepD (d:List Int) (k:Int):List Int := if d.any (· == k) then d else d ++ [k]
theorem hash_small {k:Int} (h0:0 ≤ k) (h1:k < 64):hashInt k = k := by
  obtain ⟨n,rfl⟩ := Int.eq_ofNat_of_zero_le h0
  have h2:n < 64 := by (first | lia | omega)
  revert h2
  revert n
  intro n _ _ h2
  have key:∀ m:Fin 64,hashInt (m.1:Int) = (m.1:Int) := by decide +kernel
  exact key ⟨n,h2⟩
section
variable {prog:Program} {w:World} {A:Around} {E:Value → Shared → Prop} {s:Shared} {led:Bool}
theorem Tab.elems {es:Array (Int × Value)} {t:SetTable} (T:Tab led es t):ElemsOf (intKind prog w) es.toList := fun e he=>by
  obtain ⟨h0,h1,tk,e2⟩ := T.keys e he
  rw [e2]
  exact ⟨⟨e.1,intKind_is _ _ _ _,(hash_small h0 (by (first | lia | omega))).symm⟩,rfl⟩
theorem fits_of {t:SetTable} {n:Nat} (h1:t.place.size = n) (h2:t.dummies = #[]) (h3:n ≤ t.mask):t.fits n = true := by
  simp only [SetTable.fits,SetTable.fill,h1,h2,beq_self_eq_true,Bool.true_and,decide_eq_true_eq]
  exact h3
theorem Tab.le {es:Array (Int × Value)} {t:SetTable} (T:Tab led es t):es.size < t.mask := by
  have := T.room
  (first | lia | omega)
theorem Tab.fits {es:Array (Int × Value)} {t:SetTable} (T:Tab led es t):t.fits es.size = true := fits_of T.size T.dum (Nat.le_of_lt T.le)
theorem masks_lt {m:Nat} (h:Masks m):m < 128 := by
  rcases h with rfl | rfl | rfl <;> decide
theorem lt_scan {n:Nat} (h:n < 128):n < scanBound := Nat.lt_trans h (by decide)
theorem Tab.lt {es:Array (Int × Value)} {t:SetTable} (T:Tab led es t):es.size < scanBound := lt_scan (Nat.lt_trans T.le (masks_lt T.mask))
theorem Tab.small {es:Array (Int × Value)} {t:SetTable} {m:List Int} (T:Tab led es t) (hp:List.Perm (es.toList.map (·.1)) m) (hn:m.Nodup):m.length ≤ 60 := by
  have := nodup_sub (m := (List.range 60).map Int.ofNat) hn fun x hx=>by
    obtain ⟨e,he,rfl⟩ := List.mem_map.mp (hp.mem_iff.mpr hx)
    obtain ⟨h0,h1,_⟩ := T.keys e he
    exact List.mem_map.mpr ⟨e.1.toNat,List.mem_range.mpr (by (first | lia | omega)),Int.toNat_of_nonneg h0⟩
  simpa using this
theorem ins_size {α:Type} (xs:Array α) (p:Nat) (x:α):(SetTable.insertAt xs p x).size = xs.size + 1 := by
  rw [← Array.length_toList,(SetTable.insertAt_perm xs p x).length_eq,Array.length_toList,Array.size_push]
theorem put_ok {es:Array (Int × Value)} {t:SetTable} (T:Tab led es t) {k:Int} (h0:0 ≤ k) (h1:k < 64) (x:Value) :
    ∃ es' t',layNew t es k x = (es',t',false,false) ∧ es'.size = es.size + 1 ∧ List.Perm es'.toList (es.toList ++ [(k,x)]) ∧ Ris t'.place ∧ t'.dummies = #[] ∧ t'.plain = true ∧ t'.led = led ∧ t'.mask = t.mask ∧ t'.place.size = es'.size := by
  obtain ⟨j,e,hj⟩ := free_slot T.dum T.ris T.mask (by rw [T.size]; exact Nat.le_of_lt T.le) h0 h1
  have hz := ins_size es (SetTable.below t.place j) (k,x)
  have hz':(SetTable.insertAt t.place (SetTable.below t.place j) j).size = es.size + 1 := by rw [ins_size,T.size]
  have hp:t.put j = ({ t with place := SetTable.insertAt t.place (SetTable.below t.place j) j },SetTable.below t.place j) := by
    unfold SetTable.put
    rw [T.dum]
    rfl
  refine ⟨_,{ t with place := SetTable.insertAt t.place (SetTable.below t.place j) j },?_,hz,(SetTable.insertAt_perm _ _ _).trans (by rw [Array.toList_push]),ins_ris T.ris hj,T.dum,T.plain,T.led,rfl,by rw [hz]; exact hz'⟩
  unfold layNew
  rw [e]
  dsimp only
  rw [hp]
  dsimp only
  rw [hz,SetTable.orStandIn,fits_of (t := { t with place := SetTable.insertAt t.place (SetTable.below t.place j) j }) (n := es.size + 1) hz' T.dum T.le]
  rfl
theorem relay_ok {es:Array (Int × Value)} {t:SetTable} (hd:t.plain = true) (hl:t.led = led) (keys:∀ e ∈ es.toList,0 ≤ e.1 ∧ e.1 < 60 ∧ ∃ t:Tok,e.2 = .int e.1 t)
    {wanted M:Nat} (hs:SetTable.sizeAbove wanted - 1 = M) (hM:Masks M) (hn:es.size * 5 < M * 3) :
    ∃ es' t',relayAll t es wanted = (es',t',false) ∧ Tab led es' t' ∧ List.Perm es'.toList es.toList := by
  have hp := relayAll_perm t es wanted
  have hle:es.size ≤ M := by (first | lia | omega)
  obtain ⟨pl,od,e1,e2,e3,e4⟩ := laid_ok hM (hs := es.map (·.1)) (fun h hh=>by
    rw [Array.toList_map] at hh
    obtain ⟨e,he,rfl⟩ := List.mem_map.mp hh
    exact ⟨(keys e he).1,Int.lt_trans (keys e he).2.1 (by decide)⟩) (by rw [Array.size_map]; exact hle) t.finger (t.movedTo M) t.led t.plain
  rw [Array.size_map] at e3 e4
  have hsz:(od.filterMap (es[·]?)).size = es.size := by
    rw [← Array.length_toList,Array.toList_filterMap,(e4.filterMap _).length_eq,filterMap_getElem?_range,Array.length_toList]
  have er:relayAll t es wanted = (od.filterMap (es[·]?),({ mask := M,place := pl,dummies := #[],finger := t.finger,led := t.led,moves := t.movedTo M,plain := t.plain }:SetTable),false) := by
    unfold relayAll SetTable.relaid
    rw [hs,e1]
    dsimp only
    rw [show coversAll od es.size = true from List.isPerm_iff.mpr e4,hsz,fits_of e3 rfl hle]
    rfl
  rw [er] at hp
  exact ⟨_,_,er,⟨e2,rfl,hd,hl,by rw [hsz]; exact e3,hM,by rw [hsz]; exact hn,fun e he=>keys e (hp.mem_iff.mp he)⟩,hp⟩
theorem up_set {h:Heap} {a:Addr} {es es':Array (Int × Value)} {ep:Nat} {t t':SetTable} (ho:h.get? a = some { cls := .type "set",dict := none,data := .set es ep t }) :
    (h.update a (Obj.putSet es' t')).get? a = some { cls := .type "set",dict := none,data := .set es' (ep + 1) t' } :=
  Heap.get?_update_self (Obj.putSet es' t') ho rfl
theorem add_scan {a:Addr} {x:Value} {h:Int} {es:Array (Int × Value)} {ep:Nat} {t:SetTable} {Q:Bool → Shared → Prop} (ho:s.heap.get? a = some { cls := .type "set",dict := none,data := .set es ep t }) (hf:t.fits es.size = true) (hb:byScan x es = true)
    (q:wpAny (model prog w) A (setAddByScan a x h es t) (fun r s'=>∃ b,r = some b ∧ Q b s') E s):wpAny (model prog w) A (setAddHashed a x h) Q E s := by
  unfold setAddHashed setAddHashedIn
  refine wpAny_holding (wpAny_bind (wpAny_setState_of ho rfl hf ?_))
  dsimp only
  rw [if_pos hb]
  refine wpAny_bind (wpAny_mono q (fun r s' hr=>?_) fun _ _ e=>e)
  obtain ⟨b,rfl,hq⟩ := hr
  exact wpAny_pure hq
theorem add_found {a:Addr} {x:Value} {h:Int} {es:Array (Int × Value)} {t:SetTable} {i:Nat} {Q:Option Bool → Shared → Prop} (hs:∀ Q':ScanMet → Shared → Prop,Q' (.found i) s → wpAny (model prog w) A (setScan a x h true es) Q' E s)
    (q:Q (some false) s):wpAny (model prog w) A (setAddByScan a x h es t) Q E s := by
  unfold setAddByScan
  exact wpAny_bind (wpAny_rule (wpAny_bind (hs _ (wpAny_pure q))))
theorem add_new {a:Addr} {x:Value} {h:Int} {es es1:Array (Int × Value)} {ep:Nat} {t t1:SetTable} {Q:Option Bool → Shared → Prop} (ho:s.heap.get? a = some { cls := .type "set",dict := none,data := .set es ep t })
    (hs:∀ Q':ScanMet → Shared → Prop,Q' .absent s → wpAny (model prog w) A (setScan a x h true es) Q' E s)
    (el:layNew t es h x = (es1,t1,false,false)) (hp:t1.plain = true) (hv:hashByValue 8 x = pure true) (b1:es1.size < scanBound)
    (q1:t1.tooFull = false → Q (some true) { s with heap := s.heap.update a (Obj.putSet es1 t1) })
    (q2:t1.tooFull = true → ∃ es2 t2,relayAll t1 es1 (SetTable.grown es1.size) = (es2,t2,false) ∧ es2.size < scanBound ∧ Q (some true) { s with heap := (s.heap.update a (Obj.putSet es1 t1)).update a (Obj.putSet es2 t2) }) :
    wpAny (model prog w) A (setAddByScan a x h es t) Q E s := by
  unfold setAddByScan
  refine wpAny_bind (wpAny_rule (wpAny_bind (hs _ ?_)))
  dsimp only
  rw [el]
  dsimp only
  refine wpAny_bind (wpAny_pure ?_)
  rw [hp,if_pos rfl,hv]
  refine wpAny_bind (wpAny_pure ?_)
  rw [if_pos rfl]
  refine wpAny_bind (wpAny_storeSet_of ho rfl ?_ (fits_of_scanBound b1))
  show wpAny _ _ (if t1.tooFull = true then _ else _) _ _ _
  cases hf:t1.tooFull with
  | false=>exact wpAny_pure (q1 hf)
  | true =>
    refine by_c fun no=>?_
    obtain ⟨es2,t2,e2,b2,hq⟩ := q2 hf
    refine no ?_;clear no
    rw [if_pos rfl,e2]
    exact wpAny_bind (wpAny_pure (wpAny_bind (wpAny_storeSet_of (up_set ho) rfl (wpAny_pure hq) (fits_of_scanBound b2))))
theorem add_tab {a:Addr} {k:Int} {tk:Tok} {m:List Int} {Q:Bool → Shared → Prop} (h0:0 ≤ k) (h1:k < 60) (hS:SetT led s.heap a m)
    (h:∀ b h',Heap.SameBut a s.heap h' → SetT led h' a (stepD m k) → Q b { s with heap := h' }) :
    wpAny (model prog w) A (setAddHashed a (.int k tk) (hashInt k)) Q E s := by
  refine by_c fun no=>?_
  obtain ⟨es,ep,t,ho,T,hp,hnd⟩ := hS
  refine no ?_;clear no
  have hel := T.elems (prog := prog) (w := w)
  have h2:k < 64 := Int.lt_trans h1 (by decide)
  have hsc:∀ Q':ScanMet → Shared → Prop,Q' (match es.toList.findIdx? (fun e=>(intKind prog w).is k e.2) with | some j=>.found (0 + j) | none=>.absent) s → wpAny (model prog w) A (setScan a (.int k tk) (hashInt k) true es) Q' E s :=
    fun Q' q=>wpAny_setScan_of (knd := intKind prog w) (intKind_is _ _ _ _) ho rfl T.fits hel q
  refine add_scan ho T.fits (byScan_of (knd := intKind prog w) rfl T.lt hel) ?_
  cases hr:List.findIdx? (fun e:Int × Value=>(intKind prog w).is k e.2) es.toList with
  | some j =>
    rw [hr] at hsc
    refine by_c fun no=>?_
    obtain ⟨hj,hpj,_⟩ := List.findIdx?_eq_some_iff_getElem.mp hr
    refine no ?_;clear no
    refine by_c fun no=>?_
    obtain ⟨_,_,tj,e2⟩ := T.keys _ (List.getElem_mem hj)
    refine no ?_;clear no
    have hk:k ∈ m := hp.mem_iff.mp (List.mem_map.mpr ⟨_,List.getElem_mem hj,by
      rw [e2] at hpj
      exact ((intKind prog w).inj _ _ _ (intKind_is prog w _ _) hpj)⟩)
    have es:stepD m k = m := if_pos (show m.any (· == k) = true from List.any_eq_true.mpr ⟨k,hk,beq_self_eq_true k⟩)
    rw [es] at h
    exact add_found hsc ⟨false,rfl,h false s.heap (Heap.SameBut.refl a s.heap) ⟨_,ep,t,ho,T,hp,hnd⟩⟩
  | none =>
    rw [hr] at hsc
    have hk:¬ m.any (· == k) = true := fun q=>by
      refine by_c fun no=>?_
      obtain ⟨x,hx,ex⟩ := List.any_eq_true.mp q
      refine no ?_;clear no
      rw [beq_iff_eq.mp ex] at hx
      refine by_c fun no=>?_
      obtain ⟨u,hu,eu⟩ := List.mem_map.mp (hp.mem_iff.mpr hx)
      refine no ?_;clear no
      refine by_c fun no=>?_
      obtain ⟨_,_,tj,e2⟩ := T.keys u hu
      refine no ?_;clear no
      have := List.findIdx?_eq_none_iff.mp hr u hu
      rw [e2,eu,intKind_is] at this
      cases this
    have est:stepD m k = m ++ [k] := if_neg hk
    refine by_c fun no=>?_
    obtain ⟨es1,t1,el,z1,p1,r1,d1,l1,l2,m1,s1⟩ := put_ok T h0 h2 (.int k tk)
    refine no ?_;clear no
    have k1:∀ e ∈ es1.toList,0 ≤ e.1 ∧ e.1 < 60 ∧ ∃ t:Tok,e.2 = .int e.1 t := fun e he=>by
      rcases List.mem_append.mp (p1.mem_iff.mp he) with q | q
      · exact T.keys e q
      · rw [List.mem_singleton.mp q]; exact ⟨h0,h1,tk,rfl⟩
    have hp1:List.Perm (es1.toList.map (·.1)) (m ++ [k]) := (p1.map _).trans (by rw [List.map_append]; exact hp.append_right _)
    have hnd1:(m ++ [k]).Nodup := List.nodup_append.mpr ⟨hnd,by simp,fun x hx y hy e=>hk (List.any_eq_true.mpr ⟨x,hx,by rw [e,List.mem_singleton.mp hy]; exact beq_self_eq_true k⟩)⟩
    rw [est] at h
    rw [hash_small h0 h2] at hsc ⊢
    have sb1 := Heap.SameBut.update s.heap a (Obj.putSet es1 t1)
    have tf:t1.tooFull = decide (t.mask * 3 ≤ (es.size + 1) * 5) := by
      unfold SetTable.tooFull SetTable.fill
      rw [d1,s1,z1,m1]
      rfl
    refine add_new ho hsc el l1 rfl (lt_scan (by rw [z1]; exact Nat.lt_of_le_of_lt T.le (masks_lt T.mask))) (fun hfull=>?_) fun hfull=>?_
    · rw [tf] at hfull
      exact ⟨true,rfl,h true _ sb1 ⟨_,_,_,up_set ho,⟨r1,d1,l1,l2,s1,by rw [m1]; exact T.mask,by rw [m1,z1]; exact Nat.lt_of_not_le (of_decide_eq_false hfull),k1⟩,hp1,hnd1⟩⟩
    · rw [tf] at hfull
      replace hfull := of_decide_eq_true hfull
      have hrm:∃ M,SetTable.sizeAbove (SetTable.grown es1.size) - 1 = M ∧ Masks M ∧ es1.size * 5 < M * 3 := by
        have hr := T.room
        rw [z1]
        rcases T.mask with g | g | g <;> rw [g] at hr hfull
        · rw [show es.size = 4 by (first | lia | omega)]
          exact ⟨31,by decide,.inr (.inl rfl),by decide⟩
        · rw [show es.size = 18 by (first | lia | omega)]
          exact ⟨127,by decide,.inr (.inr rfl),by decide⟩
        · have := T.small hp hnd
          rw [← hp.length_eq,List.length_map,Array.length_toList] at this
          (first | lia | omega)
      refine by_c fun no=>?_
      obtain ⟨M,q1,q2,q3⟩ := hrm
      refine no ?_;clear no
      refine by_c fun no=>?_
      obtain ⟨es2,t2,e2,T2,p2⟩ := relay_ok (led := led) (t := t1) l1 l2 k1 q1 q2 q3
      refine no ?_;clear no
      exact ⟨es2,t2,e2,T2.lt,true,rfl,h true _ (sb1.trans (Heap.SameBut.update _ a _)) ⟨_,_,_,up_set (up_set ho),T2,(p2.map _).trans hp1,hnd1⟩⟩
theorem SetT.keep {h h':Heap} {a:Addr} {m:List Int} (q:SetT led h a m) (hk:∀ o,h.get? a = some o → h'.get? a = some o):SetT led h' a m :=
  let ⟨es,ep,t,ho,r⟩ := q
  ⟨es,ep,t,hk _ ho,r⟩
end
end Mine
set_option Elab.async false
set_option maxRecDepth 100000
namespace Mine
open PySem
theorem slot_si_next:Slot "set_iterator" "__next__" "set_iterator.__next__" :=
  .of (owner := "set_iterator") (n := "__next__") (by rw [typeLookup_type,builtinLookup_eq_fast]; kernel_rfl) (by decide +kernel) (by decide +kernel) (by decide +kernel)
    (by first | exact .inl (by decide +kernel) | exact .inr (by decide +kernel)) (by rw [isSubtype_type]; kernel_rfl)
theorem slot_si_iter:Slot "set_iterator" "__iter__" "set_iterator.__iter__" :=
  .of (owner := "set_iterator") (n := "__iter__") (by rw [typeLookup_type,builtinLookup_eq_fast]; kernel_rfl) (by decide +kernel) (by decide +kernel) (by decide +kernel)
    (by first | exact .inl (by decide +kernel) | exact .inr (by decide +kernel)) (by rw [isSubtype_type]; kernel_rfl)
theorem entry_si_next:entryFor table "set_iterator.__next__" = some Builtin.«set_iterator.__next__» := entryFor_of_tree (by kernel_rfl)
theorem entry_si_iter:entryFor table "set_iterator.__iter__" = some Builtin.«dict_keyiterator.__iter__» :=
  entryFor_alias (id' := "dict_keyiterator.__iter__") (by kernel_rfl) rfl (by decide +kernel) (by kernel_rfl)
theorem entry_st_iter:entryFor table "set.__iter__" = some Builtin.«frozenset.__iter__» :=
  entryFor_alias (id' := "frozenset.__iter__") (by kernel_rfl) rfl (by decide +kernel) (by kernel_rfl)
theorem owner_si:Manifest.owners.lookup (String.ofList ['r','o','t','a','r','e','t','i','_','t','e','s'].reverse) = some Manifest.sig_set_iterator := by kernel_rfl
theorem args_si_next (a:Value):argsOk "set_iterator.__next__" ⟨[a],[]⟩ := by
  unfold argsOk; rw [signature?_of (id := "set_iterator.__next__") (n := ['_','_','t','x','e','n','_','_']) (o := ['r','o','t','a','r','e','t','i','_','t','e','s']) (by kernel_rfl) owner_si]; kernel_rfl
theorem args_si_iter (a:Value):argsOk "set_iterator.__iter__" ⟨[a],[]⟩ := by
  unfold argsOk; rw [signature?_of (id := "set_iterator.__iter__") (n := ['_','_','r','e','t','i','_','_']) (o := ['r','o','t','a','r','e','t','i','_','t','e','s']) (by kernel_rfl) owner_si]; kernel_rfl
noncomputable def siLed (w:World):Bool := !(w.params.followText "set-order")
theorem erase_perm {α:Type}:∀ {l:List α} {k:Nat} {x:α},l[k]? = some x → List.Perm (x :: l.eraseIdx k) l
  | a :: l,0,x,h=>by cases h; exact .rfl
  | a :: l,k + 1,x,h=>(List.Perm.swap a x _).trans ((erase_perm (l := l) (k := k) h).cons a)
theorem pick_go {α:Type} (next:Nat → Nat):∀ (f k:Nat) (left:List α) (out:Array α),left.length = f → List.Perm (pickOrder.go next f k left out).toList (out.toList ++ left)
  | 0,k,left,out,h=>by
    rw [List.length_eq_zero_iff.mp h]
    simp [pickOrder.go]
  | f + 1,k,left,out,h=>by
    have hl:next k % left.length < left.length := Nat.mod_lt _ (by (first | lia | omega))
    have e:left[next k % left.length]? = some left[next k % left.length] := List.getElem?_eq_getElem hl
    unfold pickOrder.go
    rw [e]
    dsimp only
    refine (pick_go next f (k + 1) _ _ (by rw [List.length_eraseIdx_of_lt hl]; (first | lia | omega))).trans ?_
    rw [Array.toList_push,List.append_assoc]
    exact (erase_perm e).append_left _
theorem pick_perm {α:Type} (next:Nat → Nat) (xs:Array α):List.Perm (pickOrder next xs).toList xs.toList := by
  exact pick_go next xs.size 0 xs.toList #[] (by simp)
noncomputable def siWalk (w:World) (a:Addr) (ep:Nat) (es:Array (Int × Value)):Array (Int × Value) := if w.params.followText "set-order" then pickOrder (w.params.setOrder a ep) es else es
noncomputable def siAt (w:World) (t:SetTable) (i:Nat):Nat := if w.params.followText "set-order" then 0 else match i with | 0=>0 | i + 1=>t.place.getD i 0 + 1
theorem walk_perm (w:World) (a:Addr) (ep:Nat) (es:Array (Int × Value)):List.Perm (siWalk w a ep es).toList es.toList := by
  unfold siWalk
  split
  · exact pick_perm _ _
  · exact .rfl
section
variable {prog:Program} {w:World} {A:Around} {E:Value → Shared → Prop} {s:Shared} {a it:Addr} {es:Array (Int × Value)} {ep:Nat} {t:SetTable}
theorem set_next {i:Nat} {Q:Option (Value × Nat) → Shared → Prop} (T:Tab (siLed w) es t) (ho:s.heap.get? a = some { cls := .type "set",dict := none,data := .set es ep t }) (hi:i ≤ es.size)
    (h:Q ((siWalk w a ep es)[i]?.map fun e=>(e.2,siAt w t (i + 1))) s):wpAny (model prog w) A (setNext a (siAt w t i) i ep) Q E s := by
  unfold setNext
  refine wpAny_bind (wpAny_setState_of ho rfl T.fits ?_)
  dsimp only
  refine wpAny_bind ?_
  unfold setsByText
  refine wpAny_bind (wpAny_askSetting (wpAny_pure ?_))
  show wpAny _ _ (if w.params.followText "set-order" = true then _ else _) _ _ _
  cases hq:w.params.followText "set-order" with
  | true =>
    simp only [if_true]
    rw [if_neg (by simp)]
    refine wpAny_bind ?_
    unfold setWalk
    refine wpAny_bind (wpAny_setState_of ho rfl T.fits ?_)
    dsimp only
    refine wpAny_bind ?_
    unfold setsByText
    refine wpAny_bind (wpAny_askSetting (wpAny_pure ?_))
    show wpAny _ _ (if w.params.followText "set-order" = true then _ else _) _ _ _
    rw [hq]
    simp only [if_true]
    refine wpAny_bind (wpAny_askSetting (wpAny_pure (wpAny_pure ?_)))
    unfold siWalk siAt at h
    rw [hq] at h
    unfold siAt
    rw [hq]
    exact h
  | false =>
    unfold siWalk siAt at h
    rw [hq] at h
    simp only [Bool.false_eq_true,if_false] at h ⊢
    refine wpAny_ite_split (fun hab=>absurd hab (by show ¬ (!t.plain && decide (es.size > 1)) = true; rw [T.plain]; exact Bool.false_ne_true)) fun _=>?_
    refine wpAny_bind ?_
    show wpAny _ _ (if (!t.led && !es.isEmpty) = true then _ else _) _ _ _
    rw [if_neg (by rw [T.led]; unfold siLed; rw [hq]; exact Bool.false_ne_true)]
    refine wpAny_pure (wpAny_pure ?_)
    have hb:SetTable.below t.place (siAt w t i) = i := by
      unfold siAt
      rw [hq]
      cases i with
      | zero=>exact below_zero T.ris
      | succ i =>
        have hl:i < t.place.size := by rw [T.size]; (first | lia | omega)
        simp only [Bool.false_eq_true,if_false,Array.getD,hl,dite_true]
        exact below_next T.ris (by simp [hl])
    rw [hb]
    rcases Nat.lt_or_ge i es.size with q | q
    · have hl:i < t.place.size := by rw [T.size]; exact q
      have e1:es[i]? = some es[i] := by simp [q]
      have e2:t.place[i]? = some t.place[i] := by simp [hl]
      rw [e1] at h
      rw [e1,e2]
      simp only [Array.getD,hl,dite_true,Option.map_some] at h
      exact h
    · have e1:es[i]? = none := Array.getElem?_eq_none q
      rw [e1] at h
      rw [e1]
      exact h
noncomputable def IsSI (w:World) (h:Heap) (it a:Addr) (t:SetTable) (i n ep:Nat):Prop :=
  h.get? it = some { cls := .type "set_iterator",data := .fields #[.int (siAt w t i) 0,.int i 0,.ref a,.int n 0,.int ep 0] }
theorem IsSI.typeIs {i n:Nat} (h:IsSI w s.heap it a t i n ep):s.TypeIs (.ref it) "set_iterator" := ⟨_,h,rfl⟩
theorem si_item {i:Nat} {v:Value} {Q:Option Value → Shared → Prop} (T:Tab (siLed w) es t) (hit:IsSI w s.heap it a t i es.size ep) (ho:s.heap.get? a = some { cls := .type "set",dict := none,data := .set es ep t }) (hne:a ≠ it) (hi:i < es.size)
    (hv:(siWalk w a ep es)[i]?.map (·.2) = some v) (hQ:∀ h',IsSI w h' it a t (i + 1) es.size ep → Heap.SameBut it s.heap h' → Q (some v) { s with heap := h' }) :
    wpAny (model prog w) A (pyNext (.ref it)) Q E s := by
  unfold pyNext
  refine wpAny_bind (wpAny_attempt (wpAny_callSpecial?_slot (name := Str.ofString "__next__") hit.typeIs slot_si_next (wpAny_call_entry slot_si_next hit.typeIs entry_si_next ?_ (args_si_next _))))
  unfold Builtin.«set_iterator.__next__»
  refine wpAny_bind (m := slotArgs "__next__" 0 _) (wpAny_pure ?_)
  refine wpAny_bind (wpAny_fieldsOf hit rfl ?_)
  dsimp only
  refine wpAny_bind (wpAny_setEntries_of ho rfl T.fits ?_)
  rw [if_neg (by simp)]
  simp only [Int.toNat_natCast]
  refine wpAny_bind (set_next T ho (Nat.le_of_lt hi) ?_)
  obtain ⟨e,he,rfl⟩ := Option.map_eq_some_iff.mp hv
  rw [he]
  dsimp only [Option.map_some]
  refine wpAny_bind (wpAny_setField hit rfl (by simp) ?_)
  have h1 := Heap.get?_update_self (Obj.mapFields (·.setIfInBounds 0 (rawInt (siAt w t (i + 1))))) hit rfl
  refine wpAny_bind (wpAny_setField h1 rfl (by simp) ?_)
  have h2 := Heap.get?_update_self (Obj.mapFields (·.setIfInBounds 1 (rawInt ((i:Int) + 1)))) h1 rfl
  refine wpAny_pure ⟨_,rfl,wpAny_pure (hQ _ ?_ ((Heap.SameBut.update ..).trans (Heap.SameBut.update ..)))⟩
  unfold IsSI
  rw [h2]
  simp [Obj.mapFields,rawInt]
theorem si_end {Q:Option Value → Shared → Prop} (hh:A.handled = none) (T:Tab (siLed w) es t) (hit:IsSI w s.heap it a t es.size es.size ep) (ho:s.heap.get? a = some { cls := .type "set",dict := none,data := .set es ep t })
    (hQ:∀ h',Heap.ExtBut it s.heap h' → Q none { s with heap := h' }):wpAny (model prog w) A (pyNext (.ref it)) Q E s := by
  unfold pyNext
  refine wpAny_bind (wpAny_attempt (wpAny_callSpecial?_slot (name := Str.ofString "__next__") hit.typeIs slot_si_next (wpAny_call_entry slot_si_next hit.typeIs entry_si_next ?_ (args_si_next _))))
  unfold Builtin.«set_iterator.__next__»
  refine wpAny_bind (m := slotArgs "__next__" 0 _) (wpAny_pure ?_)
  refine wpAny_bind (wpAny_fieldsOf hit rfl ?_)
  dsimp only
  refine wpAny_bind (wpAny_setEntries_of ho rfl T.fits ?_)
  rw [if_neg (by simp)]
  simp only [Int.toNat_natCast]
  refine wpAny_bind (set_next T ho (Nat.le_refl _) ?_)
  have hsz:(siWalk w a ep es).size = es.size := by rw [← Array.length_toList,(walk_perm w a ep es).length_eq,Array.length_toList]
  rw [Array.getElem?_eq_none (by rw [hsz]; exact Nat.le_refl _)]
  dsimp only [Option.map_none]
  refine wpAny_bind (wpAny_setField hit rfl (by simp) ?_)
  show wpAny _ _ (newExc (.type "StopIteration") [] >>= _) _ _ _
  refine wpAny_bind ?_
  simp only [newExc,newTuple]
  refine wpAny_bind (wpAny_newObj_type ?_ (by size_fits))
  refine wpAny_bind (m := firstArgMember _ _) (wpAny_of_eq (a := Value.none) (by first | rfl | (simp only [firstArgMember]; rfl)) ?_)
  refine wpAny_newObj_type ?_ (by size_fits)
  simp only [raiseNew]
  refine wpAny_bind (wpAny_handled ?_)
  rw [show A.in1.handled = none from hh]
  refine wpAny_bind (wpAny_pure (wpAny_throw ?_))
  refine wpAny_bind (wpAny_isInstance (T := "StopIteration") (b := true) ⟨_,Heap.get?_push_size _ rfl,rfl⟩ isSubtype_stop ?_)
  exact wpAny_pure (hQ _ (((Heap.SameBut.update ..).extBut.push _).push _))
theorem si_walks (hh:A.handled = none) (T:Tab (siLed w) es t) (I:Addr) (hne:a ≠ I) :
    Walks prog w A I [I,a] [I] es.size (fun i v=>(siWalk w a ep es)[i]?.map (·.2) = some v) (fun i h=>IsSI w h I a t i es.size ep ∧ h.get? a = some { cls := .type "set",dict := none,data := .set es ep t }) where
  sub := fun b hb=>by simp at hb; simp [hb]
  frame := fun _ _ _ st hk=>⟨hk I (by simp) _ st.1,hk a (by simp) _ st.2⟩
  item := fun i s Q E hi st hQ=>by
    have hsz:(siWalk w a ep es).size = es.size := by rw [← Array.length_toList,(walk_perm w a ep es).length_eq,Array.length_toList]
    have e:(siWalk w a ep es)[i]? = some (siWalk w a ep es)[i] := by simp [hsz,hi]
    refine si_item T st.1 st.2 hne hi (by rw [e]; rfl) fun h' hit' hs'=>?_
    exact hQ _ h' s.toks (by rw [e]; rfl) ⟨hit',hs'.extBut a _ hne st.2⟩ fun b o hb e=>hs'.extBut b o (fun h=>hb (by simp [h])) e
  done := fun s Q E st hQ=>si_end hh T st.1 st.2 fun h' he'=>hQ h' s.toks fun b o hb e=>he' b o (fun h=>hb (by simp [h])) e
  self := fun i s Q E st hQ=>by
    refine wpAny_pyIter_slot st.1.typeIs slot_si_iter (wpAny_call_entry slot_si_iter st.1.typeIs entry_si_iter ?_ (args_si_iter _))
    show wpAny _ _ (ret (.ref I)) _ _ s
    exact wpAny_pure ⟨_,rfl,"set_iterator",_,st.1.typeIs,slot_si_next.lookup,hQ⟩
theorem st_iter {Q:Value → Shared → Prop} (T:Tab (siLed w) es t) (ho:s.heap.get? a = some { cls := .type "set",dict := none,data := .set es ep t })
    (hQ:Q (.ref s.heap.objs.size) { s with heap := s.heap.push { cls := .type "set_iterator",data := .fields #[.int (siAt w t 0) 0,.int 0 0,.ref a,.int es.size 0,.int ep 0] } }) :
    wpAny (model prog w) A (pyIter (.ref a)) Q E s := by
  have hT:s.TypeIs (.ref a) "set" := ⟨_,ho,rfl⟩
  refine wpAny_pyIter_slot hT F.slot_set_iter (wpAny_call_entry F.slot_set_iter hT entry_st_iter ?_ (F.args_set_iter_1 _))
  unfold Builtin.«frozenset.__iter__» Builtin.Frozenset.slot0
  refine wpAny_bind (wpAny_bind (m := slotArgs "__iter__" 0 _) (wpAny_pure ?_))
  show wpAny _ _ (pure a) _ _ s
  refine wpAny_pure ?_
  refine wpAny_bind ?_
  unfold Builtin.Frozenset.sizeOf
  refine wpAny_bind (wpAny_setEntries_of ho rfl T.fits (wpAny_pure ?_))
  refine wpAny_bind ?_
  unfold setDrawn
  refine wpAny_bind (wpAny_setState_of ho rfl T.fits ?_)
  dsimp only
  refine wpAny_bind ?_
  unfold setsByText
  refine wpAny_bind (wpAny_askSetting (wpAny_pure (wpAny_pure ?_)))
  refine wpAny_ite_split (fun hab=>absurd hab ?_) fun _=>?_
  · show ¬ (!_ && (!t.plain && decide (es.size > 1))) = true
    rw [T.plain]
    simp
  refine wpAny_bind (wpAny_pure ?_)
  refine wpAny_bind (wpAny_setEpoch_of ho rfl T.fits ?_)
  refine wpAny_bind ?_
  unfold newFields
  refine wpAny_newObj_type (wpAny_pure ⟨_,rfl,"set_iterator",_,⟨_,Heap.get?_push_size _ rfl,rfl⟩,slot_si_next.lookup,?_⟩)
  have e0:siAt w t 0 = 0 := by unfold siAt; split <;> rfl
  rw [e0] at hQ
  exact hQ
end
end Mine
set_option Elab.async false
set_option maxRecDepth 100000
namespace Mine
open PySem PySem.Spec PyProof.Rows
theorem dedup_snoc (l:List Int) (k:Int):dedupI (l ++ [k]) = stepD (dedupI l) k := by
  unfold dedupI stepD
  rw [List.foldl_append]
  rfl
section
variable {prog:Program} {w:World} {A:Around} {E:Value → Shared → Prop} {s:Shared}
theorem set_loop {R:Result → Shared → Prop} {I:Addr} {fp wr:List Addr} {G:Array GenState → Array GenState → Prop} {n:Nat} {P:Nat → Value → Prop} {St:Nat → Shared → Prop} {led:Bool}
    (W:WalksS prog w A.in1 I fp wr G n P St) (S:Addr) (hSf:S ∉ fp) (val:Nat → Int) (hval:∀ i v,P i v → ∃ t,v = .int (val i) t) (hin:∀ i,i < n → 0 ≤ val i ∧ val i < 60) :
    ∀ (k i:Nat) (s:Shared),n - i = k → i ≤ n → St i s → SetT led s.heap S (dedupI ((List.range i).map val)) →
      (∀ s',Moved (S :: wr) G s s' → SetT led s'.heap S (dedupI ((List.range n).map val)) → R (.ok (.ret .none)) s') →
      codeAny (model prog w) A (.builtin "set.update.loop" ⟨[.ref S,.ref I],[]⟩) R s := by
  have hSw:S ∉ wr := fun h=>hSf (W.sub _ h)
  have hsub:∀ b ∈ wr,b ∈ S :: wr := fun b hb=>List.mem_cons_of_mem _ hb
  intro k
  induction k with
  | zero =>
    intro i s hk hi hst hS hR
    have hin:i = n := by (first | lia | omega)
    subst hin
    refine codeAny_builtin F.entry_set_update_loop ?_
    rw [Around.under_plainId F.plain_set_update_loop _]
    show wpAny _ A.in1 (pyNext (.ref I) >>= _) _ _ s
    refine wpAny_bind (W.done s _ _ hst fun s' hm=>?_)
    show wpAny _ A.in1 (ret Value.none) _ _ s'
    exact wpAny_pure (hR s' (hm.mono hsub) (hS.keep fun o e=>hm.heap S o hSw e))
  | succ k ih =>
    intro i s hk hi hst hS hR
    have hlt:i < n := by (first | lia | omega)
    refine codeAny_builtin F.entry_set_update_loop ?_
    rw [Around.under_plainId F.plain_set_update_loop _]
    show wpAny _ A.in1 (pyNext (.ref I) >>= _) _ _ s
    refine wpAny_bind (W.item i s _ _ hlt hst fun v s' hP hst' hm=>?_)
    obtain ⟨t,rfl⟩ := hval i v hP
    have hS' := hS.keep fun o e=>hm.heap S o hSw e
    show wpAny _ A.in1 (holding [Value.int (val i) t] (setAdd S (.int (val i) t)) >>= _) _ _ s'
    refine wpAny_bind (wpAny_holding ?_)
    unfold setAdd
    refine wpAny_holding (wpAny_bind ((intKind prog w).pyHash (k := val i) (intKind_is _ _ _ _) ?_))
    refine add_tab (s := { s' with toks := s'.toks + 1 }) (hin i hlt).1 (hin i hlt).2 hS' fun b h' hsb hS2=>?_
    rw [← dedup_snoc] at hS2
    have hSi:SetT led h' S (dedupI ((List.range (i + 1)).map val)) := by
      rw [List.range_succ,List.map_append]
      exact hS2
    refine wpAny_pure ⟨plainId_quiet F.plain_set_update_loop _,ih (i + 1) _ (by (first | lia | omega)) hlt (W.frame _ s' _ _ hst' (Nat.le_succ _) fun b hb o e=>?_) hSi fun s'' hm'' hS''=>?_⟩
    · rw [hsb.2 b (fun h:b = S=>hSf (by rw [← h]; exact hb))]; exact e
    · refine hR s'' (Moved.trans W.gtrans ((hm.mono hsub).then_heap (Nat.le_succ _) fun b o hb e=>?_) hm'') hS''
      rw [hsb.2 b (fun h:b = S=>hb (by rw [h]; exact List.mem_cons_self))]; exact e
theorem set_new (a:Value) {Q₁:Value → Shared → Prop}
    (h:Q₁ (.ref s.heap.objs.size) { s with heap := s.heap.push { cls := .type "set",dict := none,data := .set #[] 0 (.fresh 0 0 (siLed w)) } }) :
    codeAny (model prog w) A (.call (.builtin "set.__new__") ⟨[.type "set",a],[]⟩) (wants Q₁ E) s := by
  refine codeAny_of_tree ?_
  show wpAny _ A.in1 (do checkBuiltinCall "set.__new__" ⟨[.type "set",a],[]⟩; again (.builtin "set.__new__" ⟨[.type "set",a],[]⟩)) _ _ s
  refine wpAny_bind (wpAny_of_eq (PySem.F.newCall_set_1 a) (wpAny_pure ⟨plainId_quiet PySem.F.plain_set_new _,codeAny_builtin PySem.F.entry_set_new ?_⟩))
  rw [Around.under_plainId PySem.F.plain_set_new _]
  unfold Builtin.«set.__new__» Builtin.Frozenset.newClass
  have hsub := sub_set_self
  obtain ⟨hp,g,d,tk,os⟩ := s
  dsimp only
  wp_walk
  refine wpAny_askSetting (wpAny_pure ?_)
  dsimp only
  simp only [newObj]
  refine wpAny_bind (wpAny_alloc (wpAny_pure ?_))
  exact wpAny_pure h
theorem upd_from {id:String} {S l:Addr} {items:Array Value} {Q:Unit → Shared → Prop} (hl:s.heap.IsList l items)
    (h:wpAny (model prog w) A (runValue (.builtin "set.update.loop" ⟨[.ref S,.ref s.heap.objs.size],[]⟩)) (fun _ s'=>Q () s') E { s with heap := s.heap.push { cls := .type "list_iterator",data := .fields #[.ref l,.int 0 0] } }) :
    wpAny (model prog w) A (Builtin.Frozenset.updateFrom id S (.ref l)) Q E s := by
  have hT:s.TypeIs (.ref l) "list" := by
    obtain ⟨o,ho,hc,_⟩ := hl
    exact ⟨o,ho,hc⟩
  unfold Builtin.Frozenset.updateFrom
  refine wpAny_bind ?_
  unfold Builtin.Frozenset.isAnySet
  refine wpAny_bind (wpAny_isInstance hT PySem.F.sub_list_set ?_)
  refine wpAny_isInstance hT PySem.F.sub_list_frozenset ?_
  refine wpAny_bind (wpAny_typeOf hT ?_)
  refine wpAny_bind (wpAny_pyIter_list hl ?_)
  exact wpAny_bind (wpAny_mono h (fun _ _ q=>wpAny_pure q) fun _ _ e=>e)
theorem set_call {l:Addr} {ob:Obj} {P0:Shared → Prop} {Q:Value → Shared → Prop}
    (hnew:codeAny (model prog w) A.in1 (.call (.builtin "set.__new__") ⟨[.type "set",.ref l],[]⟩) (wants (fun obj s₁=>obj = .ref s.heap.objs.size ∧ s₁ = { s with heap := s.heap.push ob }) E) s)
    (hT:Shared.TypeIs { s with heap := s.heap.push ob } (.ref s.heap.objs.size) "set")
    (hbody:wpAny (model prog w) A.in1.in1 (Builtin.«set.__init__» ⟨[.ref s.heap.objs.size,.ref l],[]⟩)
      (fun fin s'=>match fin with | .done f=>wants (fun r s₂=>r = .none ∧ P0 s₂) E (.ok f) s' | .again c'=>c'.quiet = true ∧ codeAny (model prog w) A.in1 c' (wants (fun r s₂=>r = .none ∧ P0 s₂) E) s')
      (fun e s'=>wants (fun r s₂=>r = .none ∧ P0 s₂) E (.error e) s') { s with heap := s.heap.push ob })
    (h:∀ s₂,P0 s₂ → Q (.ref s.heap.objs.size) s₂):wpAny (model prog w) A (call (.type "set") [.ref l]) Q E s := by
  obtain ⟨c,tl,hmro⟩ := PySem.F.called_set.mro
  have hmade := PySem.F.called_set.made
  have hsub := PySem.F.called_set.sub
  refine wpAny_call (codeAny_of_tree ?_)
  show wpAny _ _ (callAny (.type "set") _) _ _ _
  refine wpAny_pure ⟨Code.quiet_builtin _ (by decide +kernel),codeAny_builtin PySem.F.entry_type_call ?_⟩
  rw [Around.under_plain (weight_type_call_type "set" [.ref l] []) rfl]
  have h1 := PySem.F.called_set.notType
  have h2 := PySem.F.called_set.canCreate
  have hct := PySem.F.typeCall_set_1 (.ref l)
  repeat (any_goals (first | assumption | wp_step))
  refine codeAny_mono hnew fun r s₁ hr=>?_
  cases r with
  | error e=>exact hr
  | ok fl =>
    cases fl with
    | ret obj =>
      obtain ⟨rfl,rfl⟩ := hr
      have hli := PySem.F.called_set.init.lookup
      have hbi := PySem.F.called_set.init.bind (.ref s.heap.objs.size)
      repeat (any_goals (first | assumption | wp_step))
      refine codeAny_mono (codeAny_call_builtin (R := wants (fun r s₂=>r = .none ∧ P0 s₂) E) PySem.F.called_set.init.plain PySem.F.entry_set_init (check_set_init_1 hT hbody)) fun r₂ s₂ hr₂=>?_
      cases r₂ with
      | error e=>exact hr₂
      | ok fl₂ =>
        cases fl₂ with
        | ret r =>
          obtain ⟨rfl,hp⟩ := hr₂
          repeat (any_goals (first | assumption | wp_step))
          exact h _ hp
        | _=>exact hr₂.elim
    | _=>exact hr.elim
theorem set_init {S l:Addr} {ob:Obj} {items:Array Value} {R:Result → Shared → Prop} (hob:ob = { cls := .type "set",dict := none,data := .set #[] 0 (.fresh 0 0 (siLed w)) }) (hS:s.heap.get? S = some ob) (hl:s.heap.IsList l items)
    (h:codeAny (model prog w) A.in1 (.builtin "set.update.loop" ⟨[.ref S,.ref s.heap.objs.size],[]⟩) (fun r s'=>match r with | .ok (.ret _)=>R (.ok (.ret .none)) s' | .ok f=>False | .error e=>R (.error e) s') { s with heap := s.heap.push { cls := .type "list_iterator",data := .fields #[.ref l,.int 0 0] } }) :
    wpAny (model prog w) A.in1 (Builtin.«set.__init__» ⟨[.ref S,.ref l],[]⟩) (fun fin s'=>match fin with | .done f=>R (.ok f) s' | .again c'=>c'.quiet = true ∧ codeAny (model prog w) A c' R s') (fun e s'=>R (.error e) s') s := by
  subst hob
  have hT:s.TypeIs (.ref S) "set" := ⟨_,hS,rfl⟩
  obtain ⟨hp,g,d,tk,os⟩ := s
  unfold Builtin.«set.__init__» noKeywords
  generalize hUF:Builtin.Frozenset.updateFrom = UF
  wp_walk
  subst hUF
  refine upd_from hl ?_
  refine wpAny_runValue (codeAny_mono h fun r s' hr=>?_)
  cases r with
  | error e=>exact hr
  | ok f =>
    cases f with
    | ret v=>exact wpAny_pure hr
    | _=>exact hr.elim
theorem set_list {l:Addr} {items:Array Value} {ns:List Int} {Q:Value → Shared → Prop}
    (hh:A.handled = none) (hl:s.heap.IsList l items) (hi:IntsAre items.toList ns) (hin:∀ k ∈ ns,0 ≤ k ∧ k < 60)
    (h:∀ (h':Heap) (tk:Nat),SetT (siLed w) h' s.heap.objs.size (dedupI ns) → (∀ b o,b < s.heap.objs.size → s.heap.get? b = some o → h'.get? b = some o) → Q (.ref s.heap.objs.size) { s with heap := h',toks := tk }) :
    wpAny (model prog w) A (call (.type "set") [.ref l]) Q E s := by
  have hlen:items.size = ns.length := by rw [← Array.length_toList]; exact IntsAre.length hi
  have hrng:(List.range items.size).map (fun i=>ns.getD i 0) = ns := by
    rw [hlen]
    apply List.ext_getElem
    · simp
    · intro i h1 h2
      simp at h1 h2
      simp [h2]
  generalize hob:({ cls := .type "set",dict := none,data := .set #[] 0 (.fresh 0 0 (siLed w)) }:Obj) = ob
  have hS:(s.heap.push ob).get? s.heap.objs.size = some ob := Heap.get?_push_size _ (by subst hob; rfl)
  have hT:Shared.TypeIs { s with heap := s.heap.push ob } (.ref s.heap.objs.size) "set" := ⟨_,hS,by subst hob; rfl⟩
  have hl1:(s.heap.push ob).IsList l items := hl.push _
  have hlS:l < s.heap.objs.size := by obtain ⟨o,ho,_⟩ := hl; exact Heap.lt_size ho
  refine set_call (P0 := fun s₂=>∃ h' tk,s₂ = { s with heap := h',toks := tk } ∧ SetT (siLed w) h' s.heap.objs.size (dedupI ns) ∧ (∀ b o,b < s.heap.objs.size → s.heap.get? b = some o → h'.get? b = some o))
    (set_new (.ref l) ⟨rfl,by rw [hob]⟩) hT (set_init (s := { s with heap := s.heap.push ob }) hob.symm hS hl1 ?_) fun s₂ hp=>?_
  · have hh3:A.in1.in1.in1.handled = none := by simp [hh]
    have hneI:l ≠ (s.heap.push ob).objs.size := by
      rw [Heap.size_push]; exact Nat.ne_of_lt (Nat.lt_succ_of_lt hlS)
    have hSf:s.heap.objs.size ∉ [(s.heap.push ob).objs.size,l] := by
      rw [Heap.size_push]; simp only [List.mem_cons,List.not_mem_nil,or_false,not_or]
      exact ⟨Nat.ne_of_lt (Nat.lt_succ_self _),Nat.ne_of_gt hlS⟩
    have hval:∀ (i:Nat) (v:Value),items[i]? = some v → ∃ t,v = .int ((fun i=>ns.getD i 0) i) t := fun i v hv =>
      IntsAre.int_at hi i v (by rw [Array.getElem?_toList]; exact hv)
    refine set_loop (led := siLed w) ((Walks.list hh3 _ l hneI items).toS) s.heap.objs.size hSf (fun i=>ns.getD i 0) hval (fun i hi=>hin _ (by
        rw [hlen] at hi
        show ns.getD i 0 ∈ ns
        rw [List.getD_eq_getElem?_getD,List.getElem?_eq_getElem hi]
        exact List.getElem_mem hi)) (items.size - 0) 0 _ (by (first | lia | omega)) (Nat.zero_le _)
      ⟨⟨_,Heap.get?_push_size _ rfl,rfl,rfl⟩,(hl1.push _)⟩ ⟨#[],0,_,by rw [hob]; exact Heap.get?_push_of_some _ hS,⟨List.Pairwise.nil,rfl,rfl,rfl,rfl,.inl rfl,(by show 0 * 5 < 7 * 3; decide),fun e he=>by cases he⟩,.nil,.nil⟩ fun s' hm hS'=>?_
    rw [hrng] at hS'
    obtain ⟨h',g',d',tk',os'⟩ := s'
    have eg:g' = s.gens := hm.gens
    have ed:d' = s.drawn := hm.drawn
    have eo:os' = s.os := hm.os
    subst eg; subst ed; subst eo
    refine ⟨rfl,h',tk',rfl,hS',fun b o hb e=>?_⟩
    have hb1:b ≠ s.heap.objs.size := Nat.ne_of_lt hb
    have hb2:b ≠ (s.heap.push ob).objs.size := by
      rw [Heap.size_push]; exact Nat.ne_of_lt (Nat.lt_succ_of_lt hb)
    exact hm.heap b o (by simp only [List.mem_cons,List.not_mem_nil,or_false,not_or]; exact ⟨hb1,hb2⟩) (Heap.get?_push_of_some _ (Heap.get?_push_of_some _ e))
  · obtain ⟨h',tk,rfl,hS',hk'⟩ := hp
    exact h _ _ hS' hk'
end
end Mine
set_option Elab.async false
set_option maxRecDepth 100000
namespace Mine
open PySem PySem.Spec PySem.W PyProof.Rows
section
variable {prog:Program} {w:World} {A:Around} {E:Value → Shared → Prop} {s:Shared} {a:Addr} {es:Array (Int × Value)} {ep:Nat} {t:SetTable}
theorem st_hint {Q:Bool → Shared → Prop} (hT:s.TypeIs (.ref a) "set") (h:Q false s):wpAny (model prog w) A (Builtin.List.listLengthHint (.ref a)) Q E s := by
  unfold Builtin.List.listLengthHint
  refine wpAny_bind (wpAny_specialOf hT PySem.F.slot_set_len.lookup ?_)
  generalize hid:("set.__len__":String) = id0
  wp_delta
  rw [show splitId id0 = some ("set","__len__") from by subst hid; decide +kernel]
  subst hid
  refine wpAny_bind (wpAny_isInstance (T := "set") (b := true) hT (by rw [isSubtype_type]; kernel_rfl) ?_)
  refine wpAny_ite_split (fun hab=>absurd hab (by decide)) (fun _=>?_)
  refine wpAny_ite_split (fun _=>?_) (fun hab=>absurd (by decide +kernel) hab)
  refine wpAny_bind (wpAny_typeOf hT ?_)
  exact wpAny_pure h
theorem st_src (T:Tab (siLed w) es t):KdlSrc prog w "set" a a es.size (fun i v=>(siWalk w a ep es)[i]?.map (·.2) = some v) (fun h=>h.get? a = some { cls := .type "set",dict := none,data := .set es ep t }) where
  type := fun _ hm=>⟨_,hm,rfl⟩
  there := fun _ hm=>⟨Heap.lt_size hm,Heap.lt_size hm⟩
  keep := fun _ _ hm hk=>hk a (.inl rfl) _ hm
  notList := by decide
  notTuple := by decide
  hint := fun _ _ _ _ hm hq=>st_hint ⟨_,hm,rfl⟩ hq
  iter := fun _ _ hh hm=>⟨_,_,(fun _ _ hq=>st_iter T hm hq),si_walks hh T _ (Nat.ne_of_lt (Heap.lt_size hm)),⟨Heap.get?_push_size _ rfl,Heap.get?_push_of_some _ hm⟩⟩
end
theorem SetT.len {led:Bool} {h:Heap} {a:Addr} {m:List Int} (q:SetT led h a m):m.length ≤ 60 := by
  obtain ⟨es,ep,t,ho,T,hp,hn⟩ := q
  exact T.small hp hn
theorem ints_of {es:List (Int × Value)} (hk:∀ e ∈ es,∃ t:Tok,e.2 = .int e.1 t) {vs:List Value} (hl:vs.length = es.length) (hv:∀ (j:Nat) (v:Value),vs[j]? = some v → es[j]?.map (·.2) = some v):IntsAre vs (es.map (·.1)) := by
  induction es generalizing vs with
  | nil=>rw [List.length_eq_zero_iff.mp hl]; exact .nil
  | cons e es ih =>
    cases vs with
    | nil=>cases hl
    | cons v vs =>
      obtain ⟨t,et⟩ := hk e (.head _)
      have h0:some e.2 = some v := hv 0 v rfl
      rw [et] at h0
      cases h0
      exact .cons _ t (ih (fun x hx=>hk x (.tail _ hx)) (Nat.succ.inj hl) fun j u hu=>hv (j + 1) u hu)
variable {W:Wd} {A:Around} {E:Value → Shared → Prop} {s:Shared}
theorem sorted_set {a:Addr} {m:List Int} {Q:Value → Shared → Prop} (hh:A.handled = none) (hS:SetT (siLed W.w) s.heap a m)
    (h:∀ (D:Addr) (h':Heap) (tk ee:Nat) (vs:List Value),s.heap.get? D = none → (∀ b,s.heap.get? b ≠ none → b < D) → (∀ b o,s.heap.get? b = some o → h'.get? b = some o) → h'.get? D = some { cls := .type "list",data := .seq vs.toArray ee } →
      IntsAre vs (sortI m) → Q (.ref D) { s with heap := h',toks := tk }) :
    wpAny W.M A (call (.builtin "sorted") [.ref a]) Q E s := by
  have hlen := hS.len
  refine by_c fun no=>?_
  obtain ⟨es,ep,t,ho,T,hp,hn⟩ := hS
  refine no ?_;clear no
  have hsz:es.size = m.length := by rw [← hp.length_eq,List.length_map,Array.length_toList]
  have hwp := walk_perm W.w a ep es
  refine sorted_src (st_src (ep := ep) T) hh ho (by have := big_line; simp only [big] at this; (first | lia | omega)) (by (first | lia | omega)) (fun acc hacc=>⟨(siWalk W.w a ep es).toList.map (·.1),ints_of (fun e he=>(T.keys e (hwp.mem_iff.mp he)).2.2) ?_ (fun j v hj=>?_),(hwp.map _).trans hp⟩) h
  · rw [Array.length_toList,hacc.1,hwp.length_eq,Array.length_toList]
  · have := hacc.2 j v (by rw [← Array.getElem?_toList]; exact hj)
    rw [Array.getElem?_toList]
    exact this
end Mine
namespace Mine
open PySem PySem.W PyProof.Rows
variable {W:Wd} {A:Around} {h₀:HB} {env:Env} {c:Cx} {names:List Str} {H:AH} {ρ:Loc} {s:Shared} {E:Value → Shared → Prop} {n:Nat} {Q:Post} {Er:EP}
noncomputable def lmId:LM → String
  | .append=>"list.append" | .clear=>"list.clear" | .count=>"list.count" | .extend=>"list.extend" | .index=>"list.index" | .remove=>"list.remove" | .reverse=>"list.reverse"
  | .setdefault=>"dict.setdefault" | .split=>"str.split" | .join=>"str.join"
theorem intsAre_eraseIdx {vs:List Value} {ns:List Int} (h:IntsAre vs ns):∀ j,IntsAre (vs.eraseIdx j) (ns.eraseIdx j) := by
  induction h with
  | nil=>exact fun _=>.nil
  | cons n t h ih =>
    intro j
    cases j with
    | zero=>exact h
    | succ j=>exact .cons n t (ih j)
theorem erase_idx {k:Int} {ns:List Int} (h:k ∈ ns):ns.erase k = ns.eraseIdx (ns.idxOf k) := by
  induction ns with
  | nil=>cases h
  | cons x r ih =>
    by_cases e:x = k
    · subst e; simp
    · have:(x == k) = false := by simpa using e
      rw [List.erase_cons,List.idxOf_cons,this]
      simp only [Bool.false_eq_true,if_false,cond_false,List.eraseIdx_cons_succ]
      rw [ih ((List.mem_cons.mp h).resolve_left fun q=>e q.symm)]
theorem intAt_hit {k:Int} {l1:List Value} {ns:List Int} (hI:IntsAre l1 ns) (hk:k ∈ ns):∃ h:ns.idxOf k < l1.toArray.size,isInt k l1.toArray[ns.idxOf k] = true ∧ ∀ m (hm:m < l1.toArray.size),m < ns.idxOf k → isInt k l1.toArray[m] = false := by
  have hj := List.idxOf_lt_length_of_mem hk
  have hl:ns.length = l1.length := hI.length.symm
  have hj':ns.idxOf k < l1.length := hl ▸ hj
  refine ⟨by simpa using hj',?_,fun m hm hlt=>?_⟩
  · have := isInt_at k hI _ hj' hj
    simp only [List.getElem_toArray]
    rw [this]
    simp
  · have hm':m < l1.length := by simpa using hm
    have := isInt_at k hI m hm' (hl ▸ hm')
    simp only [List.getElem_toArray]
    rw [this]
    exact ne_of_lt_idxOf hlt _
theorem callIndex {l:Addr} {k:Int} {t:Tok} {l1:List Value} {ns:List Int} {nn:Nat} {Q:Value → Shared → Prop} (h1:s.heap.get? l = some { cls := .type "list",data := .seq l1.toArray nn }) (hI:IntsAre l1 ns) (hk:k ∈ ns)
    (hz:(l1.length:Int) < 2 ^ 63) (h:Q (.int (ns.idxOf k:Nat) s.toks) { s with toks := s.toks + 1 }):wpAny W.M A (call (.builtin "list.index") [.ref l,.int k t]) Q E s := by
  obtain ⟨a1,a2,a3⟩ := intAt_hit hI hk
  refine call_meets F.slot_list_index ⟨_,h1,rfl⟩ F.entry_list_index (F.args_list_index_2 _ _) (SeqAt.list_indexAt l l1.toArray nn none #[] (.int k t) (isInt k) (ns.idxOf k) a1
    (by have:l1.toArray.size = l1.length := by simp
        (first | lia | omega)) a2 a3) ⟨h1,fun y hy=>(eq_isInt k t hI y (by simpa using hy)).at _ _,h⟩
theorem callRemove {l:Addr} {k:Int} {t:Tok} {l1:List Value} {ns:List Int} {nn:Nat} {Q:Value → Shared → Prop} (h1:s.heap.get? l = some { cls := .type "list",data := .seq l1.toArray nn }) (hI:IntsAre l1 ns) (hk:k ∈ ns)
    (hz:l1.length ≤ sizeLine) (h:Q .none { s with heap := s.heap.update l (Obj.mapSeq fun xs=>xs.eraseIdxIfInBounds (ns.idxOf k)) }):wpAny W.M A (call (.builtin "list.remove") [.ref l,.int k t]) Q E s := by
  obtain ⟨a1,a2,a3⟩ := intAt_hit hI hk
  exact call_meets F.slot_list_remove ⟨_,h1,rfl⟩ F.entry_list_remove (F.args_list_remove_2 _ _) (MeetsSeq.list_remove l l1.toArray nn (.int k t) (isInt k) (fun y hy=>eq_isInt k t hI y (by simpa using hy)) (ns.idxOf k) a1 a2 a3
    (by simpa using hz)) ⟨h1,h⟩
theorem sound_lmOp (ok:AOk A c h₀ env Er n) (Y:EnvOk W env c h₀) (R:Rel W h₀ env names H ρ s) {m:LM} {o:V} {vs:List V} {uo:Value} {us:List Value} (ho:VR W o uo) (hv:VRs W vs us) (q:lmOp m o vs H Q) :
    wpAny W.M A (call (.builtin (lmId m)) (uo :: us)) (Res W h₀ env names ρ Q) E s := by
  have b63 := big63
  cases m <;> try exact q.elim
  case append =>
    replace q:appendM o vs H Q := q
    delta appendM at q
    split at q
    · obtain ⟨u,rfl,h⟩ := vrs1 hv
      cases ho
      split at q
      · rename_i xs e
        obtain ⟨l1,nn,h1,r1,z1⟩ := R.lst e
        refine call_meets F.slot_list_append ⟨_,h1,rfl⟩ F.entry_list_append (F.args_list_append_2 _ _) (list_append _ l1.toArray nn u (by simp [← r1.length]; exact Nat.le_trans z1 big_line)) ⟨h1,?_⟩
        exact Res.mk .none (R.changeL e h1 (·.push u) (items' := l1 ++ [u]) (by simp) (r1.append (.cons h .nil)) (by simp; (first | lia | omega)) s.toks) q.2
      · exact q.elim
    · exact q.elim
  case clear =>
    replace q:clearM o vs H Q := q
    delta clearM at q
    split at q
    · cases hv; cases ho
      split at q
      · rename_i xs e
        obtain ⟨l1,nn,h1,r1,z1⟩ := R.lst e
        refine call_meets F.slot_list_clear ⟨_,h1,rfl⟩ F.entry_list_clear (F.args_list_clear_1 _) (AutoSeq1.list_clear_list_0 _ l1.toArray nn (by simp [← r1.length]; exact Nat.le_trans z1 big_line)) ⟨h1,?_⟩
        exact Res.mk .none (R.changeL e h1 (fun _=>#[]) (items' := []) (by simp) .nil (by simp) s.toks) q
      · exact q.elim
    · exact q.elim
  case extend =>
    replace q:extendM o vs H Q := q
    delta extendM at q
    split at q
    · obtain ⟨u,rfl,h⟩ := vrs1 hv
      cases ho; cases h
      split at q
      · rename_i xs ys e1 e2
        obtain ⟨l1,nn,h1,r1,z1⟩ := R.lst e1
        obtain ⟨l2,n2,h2,r2,z2⟩ := R.lst e2
        have hz:l1.length + l2.length ≤ 1048576 := by rw [← r1.length,← r2.length]; exact q.1.2
        refine call_meets F.slot_list_extend ⟨_,h1,rfl⟩ F.entry_list_extend (F.args_list_extend_2 _ _)
          (AutoSeq1.list_extend_list_list_0 _ l1.toArray nn _ l2.toArray n2 (by simp [Builtin.List.listTooLong,sizeLine]; (first | lia | omega)) (by simp [sizeLine]; (first | lia | omega)) (by simp [sizeLine]; (first | lia | omega))) ⟨h1,h2,?_⟩
        exact Res.mk .none (R.changeL e1 h1 (· ++ l2.toArray) (items' := l1 ++ l2) (by simp) (r1.append r2) (by simpa using q.1.2) s.toks) q.2
      · exact q.elim
    · exact q.elim
  case index =>
    replace q:indexM o vs H Q := q
    delta indexM at q
    split at q
    · obtain ⟨u,rfl,h⟩ := vrs1 hv
      cases ho; cases h
      split at q
      · rename_i xs e
        split at q
        · rename_i ns e2
          obtain ⟨l1,nn,h1,r1,z1⟩ := R.lst e
          exact callIndex h1 (ints_are r1 e2) q.1 (by rw [← r1.length]; (first | lia | omega)) (Res.mk (.int _ _) (R.toks _) q.2)
        · exact q.elim
      · exact q.elim
    · exact q.elim
  case remove =>
    replace q:removeM o vs H Q := q
    delta removeM at q
    split at q
    · obtain ⟨u,rfl,h⟩ := vrs1 hv
      cases ho; cases h
      split at q
      · rename_i xs e
        split at q
        · rename_i ns e2
          obtain ⟨l1,nn,h1,r1,z1⟩ := R.lst e
          have hI := ints_are r1 e2
          refine callRemove h1 hI q.1 (by rw [← r1.length]; exact Nat.le_trans z1 big_line) ?_
          refine Res.mk .none (R.changeL e h1 (fun xs=>xs.eraseIdxIfInBounds _) (items' := l1.eraseIdx _) (by simp; rfl) ?_ ?_ s.toks) q.2
          · rw [erase_idx q.1]; exact vrs_ints (intsAre_eraseIdx hI _)
          · rw [List.length_map,List.length_erase_of_mem q.1,ints?_length e2]; (first | lia | omega)
        · exact q.elim
      · exact q.elim
    · exact q.elim
end Mine
namespace Mine
open PySem PySem.W PyProof.Rows
variable {W:Wd} {A:Around} {h₀:HB} {env:Env} {c:Cx} {names:List Str} {H:AH} {ρ:Loc} {s:Shared} {E:Value → Shared → Prop} {n:Nat} {Q:Post} {Er:EP}
theorem others_apart {b₀:Heap} {L:Addr} {h:Heap}:(others b₀ L h).Pairwise fun p q=>p.1 ≠ q.1 := by
  unfold others
  rw [List.pairwise_filterMap]
  refine List.nodup_range.imp ?_
  intro a b hab p hp q hq
  split at hp
  · cases hp
  · split at hq
    · cases hq
    · obtain ⟨o1,_,rfl⟩ := Option.map_eq_some_iff.mp hp
      obtain ⟨o2,_,rfl⟩ := Option.map_eq_some_iff.mp hq
      exact hab
theorem upd_of_mem {d:Addr} {o o':Obj}:∀ {l:List (Addr × Obj)},l.Pairwise (fun p q=>p.1 ≠ q.1) → (d,o) ∈ l → (Ex1 fun l'=>An3 (Upd d o o' l l') ((d,o') ∈ l') (∀ p ∈ l,p.1 ≠ d → p ∈ l'))
  | [],_,h=>nomatch h
  | p :: r,hp,hm=>by
    obtain ⟨h1,h2⟩ := List.pairwise_cons.mp hp
    rcases List.mem_cons.mp hm with rfl | hm
    · exact ⟨_,.head fun q hq=>(h1 q hq).symm,.head _,fun q hq hne=>by
        rcases List.mem_cons.mp hq with rfl | hq
        · exact absurd rfl hne
        · exact .tail _ hq⟩
    · obtain ⟨l',u,m,k⟩ := upd_of_mem h2 hm
      exact ⟨_,.tail (h1 _ hm) u,.tail _ m,fun q hq hne=>by
        rcases List.mem_cons.mp hq with rfl | hq
        · exact .head _
        · exact .tail _ (k q hq hne)⟩
theorem Rel.changeK (R:Rel W h₀ env names H ρ s) (Y:EnvOk W env c h₀) {h':Heap} {a:Addr} {o o':O} {ob:Obj} {m:Str → Option Value} (t:Nat) (he:H a = some o') (hm:s.heap.Ns env.locals m) (hm':h'.Ns env.locals m)
    (k:∀ b o,b ≠ a → b ≠ env.locals → s.heap.get? b = some o → h'.get? b = some o) (ho:h'.get? a = some ob) (r:OR W o ob) (hl:∀ es,o = .dict es → ∃ es',o' = .dict es'):Rel W h₀ env names (upd H a o) ρ { s with heap := h',toks := t } := by
  refine by_c fun no=>?_
  obtain ⟨s1,s2,s3⟩ := R.sep a o' he
  refine no ?_;clear no
  refine ⟨?_,?_,?_,?_,?_,R.gens,R.os,R.above,?_⟩
  · refine by_c fun no=>?_
    obtain ⟨m₁,h1,h2⟩ := R.ns
    refine no ?_;clear no
    refine ⟨m,hm',fun x i v e1 e2 e3=>?_⟩
    refine by_c fun no=>?_
    obtain ⟨c,h3,h4⟩ := h2 x i v e1 e2 e3
    refine no ?_;clear no
    refine ⟨c,?_,h4⟩
    refine by_c fun no=>?_
    obtain ⟨o,es,ep,a1,a2,a3,a4⟩ := h1
    refine no ?_;clear no
    refine by_c fun no=>?_
    obtain ⟨o',es',ep',b1,b2,b3,b4⟩ := hm
    refine no ?_;clear no
    rw [a1] at b1; cases b1
    rw [a2] at b2; cases b2
    rw [← b4,a4]; exact h3
  · intro x c e
    refine by_c fun no=>?_
    obtain ⟨w,⟨oc,hc,hd⟩,r⟩ := R.cell x c e
    refine no ?_;clear no
    exact ⟨w,⟨oc,k _ _ (fun q=>s3 x (q ▸ e)) (Y.apart x c e) hc,hd⟩,r⟩
  · intro b x e
    refine by_c fun no=>?_
    obtain ⟨x',e1,z⟩ := R.keep b x e
    refine no ?_;clear no
    exact ⟨x',k b x' (fun q=>by rw [q,s1] at e; cases e) (fun q=>by rw [q,Y.new] at e; cases e) e1,z⟩
  · intro b x e
    unfold upd at e
    split at e
    · rename_i q; subst q; cases e; exact ⟨ob,ho,r⟩
    · rename_i q; obtain ⟨ob',h1,h2⟩ := R.objs b x e; exact ⟨ob',k _ _ q (R.sep b x e).2.1 h1,h2⟩
  · intro b x e
    unfold upd at e
    split at e
    · rename_i q; subst q; exact ⟨s1,s2,s3⟩
    · exact R.sep b x e
  · intro b x e
    unfold upd at e
    split at e
    · rename_i q; subst q; obtain ⟨es',rfl⟩ := hl _ (Option.some.inj e); exact R.low b _ he
    · exact R.low b x e
noncomputable def allAtts:List Att := [.many,.rows,.order,.ring,.crowd,.colours]
theorem mem_atts (a:Att):a ∈ allAtts := by cases a <;> decide
theorem attName_inj {a b:Att} (h:attName a = attName b):a = b := by
  cases a <;> cases b <;> first | rfl | (revert h; decide)
noncomputable def instOk (K:Frag) (C:Addr):Bool :=
  hasDictIn K C && plainOver K C && findIn K (.ref C) "__setattr__" == some (some (.builtin "object.__setattr__")) &&
  allAtts.all fun a=>plainGet K C (attName a) && findIn K (.ref C) (attName a) == some none && takerIn K C (attName a) == some none
structure InstOk (K:Frag) (C:Addr):Prop where
  dict:hasDictIn K C = true
  over:plainOver K C = true
  set:findIn K (.ref C) "__setattr__" = some (some (.builtin "object.__setattr__"))
  get:∀ a,plainGet K C (attName a) = true
  noc:∀ a,findIn K (.ref C) (attName a) = some none
  take:∀ a,takerIn K C (attName a) = some none
theorem instOk_of {K:Frag} {C:Addr} (h:instOk K C = true):InstOk K C := by
  unfold instOk at h
  simp only [Bool.and_eq_true,beq_iff_eq,List.all_eq_true] at h
  obtain ⟨⟨⟨h1,h2⟩,h3⟩,h4⟩ := h
  exact ⟨h1,h2,h3,fun a=>(h4 a (mem_atts a)).1.1,fun a=>(h4 a (mem_atts a)).1.2,fun a=>(h4 a (mem_atts a)).2⟩
theorem isStr_self (x:Str) (t:Tok):(Value.str x t).isStr x = true := by simp [Value.isStr]
theorem isStr_other {x y:Str} (h:x ≠ y) (t:Tok):(Value.str x t).isStr y = false := by simpa [Value.isStr] using h
theorem NsR.get {fs:List (Att × V)} {es:List DictEntry} (h:NsR W fs es) (a:Att):match aget fs a with
    | some v=>∃ c,getL (attName a) es = some (some c) ∧ VR W v c
    | none=>getL (attName a) es = some none := by
  have noref:es.any (·.refKey) = false := by
    induction h with
    | nil=>rfl
    | cons h1 h2 _ _ ih=>obtain ⟨t,h2⟩ := h2; simp only [List.any_cons,ih,Bool.or_false]; simp [DictEntry.refKey,h2]
  have key:match aget fs a with
      | some v=>∃ e,es.find? (·.key.isStr (attName a)) = some e ∧ VR W v e.val
      | none=>es.find? (·.key.isStr (attName a)) = none := by
    clear noref
    induction h with
    | nil=>rfl
    | @cons b v fs e es h1 h2 h3 _ ih =>
      obtain ⟨t,h2⟩ := h2
      unfold aget at ih ⊢
      rw [List.lookup_cons,List.find?_cons]
      by_cases q:a = b
      · subst q; simp only [beq_self_eq_true,h1]; exact ⟨e,rfl,h3⟩
      · have q1:(a == b) = false := by simpa using q
        have q2:e.key.isStr (attName a) = false := by rw [h2]; exact isStr_other (fun z=>q (attName_inj z.symm)) t
        simp only [q1,q2]; exact ih
  unfold getL
  cases hg:aget fs a with
  | some v=>rw [hg] at key; obtain ⟨e,e1,e2⟩ := key; exact ⟨_,by rw [e1],e2⟩
  | none=>rw [hg] at key; simp only at key ⊢; rw [key,noref]; rfl
theorem NsR.put {fs:List (Att × V)} {es:List DictEntry} (h:NsR W fs es) (a:Att) {v:V} {c:Value} (hv:VR W v c) (hsh:Int) (t:Tok):NsR W (aput fs a v) (putL (attName a) hsh (.str (attName a) t) c es) := by
  induction h with
  | nil=>exact .cons (isStr_self _ _) ⟨t,rfl⟩ hv .nil
  | @cons b v' fs e es h1 h2 h3 h4 ih =>
    obtain ⟨t',h2⟩ := h2
    unfold aput putL
    by_cases q:a = b
    · subst q; rw [if_pos rfl,h1]; exact .cons h1 ⟨t',h2⟩ hv h4
    · have q2:e.key.isStr (attName a) = false := by rw [h2]; exact isStr_other (fun z=>q (attName_inj z.symm)) t'
      rw [if_neg q,q2]; exact .cons h1 ⟨t',h2⟩ h3 ih
theorem NsR.length {fs:List (Att × V)} {es:List DictEntry} (h:NsR W fs es):fs.length = es.length := by
  induction h with
  | nil=>rfl
  | cons _ _ _ _ ih=>simp [ih]
theorem aput_len (fs:List (Att × V)) (a:Att) (v:V):(aput fs a v).length ≤ fs.length + 1 := by
  induction fs with
  | nil=>simp [aput]
  | cons p t ih =>
    obtain ⟨b,w⟩ := p
    unfold aput
    split
    · simp
    · simp only [List.length_cons]; (first | lia | omega)
theorem Rel.inst (R:Rel W h₀ env names H ρ s) {a d:Addr} {cc:Cls} {fs:List (Att × V)} (h1:H a = some (.inst cc d)) (h2:H d = some (.ns fs)) :
    (cc = .web ∨ cc = .verdict) ∧ (Ex2 fun es n=>An4 (InstAt s.heap a (instObj (W.cl cc) d) (W.cl cc) (some (dictOf es n))) (NsR W fs es) (fs.length ≤ 10) (s.heap.get? d = some (dictOf es n))):= by
  refine by_c fun no=>?_
  obtain ⟨o1,a1,a2⟩ := R.objs _ _ h1
  refine no ?_;clear no
  refine by_c fun no=>?_
  obtain ⟨o2,b1,b2⟩ := R.objs _ _ h2
  refine no ?_;clear no
  cases a2 with
  | inst hcc =>
    cases b2 with
    | ns r z=>exact ⟨hcc,_,_,⟨a1,rfl,rfl,b1⟩,r,z,b1⟩
theorem handed {v:V} {c:Value} (h:VR W v c):handedIn c = true := by induction h <;> rfl
theorem sound_getAttr (Y:EnvOk W env c h₀) (X:W.K.In W.b₀) (I:∀ cc,cc = .web ∨ cc = .verdict → InstOk W.K (W.cl cc)) (R:Rel W h₀ env names H ρ s) {o:V} {u:Value} {a:Att} {b:Bool} (ho:VR W o u) (q:getAttr o a H Q) :
    wpAny W.M A (PySem.getAttr u (attName a) b) (Res W h₀ env names ρ Q) E s := by
  obtain ⟨m,F⟩ := R.kitF Y
  unfold Mine.getAttr at q
  split at q
  · rename_i x
    cases ho
    split at q
    · rename_i cc d e1
      split at q
      · rename_i fs e2
        split at q
        · rename_i v e3
          obtain ⟨hcc,es,nn,i1,r1,z1,_⟩ := R.inst e1 e2
          have K := I cc hcc
          have := r1.get a
          rw [e3] at this
          obtain ⟨cv,g1,g2⟩ := this
          exact get_own F X i1 (K.get a) K.dict (K.noc a) rfl g1 (handed g2) (Res.mk g2 (R.toks _) q)
        · exact q.elim
      · exact q.elim
    · exact q.elim
  · exact q.elim
theorem sound_setAttr (Y:EnvOk W env c h₀) (X:W.K.In W.b₀) (I:∀ cc,cc = .web ∨ cc = .verdict → InstOk W.K (W.cl cc)) (R:Rel W h₀ env names H ρ s) {o v:V} {u uv:Value} {a:Att} (ho:VR W o u) (hv:VR W v uv) {N:AH → Prop} (q:setAttr o a v H N) :
    wpAny W.M A (PySem.setAttr u (attName a) uv) (fun _ s'=>ResU W h₀ env names ρ N s') E s := by
  obtain ⟨m,F⟩ := R.kitF Y
  unfold Mine.setAttr at q
  split at q
  · rename_i x
    cases ho
    split at q
    · rename_i cc d e1
      split at q
      · rename_i fs e2
        refine by_c fun no=>?_
        obtain ⟨hcc,es,nn,i1,r1,z1,hd⟩ := R.inst e1 e2
        refine no ?_;clear no
        have K := I cc hcc
        refine by_c fun no=>?_
        obtain ⟨s1,s2,s3⟩ := R.sep _ _ e2
        refine no ?_;clear no
        have hbn:W.b₀.get? d = none := by
          cases q:W.b₀.get? d with
          | none=>rfl
          | some o=>have := Y.base _ _ q; rw [s1] at this; cases this
        have hmem:(d,dictOf es nn) ∈ others W.b₀ env.locals s.heap := mem_others.mpr ⟨s2,hbn,hd⟩
        refine by_c fun no=>?_
        obtain ⟨news',U,m1,m2⟩ := upd_of_mem (o' := dictOf (putL (attName a) (PyData.keyHash W.w.params (attName a)) (.str (attName a) (s.toks + 1)) uv es) (putN (attName a) es nn)) others_apart hmem
        refine no ?_;clear no
        have r2 := r1.put a hv (PyData.keyHash W.w.params (attName a)) (s.toks + 1)
        refine set_dict F X kitN i1 rfl K.set K.over (K.take a) K.dict ?_ rfl U ?_ fun h' F' N'=>?_
        · have := r1.get a
          split at this
          · obtain ⟨c,g1,_⟩ := this; rw [g1]; rfl
          · rw [this]; rfl
        · rw [← r2.length]; exact Nat.le_trans (aput_len _ _ _) (by (first | lia | omega))
        · have k:∀ b o,b ≠ d → b ≠ env.locals → s.heap.get? b = some o → h'.get? b = some o := fun b o hb hl e=>by
            cases q:W.b₀.get? b with
            | some o'=>have e1 := R.keepB Y b o' q; rw [e] at e1; cases e1; exact F'.keep b _ q
            | none=>exact (N' (b,o) (m2 _ (mem_others.mpr ⟨hl,q,e⟩) hb)).1
          exact ⟨_,R.changeK Y _ e2 F.ns F'.ns k (N' _ m1).1 (.ns r2 (Nat.le_trans (aput_len _ _ _) q.1)) (fun _ q=>by cases q),q.2⟩
      · exact q.elim
    · exact q.elim
  · exact q.elim
end Mine
namespace Mine
open PySem PySem.W PyProof.Rows
variable {W:Wd} {G:GEnv} {A:Around} {h₀:HB} {env:Env} {c:Cx} {names:List Str} {H:AH} {ρ:Loc} {s:Shared} {E:Value → Shared → Prop} {n:Nat} {Q:Post} {Er:EP}
noncomputable def biNames:List Str := ["len","list","sorted","max","min","all","any","isinstance","range","enumerate","reversed","set","str","int","bool","tuple","ValueError"]
noncomputable def fnAddr (W:Wd) (f:Str):Option Addr :=
  match ownFn f with
  | some (cc,m)=>(match findIn W.K (.ref (W.cl cc)) m with | some (some (.ref a))=>some a | _=>none)
  | none=>(match nsIn W.K mainGlobals (unbang f) with | some (some (.ref a))=>some a | _=>none)
structure FnAt (W:Wd) (hb:Bool) (fa:Addr) (d:Fn) (name qual:Str) (params:Arguments) (body:List Stmt) (scope:Scope) (doc pm cdv ct oc:Value) (an od:Option Addr) (osl:Array (Option Value)):Prop where
  at_:W.K.lookup fa = some ⟨oc,od,.func (fnOf name qual params body scope .none .none doc pm an cdv ct),osl⟩
  typ:oc = .type "function"
  code:codeIn W.K cdv qual = true
  er:erFn hb params body scope = some d
  nodup:(params.args.map (·.arg)).Nodup
  kinds:∀ x ∈ params.args.map (·.arg),scope.names.lookup x = some .local ∨ scope.names.lookup x = some .cell
  cells:((cellsFrom 0 scope.names []).map (·.1)).Nodup
  names:(slotNames params scope).Nodup
  nofree:∀ p ∈ scope.names,p.2 ≠ .free
structure Gnd (W:Wd) (G:GEnv):Prop where
  X:W.K.In W.b₀
  top:(Ex4 fun p loose mg mb=>TopRead p loose mg mb W.b₀)
  inst:∀ cc,cc = .web ∨ cc = .verdict → InstOk W.K (W.cl cc)
  bi:∀ x ∈ biNames,nsIn W.K mainGlobals x = some none
  const:∀ g v,G.const g = some v → ∃ c,nsIn W.K mainGlobals g = some (some c) ∧ VR W v c
  fn:∀ f d,G.fn f = some d → ∃ fa,fnAddr W f = some fa ∧ ∃ name qual params body scope doc pm cdv ct oc an od osl,FnAt W (bang f) fa d name qual params body scope doc pm cdv ct oc an od osl
  make:∀ cc,cc = .web ∨ cc = .verdict → (G.fn (initOf cc)).isSome = true → nsIn W.K mainGlobals (match cc with | .web=>"Web" | _=>"Verdict") = some (some (.ref (W.cl cc))) ∧ makesIn W.K (W.cl cc) = true
  exc:∀ cc,G.exc cc = true → ExcOk W cc
  sub:∀ cc cc',ExcOk W cc → ExcOk W cc' → (mroIn W.K (W.cl cc)).contains (.ref (W.cl cc')) = (cc == cc' || cc' == .webError)
  meth:∀ f m fa,ownFn f = some (.web,m) → fnAddr W f = some fa → plainGet W.K (W.cl .web) m = true ∧ (∀ a,attName a ≠ m)
noncomputable def SE (W:Wd) (G:GEnv) (n:Nat) (c:Cx) (e:Expr) (x:X):Prop :=
  ∀ {A:Around} {env:Env} {h₀:HB} {H:AH} {ρ:Loc} {s:Shared} {Q:Post} {E:EP},AOk A c h₀ env E n → EnvOk W env c h₀ → Rel W h₀ env c.names H ρ s → wpE G (callN G n) x ρ H Q E →
    wpAny W.M A (eval e env) (Res W h₀ env c.names ρ Q) (EM W h₀ env c.names ρ E) s
noncomputable def ST (W:Wd) (G:GEnv) (n:Nat) (c:Cx) (e:Expr) (x:X):Prop :=
  ∀ {A:Around} {env:Env} {h₀:HB} {H:AH} {ρ:Loc} {s:Shared} {Q:Bool → AH → Prop} {E:EP},AOk A c h₀ env E n → EnvOk W env c h₀ → Rel W h₀ env c.names H ρ s →
    wpE G (callN G n) x ρ H (fun v H=>truthy v fun b=>Q b H) E →
    wpAny W.M A (isTrue e env (eval e env)) (fun b s'=>∃ H',Rel W h₀ env c.names H' ρ s' ∧ Q b H') (EM W h₀ env c.names ρ E) s
noncomputable def SEs (W:Wd) (G:GEnv) (n:Nat) (c:Cx) (es:List Expr) (xs:List X):Prop :=
  ∀ {A:Around} {env:Env} {h₀:HB} {H:AH} {ρ:Loc} {s:Shared} {Q:List V → AH → Prop} {E:EP} {pos:Pos},AOk A c h₀ env E n → EnvOk W env c h₀ → Rel W h₀ env c.names H ρ s → wpEs G (callN G n) xs ρ H Q E →
    wpAny W.M A (spliced (backTo pos (starEach es env))) (fun vs s'=>(Ex2 fun as H'=>An4 (VRs W as vs) (as.length = es.length) (Rel W h₀ env c.names H' ρ s') (Q as H'))) (EM W h₀ env c.names ρ E) s
noncomputable def SC (W:Wd) (G:GEnv) (n:Nat):Prop :=
  ∀ {A:Around} {env:Env} {c:Cx} {h₀:HB} {H:AH} {ρ:Loc} {s:Shared} {Q:Post} {E:EP} {f:Str} {fa:Addr} {vs:List V} {us:List Value},
    (bang f = false → A.handled = none) → A.depth + 4 * n + 2 < recursionLimit → A.units + 30 * n + 40 < cLine → Stk A (env.locals :: h₀.fs) → EnvOk W env c h₀ → Rel W h₀ env c.names H ρ s → fnAddr W f = some fa → VRs W vs us → callN G n f vs H Q E →
    codeAny W.M A (.call (.ref fa) ⟨us,[]⟩) (fun r s'=>match r with | .ok (.ret v)=>Res W h₀ env c.names ρ Q v s' | .ok _=>False | .error e=>EM W h₀ env c.names ρ E e s') s
theorem SE.toST (h:SE W G n c e x) (hp:∀ env whole,isTrue e env whole = (do let v ← whole; standAt e.pos; holding [v] (PySem.truthy v))):ST W G n c e x := by
  intro A env h₀ H ρ s Q E ok Y R q
  refine isTrue_plain (wpAny_mono (h ok Y R q) (fun v s' r=>?_) fun _ _ e=>e) (hp _ _)
  obtain ⟨a,H',hv,R',q'⟩ := r
  delta truthy at q'
  split at q'
  · cases hv; exact wpAny_truthy_bool ⟨H',R',q'⟩
  · exact q'.elim
theorem notStar_eval {e:Expr} (h:∀ v p,e ≠ .Starred v p) (rest:List Expr) (env:Env):starEach (e :: rest) env = (false,eval e env) :: starEach rest env := by
  cases e <;> first | rfl | exact absurd rfl (h _ _)
theorem ses_nil:SEs W G n c [] [] := by
  intro A env h₀ H ρ s Q E pos ok Y R q
  exact Calls.spliced_nil ⟨[],H,.nil,rfl,R,q⟩
theorem ses_cons {e:Expr} {es:List Expr} {x:X} {xs:List X} (h:SE W G n c e x) (hs:SEs W G n c es xs) (hn:∀ v p,e ≠ .Starred v p):SEs W G n c (e :: es) (x :: xs) := by
  intro A env h₀ H ρ s Q E pos ok Y R q
  rw [notStar_eval hn]
  refine Calls.spliced_cons (wpAny_mono (h ok Y R q) (fun v s' r=>?_) fun _ _ e=>e)
  refine by_c fun no=>?_
  obtain ⟨a,H',hv,R',q'⟩ := r
  refine no ?_;clear no
  refine wpAny_mono (hs ok Y R' q') (fun vs s'' r=>?_) fun _ _ e=>e
  refine by_c fun no=>?_
  obtain ⟨as,H'',hvs,hl,R'',q''⟩ := r
  refine no ?_;clear no
  exact ⟨a :: as,H'',.cons hv hvs,by simp [hl],R'',q''⟩
theorem se_local {x:Str} {p:Pos} {i:Nat} (hs:c.slot x = some i) (hd:(x == ("__debug__":Str)) = false) (hc:(x == ("__classdict__":Str)) = false):SE W G n c (.Name x p) (.var i) := by
  intro A env h₀ H ρ s Q E ok Y R q
  simp only [Jb,Jc,Jd,Je,Jf,Jg,Jh,Ji,Jj,Jk,Jl,Jm,Jn,Jo,Jp,Jq,e_lm,Jr,Js,Jt,Ju,Jv,e_meth,e_mk,e_comp,e_compIf,Jw,Jx,e_glob0,e_fnv,e_callv,e_dict] at q
  split at q
  · rename_i v e
    unfold Cx.slot at hs
    split at hs
    · rename_i hv
      refine wpAny_Name ?_ hd
      have key:env.kindOf x = some .local ∨ env.kindOf x = some .cell ∨ env.kindOf x = some .free := by
        cases hk:c.sc.names.lookup x with
        | none=>rw [hk] at hv; cases hv
        | some k =>
          cases k with
          | «local»=>exact .inl (Y.kinds x _ hk (by simp))
          | cell=>exact .inr (.inl (Y.kinds x _ hk (by simp)))
          | free=>rcases Y.frees x hk with h | h <;> simp [h]
          | _=>rw [hk] at hv; cases hv
      rcases key with h | h | h
      · refine by_c fun no=>?_
        obtain ⟨m,h1,h2⟩ := R.ns
        refine no ?_;clear no
        refine by_c fun no=>?_
        obtain ⟨cv,h3,h4⟩ := h2 x i v hs h e
        refine no ?_;clear no
        exact wpAny_loadName_local Y.kind h h1 h3 (Res.mk h4 R q)
      · obtain ⟨a,ha⟩ := Y.cells x (.inl h)
        refine by_c fun no=>?_
        obtain ⟨w,h1,h2⟩ := R.cell x a ha
        refine no ?_;clear no
        refine by_c fun no=>?_
        obtain ⟨cv,rfl,h4⟩ := h2 i v hs (.inl h) e
        refine no ?_;clear no
        exact wpAny_loadName_cell Y.kind h ha h1 (Res.mk h4 R q)
      · obtain ⟨a,ha⟩ := Y.cells x (.inr h)
        refine by_c fun no=>?_
        obtain ⟨w,h1,h2⟩ := R.cell x a ha
        refine no ?_;clear no
        refine by_c fun no=>?_
        obtain ⟨cv,rfl,h4⟩ := h2 i v hs (.inr h) e
        refine no ?_;clear no
        exact wpAny_loadName_free Y.kind h ha h1 (Res.mk h4 R q) hc
    · cases hs
  · exact q.elim
theorem ev_global (g:Gnd W G) (Y:EnvOk W env c h₀) (R:Rel W h₀ env names H ρ s) {x:Str} {p:Pos} {v:Value} {Q:Value → Shared → Prop} (hg:c.global x = true) (hd:(x == ("__debug__":Str)) = false) (e:nsIn W.K mainGlobals x = some (some v)) (h:Q v s) :
    wpAny W.M A (eval (.Name x p) env) Q E s := by
  obtain ⟨pp,loose,mg,mb,T⟩ := g.top
  have hx:env.kindOf x = some .globalImplicit := Y.kinds x _ (by simpa [Cx.global] using hg) (by simp)
  have k:∀ b o,W.b₀.get? b = some o → s.heap.get? b = some o := R.keepB Y
  exact Calls.Name_function_global Y.kind hx (Calls.loadGlobal_global (by rw [Y.globals]; exact T.g.keeps k) (mg_of g.X T.g e) h) hd
theorem ev_builtin (g:Gnd W G) (Y:EnvOk W env c h₀) (R:Rel W h₀ env names H ρ s) {x:Str} {p:Pos} {v:Value} {Q:Value → Shared → Prop} (hg:c.global x = true) (hd:(x == ("__debug__":Str)) = false) (hx':x ∈ biNames)
    (hv:bootBuiltins x = some v) (hn:x ≠ "__name__") (h:Q v s):wpAny W.M A (eval (.Name x p) env) Q E s := by
  obtain ⟨pp,loose,mg,mb,T⟩ := g.top
  have hx:env.kindOf x = some .globalImplicit := Y.kinds x _ (by simpa [Cx.global] using hg) (by simp)
  have k:∀ b o,W.b₀.get? b = some o → s.heap.get? b = some o := R.keepB Y
  exact Calls.Name_function_global Y.kind hx (Calls.loadGlobal_builtin (by rw [Y.globals]; exact T.g.keeps k) (mg_none_of g.X T.g (g.bi x hx')) (by rw [Y.builtins]; exact T.b.keeps k) ((T.builtins x hn).trans hv) h) hd
theorem se_glob (g:Gnd W G) {x:Str} {p:Pos} (hg:c.global x = true) (hd:(x == ("__debug__":Str)) = false):SE W G n c (.Name x p) (.glob x) := by
  intro A env h₀ H ρ s Q E ok Y R q
  simp only [Jb,Jc,Jd,Je,Jf,Jg,Jh,Ji,Jj,Jk,Jl,Jm,Jn,Jo,Jp,Jq,e_lm,Jr,Js,Jt,Ju,Jv,e_meth,e_mk,e_comp,e_compIf,Jw,Jx,e_glob0,e_fnv,e_callv,e_dict] at q
  split at q
  · rename_i v e
    obtain ⟨cv,h1,h2⟩ := g.const x v e
    exact ev_global g Y R hg hd h1 (Res.mk h2 R q)
  · exact q.elim
theorem fnAddr_plain {f:Str} {fa:Addr} (ho:ownFn f = none) (h:fnAddr W f = some fa):nsIn W.K mainGlobals (unbang f) = some (some (.ref fa)) := by
  delta fnAddr at h
  rw [ho] at h
  simp only at h
  split at h
  · rename_i e; cases h; exact e
  · cases h
theorem se_none {k:Nat} {p:Pos}:SE W G n c (.Constant .none k p) .cnone := by
  intro A env h₀ H ρ s Q E ok Y R q
  exact fun _ _ _=>Res.mk .none R q
theorem se_cbool {b:Bool} {k:Nat} {p:Pos}:SE W G n c (.Constant (.bool b) k p) (.cbool b) := by
  intro A env h₀ H ρ s Q E ok Y R q
  exact fun _ _ _=>Res.mk (.bool b) R q
theorem se_cint {i:Int} {k:Nat} {p:Pos}:SE W G n c (.Constant (.int i) k p) (.cint i) := by
  intro A env h₀ H ρ s Q E ok Y R q
  exact fun _ _ _=>Res.mk (.int i _) (R.toks _) q
theorem se_cstr {x:Str} {k:Nat} {p:Pos}:SE W G n c (.Constant (.str x) k p) (.cstr x) := by
  intro A env h₀ H ρ s Q E ok Y R q
  exact fun _ _ _=>Res.mk (.str x _) (R.toks _) q
theorem se_not {e:Expr} {x:X} {p:Pos} (h:SE W G n c e x):SE W G n c (.UnaryOp .Not e p) (.not x) := by
  intro A env h₀ H ρ s Q E ok Y R q
  simp only [Jb,Jc,Jd,Je,Jf,Jg,Jh,Ji,Jj,Jk,Jl,Jm,Jn,Jo,Jp,Jq,e_lm,Jr,Js,Jt,Ju,Jv,e_meth,e_mk,e_comp,e_compIf,Jw,Jx,e_glob0,e_fnv,e_callv,e_dict] at q
  refine UnaryOp_ (wpAny_mono (h ok Y R q) (fun v s' r=>?_) fun _ _ e=>e)
  obtain ⟨a,H',hv,R',q'⟩ := r
  delta truthy at q'
  split at q'
  · cases hv; exact not_of (wpAny_truthy_bool (Res.mk (.bool _) R' q'))
  · exact q'.elim
theorem st_not {e:Expr} {x:X} {p:Pos} (h:ST W G n c e x):ST W G n c (.UnaryOp .Not e p) (.not x) := by
  intro A env h₀ H ρ s Q E ok Y R q
  refine isTrue_not (wpAny_mono (h (Q := fun b H=>Q (!b) H) ok Y R ?_) (fun b s' r=>r) fun _ _ e=>e)
  exact q
theorem se_neg {e:Expr} {x:X} {p:Pos} (h:SE W G n c e x):SE W G n c (.UnaryOp .USub e p) (.neg x) := by
  intro A env h₀ H ρ s Q E ok Y R q
  simp only [Jb,Jc,Jd,Je,Jf,Jg,Jh,Ji,Jj,Jk,Jl,Jm,Jn,Jo,Jp,Jq,e_lm,Jr,Js,Jt,Ju,Jv,e_meth,e_mk,e_comp,e_compIf,Jw,Jx,e_glob0,e_fnv,e_callv,e_dict] at q
  refine UnaryOp_ (wpAny_mono (h ok Y R q) (fun v s' r=>?_) fun _ _ e=>e)
  obtain ⟨a,H',hv,R',q'⟩ := r
  revert q'; intro q'
  split at q'
  · cases hv; exact neg_int (Res.mk (.int _ _) (R'.toks _) q')
  · exact q'.elim
theorem se_and {e e2:Expr} {rest:List Expr} {x y:X} {p:Pos} (h:SE W G n c e x) (h2:SE W G n c (.BoolOp .And (e2 :: rest) p) y):SE W G n c (.BoolOp .And (e :: e2 :: rest) p) (.and x y) := by
  intro A env h₀ H ρ s Q E ok Y R q
  simp only [Jb,Jc,Jd,Je,Jf,Jg,Jh,Ji,Jj,Jk,Jl,Jm,Jn,Jo,Jp,Jq,e_lm,Jr,Js,Jt,Ju,Jv,e_meth,e_mk,e_comp,e_compIf,Jw,Jx,e_glob0,e_fnv,e_callv,e_dict] at q
  refine BoolOp_and (wpAny_mono (h ok Y R q) (fun v s' r=>?_) fun _ _ e=>e)
  obtain ⟨a,H',hv,R',q'⟩ := r
  delta truthy at q'
  split at q'
  · rename_i b
    cases hv
    refine wpAny_truthy_bool ?_
    cases b
    · exact Res.mk (.bool _) R' (by simpa using q')
    · exact h2 ok Y R' (by simpa using q')
  · exact q'.elim
theorem se_or {e e2:Expr} {rest:List Expr} {x y:X} {p:Pos} (h:SE W G n c e x) (h2:SE W G n c (.BoolOp .Or (e2 :: rest) p) y):SE W G n c (.BoolOp .Or (e :: e2 :: rest) p) (.or x y) := by
  intro A env h₀ H ρ s Q E ok Y R q
  simp only [Jb,Jc,Jd,Je,Jf,Jg,Jh,Ji,Jj,Jk,Jl,Jm,Jn,Jo,Jp,Jq,e_lm,Jr,Js,Jt,Ju,Jv,e_meth,e_mk,e_comp,e_compIf,Jw,Jx,e_glob0,e_fnv,e_callv,e_dict] at q
  refine BoolOp_or (wpAny_mono (h ok Y R q) (fun v s' r=>?_) fun _ _ e=>e)
  obtain ⟨a,H',hv,R',q'⟩ := r
  delta truthy at q'
  split at q'
  · rename_i b
    cases hv
    refine wpAny_truthy_bool ?_
    cases b
    · exact h2 ok Y R' (by simpa using q')
    · exact Res.mk (.bool _) R' (by simpa using q')
  · exact q'.elim
theorem st_and {e:Expr} {rest:List Expr} {x y:X} {p:Pos} (h:ST W G n c e x) (h2:ST W G n c (.BoolOp .And rest p) y):ST W G n c (.BoolOp .And (e :: rest) p) (.and x y) := by
  intro A env h₀ H ρ s Q E ok Y R q
  simp only [Jb,Jc,Jd,Je,Jf,Jg,Jh,Ji,Jj,Jk,Jl,Jm,Jn,Jo,Jp,Jq,e_lm,Jr,Js,Jt,Ju,Jv,e_meth,e_mk,e_comp,e_compIf,Jw,Jx,e_glob0,e_fnv,e_callv,e_dict] at q
  refine isTrue_and (wpAny_mono (h (Q := fun b H=>if b then wpE G (callN G n) y ρ H (fun v H=>truthy v fun b=>Q b H) E else Q false H) ok Y R ?_) (fun b s' r=>?_) fun _ _ e=>e)
  · refine cast ?_ q; congr 1
  · obtain ⟨H',R',q'⟩ := r
    cases b
    · exact ⟨H',R',by simpa using q'⟩
    · exact h2 ok Y R' (by simpa using q')
theorem isTrue_or {M:Model} {x:Expr} {rest:List Expr} {pos:Pos} {whole:Sem Value} {Q:Bool → Shared → Prop}
    (h:wpAny M A (isTrue x env (eval x env)) (fun c s'=>if c then Q true s' else wpAny M A (isTrue (.BoolOp .Or rest pos) env whole) Q E s') E s) :
    wpAny M A (isTrue (.BoolOp .Or (x :: rest) pos) env whole) Q E s := by
  show wpAny M A (do
    match BoolOp.Or,← isTrue x env (eval x env) with
    | .And,false=>pure false
    | .Or,true=>pure true
    | _,_=>allTrue .Or rest env) Q E s
  refine wpAny_bind (wpAny_mono h (fun b s' r=>?_) fun _ _ e=>e)
  cases b
  · exact r
  · exact wpAny_pure r
theorem st_or {e:Expr} {rest:List Expr} {x y:X} {p:Pos} (h:ST W G n c e x) (h2:ST W G n c (.BoolOp .Or rest p) y):ST W G n c (.BoolOp .Or (e :: rest) p) (.or x y) := by
  intro A env h₀ H ρ s Q E ok Y R q
  simp only [Jb,Jc,Jd,Je,Jf,Jg,Jh,Ji,Jj,Jk,Jl,Jm,Jn,Jo,Jp,Jq,e_lm,Jr,Js,Jt,Ju,Jv,e_meth,e_mk,e_comp,e_compIf,Jw,Jx,e_glob0,e_fnv,e_callv,e_dict] at q
  refine isTrue_or (wpAny_mono (h (Q := fun b H=>if b then Q true H else wpE G (callN G n) y ρ H (fun v H=>truthy v fun b=>Q b H) E) ok Y R ?_) (fun b s' r=>?_) fun _ _ e=>e)
  · refine cast ?_ q; congr 1
  · refine by_c fun no=>?_
    obtain ⟨H',R',q'⟩ := r
    refine no ?_;clear no
    cases b
    · exact h2 ok Y R' (by simpa using q')
    · exact ⟨H',R',by simpa using q'⟩
theorem st_one {op:BoolOp} {e:Expr} {x:X} {p:Pos} (h:ST W G n c e x):ST W G n c (.BoolOp op [e] p) x := by
  intro A env h₀ H ρ s Q E ok Y R q
  cases op
  · refine isTrue_and (wpAny_mono (h ok Y R q) (fun b s' r=>?_) fun _ _ e=>e)
    refine by_c fun no=>?_
    obtain ⟨H',R',q'⟩ := r
    refine no ?_;clear no
    cases b
    · exact ⟨H',R',q'⟩
    · exact isTrue_and_nil ⟨H',R',q'⟩
  · refine isTrue_or (wpAny_mono (h ok Y R q) (fun b s' r=>?_) fun _ _ e=>e)
    refine by_c fun no=>?_
    obtain ⟨H',R',q'⟩ := r
    refine no ?_;clear no
    cases b
    · exact wpAny_pure (a := false) ⟨H',R',q'⟩
    · exact ⟨H',R',q'⟩
theorem se_bin {l r:Expr} {op:Operator} {x y:X} {p:Pos} (h:SE W G n c l x) (h2:SE W G n c r y):SE W G n c (.BinOp l op r p) (.bin op x y) := by
  intro A env h₀ H ρ s Q E ok Y R q
  simp only [Jb,Jc,Jd,Je,Jf,Jg,Jh,Ji,Jj,Jk,Jl,Jm,Jn,Jo,Jp,Jq,e_lm,Jr,Js,Jt,Ju,Jv,e_meth,e_mk,e_comp,e_compIf,Jw,Jx,e_glob0,e_fnv,e_callv,e_dict] at q
  refine wpAny_BinOp (wpAny_mono (h ok Y R q) (fun v s' r=>?_) fun _ _ e=>e)
  obtain ⟨a,H',hv,R',q'⟩ := r
  refine wpAny_mono (h2 ok Y R' q') (fun v2 s2 r=>?_) fun _ _ e=>e
  obtain ⟨b,H2,hv2,R2,q2⟩ := r
  exact sound_binOp Y R2 hv hv2 q2
theorem se_cmp {l r:Expr} {op:CmpOp} {x y:X} {p:Pos} (h:SE W G n c l x) (h2:SE W G n c r y) (hm:behindInMarks op r = false):SE W G n c (.Compare l [op] [r] p) (.cmp op x y) := by
  intro A env h₀ H ρ s Q E ok Y R q
  simp only [Jb,Jc,Jd,Je,Jf,Jg,Jh,Ji,Jj,Jk,Jl,Jm,Jn,Jo,Jp,Jq,e_lm,Jr,Js,Jt,Ju,Jv,e_meth,e_mk,e_comp,e_compIf,Jw,Jx,e_glob0,e_fnv,e_callv,e_dict] at q
  refine wpAny_Compare1 (wpAny_mono (h ok Y R q) (fun v s' r=>?_) fun _ _ e=>e) hm
  refine by_c fun no=>?_
  obtain ⟨a,H',hv,R',q'⟩ := r
  refine no ?_;clear no
  refine wpAny_mono (h2 ok Y R' q') (fun v2 s2 r=>?_) fun _ _ e=>e
  refine by_c fun no=>?_
  obtain ⟨b,H2,hv2,R2,q2⟩ := r
  refine no ?_;clear no
  exact sound_cmpOp ok Y R2 hv hv2 q2
theorem truthy_res {v:Value} {Q:Bool → AH → Prop} (r:Res W h₀ env names ρ (fun v H=>truthy v fun b=>Q b H) v s):wpAny W.M A (PySem.truthy v) (fun b s'=>∃ H',Rel W h₀ env names H' ρ s' ∧ Q b H') E s := by
  refine by_c fun no=>?_
  obtain ⟨a,H',hv,R',q'⟩ := r
  refine no ?_;clear no
  delta truthy at q'
  split at q'
  · cases hv; exact wpAny_truthy_bool ⟨H',R',q'⟩
  · exact q'.elim
theorem st_cmp {l r:Expr} {op:CmpOp} {x y:X} {p:Pos} (h:SE W G n c l x) (h2:SE W G n c r y) (hm:behindInMarks op r = false):ST W G n c (.Compare l [op] [r] p) (.cmp op x y) := by
  intro A env h₀ H ρ s Q E ok Y R q
  simp only [Jb,Jc,Jd,Je,Jf,Jg,Jh,Ji,Jj,Jk,Jl,Jm,Jn,Jo,Jp,Jq,e_lm,Jr,Js,Jt,Ju,Jv,e_meth,e_mk,e_comp,e_compIf,Jw,Jx,e_glob0,e_fnv,e_callv,e_dict] at q
  refine wpAny_isTrue_Compare1 (wpAny_mono (h ok Y R q) (fun v s' r=>?_) fun _ _ e=>e) hm
  refine by_c fun no=>?_
  obtain ⟨a,H',hv,R',q'⟩ := r
  refine no ?_;clear no
  refine wpAny_mono (h2 ok Y R' q') (fun v2 s2 r=>?_) fun _ _ e=>e
  refine by_c fun no=>?_
  obtain ⟨b,H2,hv2,R2,q2⟩ := r
  refine no ?_;clear no
  exact wpAny_mono (sound_cmpOp ok Y R2 hv hv2 q2) (fun v s' r=>truthy_res r) fun _ _ e=>e
theorem se_chain {l m r:Expr} {o1 o2:CmpOp} {x y z:X} {p:Pos} (h:SE W G n c l x) (h2:SE W G n c m y) (h3:SE W G n c r z) (hm:lastMarks [o1,o2] [m,r] = false):SE W G n c (.Compare l [o1,o2] [m,r] p) (.chain x o1 y o2 z) := by
  intro A env h₀ H ρ s Q E ok Y R q
  simp only [Jb,Jc,Jd,Je,Jf,Jg,Jh,Ji,Jj,Jk,Jl,Jm,Jn,Jo,Jp,Jq,e_lm,Jr,Js,Jt,Ju,Jv,e_meth,e_mk,e_comp,e_compIf,Jw,Jx,e_glob0,e_fnv,e_callv,e_dict] at q
  refine Compare_chain (wpAny_mono (h ok Y R q) (fun v s' r=>?_) fun _ _ e=>e) hm
  refine by_c fun no=>?_
  obtain ⟨a,H',hv,R',q'⟩ := r
  refine no ?_;clear no
  refine chain_link (wpAny_mono (h2 ok Y R' q') (fun v2 s2 r=>?_) fun _ _ e=>e)
  refine by_c fun no=>?_
  obtain ⟨b,H2,hv2,R2,q2⟩ := r
  refine no ?_;clear no
  refine wpAny_mono (sound_cmpOp ok Y R2 hv hv2 q2) (fun v3 s3 r=>?_) fun _ _ e=>e
  refine by_c fun no=>?_
  obtain ⟨d,H3,hv3,R3,q3⟩ := r
  refine no ?_;clear no
  delta truthy at q3
  split at q3
  · rename_i t
    cases hv3
    refine wpAny_truthy_bool ?_
    cases t
    · exact Res.mk (.bool _) R3 (by simpa using q3)
    · refine chain_last (wpAny_mono (h3 ok Y R3 (by simpa using q3)) (fun v4 s4 r=>?_) fun _ _ e=>e)
      refine by_c fun no=>?_
      obtain ⟨d,H4,hv4,R4,q4⟩ := r
      refine no ?_;clear no
      exact sound_cmpOp ok Y R4 hv2 hv4 q4
  · exact q3.elim
theorem st_chain {l m r:Expr} {o1 o2:CmpOp} {x y z:X} {p:Pos} (h:SE W G n c l x) (h2:SE W G n c m y) (h3:SE W G n c r z) (hm:lastMarks [o1,o2] [m,r] = false):ST W G n c (.Compare l [o1,o2] [m,r] p) (.chain x o1 y o2 z) := by
  intro A env h₀ H ρ s Q E ok Y R q
  simp only [Jb,Jc,Jd,Je,Jf,Jg,Jh,Ji,Jj,Jk,Jl,Jm,Jn,Jo,Jp,Jq,e_lm,Jr,Js,Jt,Ju,Jv,e_meth,e_mk,e_comp,e_compIf,Jw,Jx,e_glob0,e_fnv,e_callv,e_dict] at q
  refine isTrue_chain (wpAny_mono (h ok Y R q) (fun v s' r=>?_) fun _ _ e=>e) hm
  refine by_c fun no=>?_
  obtain ⟨a,H',hv,R',q'⟩ := r
  refine no ?_;clear no
  refine test_link (wpAny_mono (h2 ok Y R' q') (fun v2 s2 r=>?_) fun _ _ e=>e)
  refine by_c fun no=>?_
  obtain ⟨b,H2,hv2,R2,q2⟩ := r
  refine no ?_;clear no
  refine wpAny_mono (sound_cmpOp ok Y R2 hv hv2 q2) (fun v3 s3 r=>?_) fun _ _ e=>e
  refine by_c fun no=>?_
  obtain ⟨d,H3,hv3,R3,q3⟩ := r
  refine no ?_;clear no
  delta truthy at q3
  split at q3
  · rename_i t
    cases hv3
    refine wpAny_truthy_bool ?_
    cases t
    · exact ⟨H3,R3,by simpa [truthy] using q3⟩
    · refine test_last (wpAny_mono (h3 ok Y R3 (by simpa using q3)) (fun v4 s4 r=>?_) fun _ _ e=>e)
      refine by_c fun no=>?_
      obtain ⟨d,H4,hv4,R4,q4⟩ := r
      refine no ?_;clear no
      exact wpAny_mono (sound_cmpOp ok Y R4 hv2 hv4 q4) (fun v s' r=>truthy_res r) fun _ _ e=>e
  · exact q3.elim
end Mine
namespace Mine
open PySem PySem.W PyProof.Rows
variable {W:Wd} {G:GEnv} {A:Around} {h₀:HB} {env:Env} {c:Cx} {names:List Str} {H:AH} {ρ:Loc} {s:Shared} {E:Value → Shared → Prop} {n:Nat} {Q:Post} {Er:EP}
theorem lookup_zip_self {ns:List Str} {vs:List Value} (hl:ns.length = vs.length) (n:Str) (h:n ∈ ns):((ns.zip vs).lookup n).isSome = true := by
  induction ns generalizing vs with
  | nil=>cases h
  | cons a ns ih =>
    cases vs with
    | nil=>cases hl
    | cons v vs =>
      rw [List.zip_cons_cons,List.lookup_cons]
      cases q:n == a with
      | true=>rfl
      | false =>
        rcases List.mem_cons.mp h with rfl | h
        · rw [beq_self_eq_true] at q; cases q
        · exact ih (Nat.succ.inj hl) h
theorem fm_congr {α β:Type} {f g:α → Option β}:∀ {l:List α},(∀ x ∈ l,f x = g x) → l.filterMap f = l.filterMap g
  | [],_=>rfl
  | a :: l,h=>by rw [List.filterMap_cons,List.filterMap_cons,h a (.head _),fm_congr fun x hx=>h x (.tail _ hx)]
theorem filterMap_zip {ns:List Str} {vs:List Value} (hl:ns.length = vs.length) (hn:ns.Nodup):ns.filterMap (fun n=>((ns.zip vs).lookup n).map (n,·)) = ns.zip vs := by
  induction ns generalizing vs with
  | nil=>rfl
  | cons a ns ih =>
    cases vs with
    | nil=>cases hl
    | cons v vs =>
      obtain ⟨h1,h2⟩ := List.nodup_cons.mp hn
      simp only [List.zip_cons_cons,List.filterMap_cons,List.lookup_cons,beq_self_eq_true,Option.map_some]
      congr 1
      refine Eq.trans (fm_congr fun n hn=>?_) (ih (Nat.succ.inj hl) h2)
      have:(n == a) = false := by simpa using fun q:n = a=>h1 (q ▸ hn)
      rw [this]
theorem bind_plain {fd:FuncData} {vs:List Value} (hp:plainParams fd.params = true) (hd:fd.defaults = .none) (hl:fd.params.args.length = vs.length) (hn:(fd.params.args.map (·.arg)).Nodup) :
    bindArgs fd ⟨vs,[]⟩ = pure ((fd.params.args.map (·.arg)).zip vs) := by
  unfold plainParams at hp
  simp only [Bool.and_eq_true,List.isEmpty_iff,Option.isNone_iff_eq_none] at hp
  refine by_c fun no=>?_
  obtain ⟨⟨⟨⟨⟨h1,h2⟩,h3⟩,h4⟩,h5⟩,h6⟩ := hp
  refine no ?_;clear no
  have hl':(fd.params.args.map (·.arg)).length = vs.length := by simpa using hl
  have e2 := filterMap_zip hl' hn
  have e1:∀ k,((fd.params.args.map (·.arg)).take k).filter (fun n=>(((fd.params.args.map (·.arg)).zip vs).lookup n).isNone) = [] := by
    intro k
    rw [List.filter_eq_nil_iff]; intro n h
    have := lookup_zip_self hl' n (List.mem_of_mem_take h)
    cases q:((fd.params.args.map (·.arg)).zip vs).lookup n with
    | none=>rw [q] at this; cases this
    | some _=>simp
  have e3:¬ (decide (vs.length > (fd.params.args.map (·.arg)).length) && true) = true := by simp; (first | lia | omega)
  clear hl hl' hn
  cases fd with | mk nm qn ps bd sc gl cl df kd pm cd =>
  cases ps with | mk a1 a2 a3 a4 a5 a6 a7 =>
  dsimp only at h1 h2 h3 h4 h5 h6 hd e1 e2 e3 ⊢
  subst h1 h2 h3 h5 hd
  generalize hN:a2.map Arg.arg = N at *
  subst hN
  have e4:∀ k,¬ (!(((a2.map Arg.arg).take k).filter (fun n=>(((a2.map Arg.arg).zip vs).lookup n).isNone)).isEmpty) = true := fun k=>by rw [e1 k]; decide
  refine (if_neg (c := (decide (vs.length > ([] ++ a2.map Arg.arg).length) && Option.isNone (none:Option Arg)) = true) e3).trans ((if_neg (e4 _)).trans ?_)
  dsimp only [List.map_nil,List.nil_append,List.toList_toArray,Option.getD_none,List.length_nil]
  rw [List.drop_nil,List.zip_nil_right]
  show (pure:List (Str × Value) → Sem (List (Str × Value))) (List.filterMap (fun n=>(((a2.map Arg.arg).zip vs).lookup n).map (n,·)) (a2.map Arg.arg ++ [])) = _
  rw [List.append_nil,e2]
noncomputable def NS (es:List Expr):Prop := ∀ e ∈ es,∀ v p,e ≠ .Starred v p
theorem NS.plain {es:List Expr} (h:NS es) {pos:Pos} {env:Env}:(backTo pos (starEach es env)).any (·.1) = false := by
  induction es with
  | nil=>rfl
  | cons e r ih =>
    rw [notStar_eval (h e (.head _))]
    show (false || (backTo pos (starEach r env)).any (·.1)) = false
    rw [ih fun e he=>h e (.tail _ he)]; rfl
theorem ev_args {es:List Expr} {xs:List X} (h:SEs W G n c es xs) (hn:NS es) (ok:AOk A c h₀ env Er n) (Y:EnvOk W env c h₀) (R:Rel W h₀ env c.names H ρ s) {f:Value} {pos:Pos} {Q:List V → AH → Prop} (q:wpEs G (callN G n) xs ρ H Q Er)
    {Q':Args → Shared → Prop} (hq:∀ as us H' s',VRs W as us → Rel W h₀ env c.names H' ρ s' → Q as H' → Q' ⟨us,[]⟩ s'):wpAny W.M A (evalArgs f true (backTo pos (starEach es env)) []) Q' (EM W h₀ env c.names ρ Er) s := by
  have z := h (pos := pos) ok Y R q
  have z':wpAny W.M A (spliced (backTo pos (starEach es env))) (fun us s'=>Q' ⟨us,[]⟩ s') (EM W h₀ env c.names ρ Er) s :=
    wpAny_mono z (fun us s' r=>by obtain ⟨as,H',h1,_,h2,h3⟩ := r; exact hq as us H' s' h1 h2 h3) fun _ _ e=>e
  cases es with
  | nil =>
    unfold evalArgs
    show wpAny W.M A (spliced [] >>= _) Q' (EM W h₀ env c.names ρ Er) s
    refine wpAny_bind (wpAny_mono z' (fun vs s' h'=>?_) fun _ _ e=>e)
    refine wpAny_holding ?_
    exact wpAny_bind (wpAny_pure (wpAny_bind (wpAny_pure (wpAny_pure h'))))
  | cons e r =>
    rw [notStar_eval (hn e (.head _))] at z' ⊢
    exact Calls.evalArgs_plain z'
theorem Gnd.keep (g:Gnd W G) (Y:EnvOk W env c h₀) (R:Rel W h₀ env names H ρ s):W.K.In s.heap := fun a o e=>R.keepB Y a o (g.X a o e)
theorem se_call (g:Gnd W G) (hf:c.hnd = false) (sc:SC W G n) {f:Str} {p pos:Pos} {es:List Expr} {xs:List X} (hg:c.global f = true) (hd:(f == ("__debug__":Str)) = false) (hbx:bang f = false) (ho:ownFn f = none) (hs:SEs W G n c es xs) (hn:NS es):SE W G n c (.Call (.Name f p) es [] pos) (.call f xs) := by
  intro A env h₀ H ρ s Q E ok Y R q
  simp only [Jb,Jc,Jd,Je,Jf,Jg,Jh,Ji,Jj,Jk,Jl,Jm,Jn,Jo,Jp,Jq,e_lm,Jr,Js,Jt,Ju,Jv,e_meth,e_mk,e_comp,e_compIf,Jw,Jx,e_glob0,e_fnv,e_callv,e_dict] at q
  obtain ⟨d,hd'⟩ := Option.isSome_iff_exists.mp q.1
  refine by_c fun no=>?_
  obtain ⟨fa,h1,name,qual,params,body,scope,doc,pm,cdv,ct,oc,an,od,osl,F⟩ := g.fn f d hd'
  refine no ?_;clear no
  refine Call_ (ev_global g Y R hg hd (unbang_id hbx ▸ fnAddr_plain ho h1) ?_)
  refine Calls.callWith_function (ev_args hs hn ok Y R q.2 fun as us H' s' hv R' q'=>⟨⟨g.keep Y R' _ _ F.at_,rfl⟩,?_⟩)
  exact wpAny_call (sc (fun _=>ok.handled hf) (by have := ok.room; (first | lia | omega)) (by have := ok.units; (first | lia | omega)) ok.stk Y R' h1 hv q')
theorem se_callH (g:Gnd W G) (sc:SC W G n) {f y:Str} {p pos:Pos} {es:List Expr} {xs:List X} (hg:c.global f = true) (hy:hOf f = some y) (hs:SEs W G n c es xs) (hn:NS es):SE W G n c (.Call (.Name f p) es [] pos) (.call y xs) := by
  obtain ⟨y1,y2,y3,y4⟩ := hOf_is hy
  intro A env h₀ H ρ s Q E ok Y R q
  rw [Jp] at q
  obtain ⟨d,hd'⟩ := Option.isSome_iff_exists.mp q.1
  obtain ⟨fa,h1,name,qual,params,body,scope,doc,pm,cdv,ct,oc,an,od,osl,F⟩ := g.fn y d hd'
  refine Call_ (ev_global g Y R hg y4 (y2 ▸ fnAddr_plain y3 h1) ?_)
  refine Calls.callWith_function (ev_args hs hn ok Y R q.2 fun as us H' s' hv R' q'=>⟨⟨g.keep Y R' _ _ F.at_,rfl⟩,?_⟩)
  exact wpAny_call (sc (fun h=>by rw [y1] at h; cases h) (by have := ok.room; (first | lia | omega)) (by have := ok.units; (first | lia | omega)) ok.stk Y R' h1 hv q')
theorem base_ok {o:Expr} {a:Str} {whole:Sem Value} (h:okBase o = true):attributeBase o a env whole = whole := by
  cases o <;> try rfl
  case Call f args kw p =>
    cases f <;> try rfl
    case Name x q =>
      cases args with
      | cons _ _=>rfl
      | nil =>
        cases kw with
        | cons _ _=>rfl
        | nil=>cases h
theorem getL_none {fs:List (Att × V)} {es:List DictEntry} (h:NsR W fs es) {m:Str} (hm:∀ a,attName a ≠ m):getL m es = some none := by
  have h1:es.find? (·.key.isStr m) = none ∧ es.any (·.refKey) = false := by
    induction h with
    | nil=>exact ⟨rfl,rfl⟩
    | cons h1 h2 h3 h4 ih =>
      obtain ⟨t,ht⟩ := h2
      refine ⟨?_,?_⟩
      · rw [List.find?_cons,ht,isStr_other (hm _)]; exact ih.1
      · rw [List.any_cons,ih.2]
        simp [DictEntry.refKey,ht]
  unfold getL
  rw [h1.1,h1.2]; rfl
theorem init_is {cc:Cls} (h:cc = .web ∨ cc = .verdict):ownFn (initOf cc) = some (cc,("__init__":Str)) := by rcases h with rfl | rfl <;> decide
theorem fnAddr_own {f m:Str} {cc:Cls} {fa:Addr} (ho:ownFn f = some (cc,m)) (h:fnAddr W f = some fa):findIn W.K (.ref (W.cl cc)) m = some (some (.ref fa)) := by
  delta fnAddr at h
  rw [ho] at h
  simp only at h
  split at h
  · rename_i e; cases h; exact e
  · cases h
theorem FnAt.isFn {hb:Bool} {fa:Addr} {d name qual params body scope doc pm cdv ct oc an od osl} (F:FnAt W hb fa d name qual params body scope doc pm cdv ct oc an od osl):isFn W.K (.ref fa) = true := by
  have := F.at_
  rw [F.typ] at this
  unfold PySem.W.isFn typeIn
  simp only [this]; rfl
theorem se_meth (g:Gnd W G) (hf:c.hnd = false) (sc:SC W G n) {o:Expr} {m f:Str} {ap pos:Pos} {y:X} {es:List Expr} {xs:List X} (hb:okBase o = true) (hl:(ap.endLine == pos.line) = true) (hfew:es.length < 3) (ho:ownFn f = some (.web,m)) (h:SE W G n c o y) (hs:SEs W G n c es xs) (hn:NS es) :
    SE W G n c (.Call (.Attribute o m ap) es [] pos) (.meth f y xs) := by
  intro A env h₀ H ρ s Q E ok Y R q
  simp only [Jb,Jc,Jd,Je,Jf,Jg,Jh,Ji,Jj,Jk,Jl,Jm,Jn,Jo,Jp,Jq,e_lm,Jr,Js,Jt,Ju,Jv,e_meth,e_mk,e_comp,e_compIf,Jw,Jx,e_glob0,e_fnv,e_callv,e_dict] at q
  rw [arm_eval_Call,base_ok hb]
  refine wpAny_bind (wpAny_mono (h ok Y R q) (fun ov s₁ r=>wpAny_bind (wpAny_standAt ?_)) fun _ _ e=>e)
  refine by_c fun no=>?_
  obtain ⟨a,H',hv,R',q'⟩ := r
  refine no ?_;clear no
  split at q'
  · rename_i x
    cases hv
    split at q'
    · rename_i dd e1
      split at q'
      · rename_i fs e2
        obtain ⟨hsome,q'⟩ := q'
        obtain ⟨d,hd'⟩ := Option.isSome_iff_exists.mp hsome
        refine by_c fun no=>?_
        obtain ⟨fa,h1,name,qual,params,body,scope,doc,pm,cdv,ct,oc,an,od,osl,F⟩ := g.fn f d hd'
        refine no ?_;clear no
        obtain ⟨hp,hat⟩ := g.meth f m fa ho h1
        have hform:methodCallForm (es.length + ([]:List Keyword).length) (backTo pos (starEach es env)) (backToKw pos (keywordEach [] env)) = true := by
          unfold methodCallForm
          have:(backTo pos (starEach es env)).all (fun x=>!x.1) = true := by
            have := hn.plain (pos := pos) (env := env)
            rw [List.any_eq_false] at this
            rw [List.all_eq_true]; intro x hx; simpa using this x hx
          rw [this]
          have:es.length + 0 + 0 < 30 := by (first | lia | omega)
          simpa [show backToKw pos (keywordEach [] env) = [] from rfl] using this
        have hpos:methodCallPos true o env ap pos = pure pos := by unfold methodCallPos; simp [hl]
        unfold methodCall
        rw [hform]
        obtain ⟨mm,FF⟩ := R'.kitF Y
        refine by_c fun no=>?_
        obtain ⟨ob1,o1,o2⟩ := R'.objs _ _ e1
        refine no ?_;clear no
        refine by_c fun no=>?_
        obtain ⟨ob2,o3,o4⟩ := R'.objs _ _ e2
        refine no ?_;clear no
        cases o2
        cases o4 with
        | ns hns hz =>
        have I:PySem.W.InstAt s₁.heap x (instObj (W.cl .web) dd) (W.cl .web) (some (dictOf _ _)) := ⟨o1,rfl,rfl,o3⟩
        refine wpAny_bind (wpAny_holding (method_inst FF g.X I hp (fnAddr_own ho h1) F.isFn (getL_none hns hat) ?_))
        refine wpAny_bind (wpAny_of_eq hpos ?_)
        refine Calls.callWith_function (ev_args hs hn ok Y R' q' fun as us H' s' hv R' q'=>⟨⟨g.keep Y R' _ _ F.at_,rfl⟩,?_⟩)
        exact wpAny_call (sc (fun _=>ok.handled hf) (by have := ok.room; (first | lia | omega)) (by have := ok.units; (first | lia | omega)) ok.stk Y R' h1 (.cons (.ref _) hv) q')
      · exact q'.elim
    · exact q'.elim
  · exact q'.elim
theorem tcall_weight (C:Addr) (rest:List Value):(Code.builtin "type.__call__" ⟨.ref C :: rest,[]⟩).weight ≤ 1 := by
  first | exact (show (0:Nat) ≤ 1 by decide) | exact (show (1:Nat) ≤ 1 by decide)
theorem tcall_units (a:Args):(Code.builtin "type.__call__" a).cUnits = 1 := by kernel_rfl
theorem se_mk (g:Gnd W G) (hf:c.hnd = false) (sc:SC W G n) {cc:Cls} {x:Str} {p pos:Pos} {es:List Expr} {xs:List X} (hcc:(cc = .web ∧ x = "Web") ∨ (cc = .verdict ∧ x = "Verdict")) (hg:c.global x = true) (hs:SEs W G n c es xs) (hn:NS es) :
    SE W G n c (.Call (.Name x p) es [] pos) (.mk cc xs) := by
  intro A env h₀ H ρ s Q E ok Y R q
  simp only [Jb,Jc,Jd,Je,Jf,Jg,Jh,Ji,Jj,Jk,Jl,Jm,Jn,Jo,Jp,Jq,e_lm,Jr,Js,Jt,Ju,Jv,e_meth,e_mk,e_comp,e_compIf,Jw,Jx,e_glob0,e_fnv,e_callv,e_dict] at q
  have hc':cc = .web ∨ cc = .verdict := hcc.elim (fun h=>.inl h.1) fun h=>.inr h.1
  obtain ⟨d,hd'⟩ := Option.isSome_iff_exists.mp q.1
  refine by_c fun no=>?_
  obtain ⟨fa,h1,name,qual,params,body,scope,doc,pm,cdv,ct,oc,an,od,osl,F⟩ := g.fn _ d hd'
  refine no ?_;clear no
  obtain ⟨hm1,hm2⟩ := g.make cc hc' q.1
  have hns:nsIn W.K mainGlobals x = some (some (.ref (W.cl cc))) := by rcases hcc with ⟨rfl,rfl⟩ | ⟨rfl,rfl⟩ <;> exact hm1
  have hk:keepIn W.K (.ref (W.cl cc)) = true := by
    unfold makesIn at hm2
    split at hm2
    · rename_i e
      simp only [keepIn,e]
      simp only [Bool.and_eq_true] at hm2
      exact hm2.1.2
    · cases hm2
  refine Call_ (ev_global g Y R hg (by rcases hcc with ⟨rfl,rfl⟩ | ⟨rfl,rfl⟩ <;> decide) hns ?_)
  refine callWith_of (P := W.K.In) (by simp [hn.plain]) (keeps_K hk) (ev_args hs hn ok Y R q.2 fun as us H' s' hv R' q'=>⟨g.keep Y R',?_⟩)
  refine wpAny_call ?_
  have X := g.keep Y R'
  refine by_c fun no=>?_
  obtain ⟨hh,gg,dd,tt,oo⟩ := s'
  refine no ?_;clear no
  refine make_core (makes_of X hm2) (looks_findIn X (fnAddr_own (init_is hc') h1)) (fun self=>bind_fn X self (beq_iff_eq.mp F.isFn)) (.inl rfl) ?_
  have hn1 := R'.fresh
  have R1 := R'.push (o := .ns []) (ob := emptyDict) (OR.ns (es := []) .nil (by simp)) rfl tt
  have hn2 := R1.fresh
  simp only [Heap.size_push] at hn1 hn2
  have hn3:H' (hh.objs.size + 1) = none := by
    unfold upd at hn2
    simp at hn2
    exact hn2
  have R2 := R1.push (o := .inst cc hh.objs.size) (ob := instObj (W.cl cc) hh.objs.size) (.inst hc') rfl tt
  simp only [Heap.size_push] at R2
  have q2 := q' (hh.objs.size + 1) hh.objs.size hn3 hn1 (by (first | lia | omega))
  refine codeAny_mono (sc (Q := fun r H'=>r = .none ∧ Q (.ref (hh.objs.size + 1)) H') (E := E) ?_ ?_ ?_ ok.stk Y R2 h1 (.cons (.ref _) hv) q2) fun r s' z=>?_
  · exact fun _=>ok.handled hf
  · have := ok.room; show A.depth + Code.weight _ + _ + _ < _; refine Nat.lt_of_le_of_lt (Nat.add_le_add_right (Nat.add_le_add_right (Nat.add_le_add_left (tcall_weight _ _) _) _) _) ?_; (first | lia | omega)
  · have := ok.units; show A.units + Code.cUnits _ + _ + _ < _; rw [tcall_units]; (first | lia | omega)
  · rcases r with e | (v | _ | _ | _) <;> first | exact z | exact z.elim | skip
    refine by_c fun no=>?_
    obtain ⟨a,H3,hv3,R3,e3,q3⟩ := z
    refine no ?_;clear no
    subst e3
    cases hv3
    exact ⟨rfl,Res.mk (.ref _) R3 q3⟩
end Mine
namespace Mine
open PySem PySem.W PyProof.Rows
variable {W:Wd} {G:GEnv} {A:Around} {h₀:HB} {env:Env} {c:Cx} {names:List Str} {H:AH} {ρ:Loc} {s:Shared} {E:Value → Shared → Prop} {n:Nat} {Q:Post} {Er:EP}
noncomputable def biIs (x:Str) (b:BI):Prop := x ∈ biNames ∧ bootBuiltins x = some (biVal b) ∧ x ≠ "__name__" ∧ (x == ("__debug__":Str)) = false
theorem bi_all:∀ p ∈ biTab,biIs p.1 p.2.2 ∧ (directBI p.2.2 = true ∨ p.2.2 = .str ∨ p.2.2 = .int) :=
  List.forall_mem_cons.mpr ⟨⟨⟨by decide,by kernel_rfl,by decide,by decide⟩,by decide⟩,List.forall_mem_cons.mpr ⟨⟨⟨by decide,by kernel_rfl,by decide,by decide⟩,by decide⟩,List.forall_mem_cons.mpr ⟨⟨⟨by decide,by kernel_rfl,by decide,by decide⟩,by decide⟩,List.forall_mem_cons.mpr ⟨⟨⟨by decide,by kernel_rfl,by decide,by decide⟩,by decide⟩,List.forall_mem_cons.mpr ⟨⟨⟨by decide,by kernel_rfl,by decide,by decide⟩,by decide⟩,List.forall_mem_cons.mpr ⟨⟨⟨by decide,by kernel_rfl,by decide,by decide⟩,by decide⟩,List.forall_mem_cons.mpr ⟨⟨⟨by decide,by kernel_rfl,by decide,by decide⟩,by decide⟩,List.forall_mem_cons.mpr ⟨⟨⟨by decide,by kernel_rfl,by decide,by decide⟩,by decide⟩,List.forall_mem_cons.mpr ⟨⟨⟨by decide,by kernel_rfl,by decide,by decide⟩,by decide⟩,List.forall_mem_cons.mpr ⟨⟨⟨by decide,by kernel_rfl,by decide,by decide⟩,by decide⟩,nofun⟩⟩⟩⟩⟩⟩⟩⟩⟩⟩
theorem bi_facts {x:Str} {k:Nat} {b:BI} (h:biOf x k = some b):biIs x b ∧ (directBI b = true ∨ b = .str ∨ b = .int) := bi_all (x,(k,b)) (tab2_mem h)
theorem ev_bi (g:Gnd W G) (Y:EnvOk W env c h₀) (R:Rel W h₀ env names H ρ s) {x:Str} {p pos:Pos} {v:Value} {es:List Expr} {Q:Value → Shared → Prop} (hv:(∃ i,v = .builtin i) ∨ ∃ i,v = .type i) (hg:c.global x = true) (hd:(x == ("__debug__":Str)) = false) (hx:x ∈ biNames)
    (hb:bootBuiltins x = some v) (hnm:x ≠ "__name__") (hn:NS es) (h:wpAny W.M A (evalArgs v true (backTo pos (starEach es env)) []) (fun a s₁=>wpAny W.M A (call v a.pos a.kw) Q E s₁) E s) :
    wpAny W.M A (eval (.Call (.Name x p) es [] pos) env) Q E s := by
  refine Call_ (ev_builtin g Y R hg hd hx hb hnm ?_)
  rcases hv with ⟨i,rfl⟩ | ⟨i,rfl⟩
  · exact Calls.callWith_builtin hn.plain h
  · exact PySem.callWith_type hn.plain h
theorem se_bi (g:Gnd W G) (hf:c.hnd = false) {b:BI} {x:Str} {p pos:Pos} {es:List Expr} {xs:List X} (hb:biOf x es.length = some b) (hg:c.global x = true) (hs:SEs W G n c es xs) (hn:NS es) :
    SE W G n c (.Call (.Name x p) es [] pos) (.bi b xs) := by
  intro A env h₀ H ρ s Q E ok Y R q
  simp only [Jb,Jc,Jd,Je,Jf,Jg,Jh,Ji,Jj,Jk,Jl,Jm,Jn,Jo,Jp,Jq,e_lm,Jr,Js,Jt,Ju,Jv,e_meth,e_mk,e_comp,e_compIf,Jw,Jx,e_glob0,e_fnv,e_callv,e_dict] at q
  refine by_c fun no=>?_
  obtain ⟨⟨h1,h2,h3,h4⟩,hd⟩ := bi_facts hb
  refine no ?_;clear no
  refine ev_bi g Y R ?_ hg h4 h1 h2 h3 hn (ev_args hs hn ok Y R q fun as us H' s' hv R' q'=>?_)
  · cases b <;> first | exact .inl ⟨_,rfl⟩ | exact .inr ⟨_,rfl⟩ | (rcases hd with hd | hd | hd <;> cases hd)
  · rcases hd with hd | rfl | rfl
    · exact sound_biOp ok hf Y R' hd hv q'
    · exact q'.elim
    · exact q'.elim
theorem ty_cases {x:Str} {t:Ty} (h:tyOf x = some t) (hp:plainTy t = true):(x = "int" ∧ t = .int) ∨ (x = "bool" ∧ t = .bool) ∨ (x = "list" ∧ t = .list) ∨ (x = "tuple" ∧ t = .tuple) ∨ (x = "str" ∧ t = .str) :=
  (by decide:∀ p ∈ tyOfTab,plainTy p.2 = true → (p.1 = "int" ∧ p.2 = .int) ∨ (p.1 = "bool" ∧ p.2 = .bool) ∨ (p.1 = "list" ∧ p.2 = .list) ∨ (p.1 = "tuple" ∧ p.2 = .tuple) ∨ (p.1 = "str" ∧ p.2 = .str)) (x,t) (tab_mem h) hp
theorem ty_facts {x:Str} {t:Ty} (h:tyOf x = some t) (hp:plainTy t = true):x ∈ biNames ∧ bootBuiltins x = some (tyVal W t) ∧ x ≠ "__name__" ∧ (x == ("__debug__":Str)) = false := by
  rcases ty_cases h hp with ⟨rfl,rfl⟩ | ⟨rfl,rfl⟩ | ⟨rfl,rfl⟩ | ⟨rfl,rfl⟩ | ⟨rfl,rfl⟩ <;> exact ⟨by decide,by kernel_rfl,by decide,by decide⟩
theorem ev_ty (g:Gnd W G) (Y:EnvOk W env c h₀) (R:Rel W h₀ env names H ρ s) {t:Ty} {tn:Str} {tp:Pos} (ht:tyOf tn = some t) (hp:plainTy t = true) (hgt:c.global tn = true) {Q:Value → Shared → Prop} (h:Q (tyVal W t) s):wpAny W.M A (eval (.Name tn tp) env) Q E s := by
  obtain ⟨t1,t2,t3,t4⟩ := ty_facts (W := W) ht hp
  exact ev_builtin g Y R hgt t4 t1 t2 t3 h
theorem se_isinst (g:Gnd W G) {t:Ty} {tn:Str} {p tp pos:Pos} {e:Expr} {x:X} (ht:tyOf tn = some t) (hg:c.global "isinstance" = true) (hgt:c.global tn = true) (h:SE W G n c e x) (hn:∀ v p,e ≠ .Starred v p) :
    SE W G n c (.Call (.Name "isinstance" p) [e,.Name tn tp] [] pos) (.bi (.isinst t) [x]) := by
  intro A env h₀ H ρ s Q E ok Y R q
  simp only [Jb,Jc,Jd,Je,Jf,Jg,Jh,Ji,Jj,Jk,Jl,Jm,Jn,Jo,Jp,Jq,e_lm,Jr,Js,Jt,Ju,Jv,e_meth,e_mk,e_comp,e_compIf,Jw,Jx,e_glob0,e_fnv,e_callv,e_dict] at q
  refine ev_bi g Y R (.inl ⟨"isinstance",rfl⟩) hg (by decide) (by decide) (by kernel_rfl) (by decide) ?_ ?_
  · intro e' he' v p' q'
    rcases List.mem_cons.mp he' with rfl | he'
    · exact hn _ _ q'
    · rcases List.mem_cons.mp he' with rfl | he'
      · cases q'
      · cases he'
  · rw [notStar_eval hn,notStar_eval (fun _ _ q=>by cases q)]
    refine Calls.evalArgs_plain (Calls.spliced_cons (wpAny_mono (h ok Y R q) (fun u s' r=>?_) fun _ _ e=>e))
    obtain ⟨a,H',hv,R',q'⟩ := r
    obtain ⟨hp,q'⟩ := q'
    refine Calls.spliced_cons (ev_ty g Y R' ht hp hgt (Calls.spliced_nil ?_))
    split at q'
    · rename_i r e
      exact sound_isInst R' hp hv e q'
    · exact q'.elim
theorem se_isVE (g:Gnd W G) {p tp pos:Pos} {e:Expr} {x:X} (hg:c.global "isinstance" = true) (hgt:c.global "ValueError" = true) (h:SE W G n c e x) (hn:∀ v p,e ≠ .Starred v p) :
    SE W G n c (.Call (.Name "isinstance" p) [e,.Name "ValueError" tp] [] pos) (.isVE x) := by
  intro A env h₀ H ρ s Q E ok Y R q
  rw [e_isVE] at q
  exact False.elim q
theorem rangeVals {a:Int} {k:Nat} {ys:List Value} (h:CarriedAll ys ((rangeInts a 1 k).map .int)):VRs W ((List.range k).map fun (i:Nat)=>V.int (a + i)) ys := by
  have:(List.range k).map (fun (i:Nat)=>V.int (a + i)) = (rangeInts a 1 k).map V.int := by
    simp [rangeInts,Function.comp_def]
  rw [this]
  generalize rangeInts a 1 k = l at h
  induction l generalizing ys with
  | nil=>cases h; exact .nil
  | cons i l ih =>
    cases h with
    | cons h t=>cases h; exact .cons (.int _ _) (ih t)
end Mine
namespace Mine
open PySem PySem.W PyProof.Rows
variable {W:Wd} {G:GEnv} {A:Around} {h₀:HB} {env:Env} {c:Cx} {names:List Str} {H H':AH} {ρ ρ':Loc} {s s':Shared} {E:Value → Shared → Prop} {n:Nat} {Q:Post} {Er:EP}
noncomputable def protL (env:Env) (H:AH) (k:Nat):List Addr := (List.range k).filter fun a=>(H a).isSome || a == env.locals || env.cells.any fun p=>p.2 == a
noncomputable def prot (env:Env) (fs:List Addr) (H:AH) (h:Heap):HB := ⟨hideAll h (protL env H h.objs.size),fs⟩
theorem mem_protL {k:Nat} {a:Addr}:a ∈ protL env H k ↔ a < k ∧ ((∃ o,H a = some o) ∨ a = env.locals ∨ ∃ p ∈ env.cells,p.2 = a) := by
  unfold protL
  rw [List.mem_filter,List.mem_range]
  simp only [Bool.or_eq_true,beq_iff_eq,List.any_eq_true,or_assoc,Option.isSome_iff_exists]
theorem prot_get {fs:List Addr} {h:Heap} {a:Addr} {o:Obj} (e:h.get? a = some o) (h1:H a = none) (h2:a ≠ env.locals) (h3:∀ p ∈ env.cells,p.2 ≠ a):(prot env fs H h).get? a = some o :=
  hideAll_get _ e fun q=>by
    rcases (mem_protL.mp q).2 with ⟨o,e⟩ | e | ⟨p,hp,e⟩
    · rw [h1] at e; cases e
    · exact h2 e
    · exact h3 p hp e
theorem prot_of {fs:List Addr} {h:Heap} {a:Addr} {o:Obj} (e:(prot env fs H h).get? a = some o):h.get? a = some o := of_hideAll _ e
theorem prot_none {fs:List Addr} {h:Heap} {a:Addr} (hx:(∃ o,H a = some o) ∨ a = env.locals ∨ ∃ p ∈ env.cells,p.2 = a):(prot env fs H h).get? a = none := by
  cases q:(prot env fs H h).get? a with
  | none=>rfl
  | some o =>
    have := hideAll_none (h := h) _ (mem_protL.mpr ⟨Heap.lt_size (prot_of q),hx⟩)
    replace q:(hideAll h (protL env H h.objs.size)).get? a = some o := q
    rw [this] at q; cases q
theorem lookup_mem {cs:List (Str × Addr)} {x:Str} {a:Addr} (h:cs.lookup x = some a):∃ p ∈ cs,p.2 = a := by
  induction cs with
  | nil=>cases h
  | cons p r ih =>
    obtain ⟨y,b⟩ := p
    rw [List.lookup_cons] at h
    split at h
    · cases h; exact ⟨_,.head _,rfl⟩
    · obtain ⟨p,h1,h2⟩ := ih h; exact ⟨p,.tail _ h1,h2⟩
theorem Rel.prot (R:Rel W h₀ env names H ρ s):Rel W (prot env h₀.fs H s.heap) env names H ρ s where
  ns := R.ns
  cell := R.cell
  keep := .of fun _ _ e=>prot_of e
  objs := R.objs
  sep := fun a o e=>⟨prot_none (.inl ⟨o,e⟩),(R.sep a o e).2⟩
  gens := R.gens
  os := R.os
  above := R.above
  low := R.low
theorem Rel.in_prot (R:Rel W h₀ env names H ρ s) (Y:EnvOk W env c h₀):Kept W h₀ (Mine.prot env h₀.fs H s.heap).h := fun b o e =>
  let ⟨o',e1,z⟩ := R.keep b o e; ⟨o',prot_get e1 (by cases q:H b with
    | none=>rfl
    | some x=>rw [(R.sep b x q).1] at e; cases e) (fun q=>by rw [q,Y.new] at e; cases e) (fun p hp q=>by have := Y.newc p hp; rw [q,e] at this; cases this),z⟩
theorem EnvOk.prot (Y:EnvOk W env c h₀) (R:Rel W h₀ env names H ρ s):EnvOk W env c (Mine.prot env h₀.fs H s.heap) where
  kind := Y.kind
  globals := Y.globals
  builtins := Y.builtins
  kinds := Y.kinds
  frees := Y.frees
  cells := Y.cells
  apart := Y.apart
  inj := Y.inj
  base := fun b o e=>prot_get (R.keepB Y b o e)
    (by cases q:H b with
        | none=>rfl
        | some x=>have := (R.sep b x q).1; rw [Y.base b o e] at this; cases this)
    (fun q=>absurd (Heap.lt_size e) (Nat.not_lt.mpr (q ▸ R.above)))
    (fun p hp q=>by have := Y.newc p hp; rw [q,Y.base b o e] at this; cases this)
  new := prot_none (.inr (.inl rfl))
  fsok := fun L m q=>Y.fsok L m ((R.in_prot Y).none q)
  fsd := fun L m=>⟨(Y.fsd L m).1,fun o e=>by obtain ⟨o',e1,z⟩ := R.fsd Y m; rw [prot_of e] at e1; cases e1; exact z⟩
  newc := fun p hp=>prot_none (.inr (.inr ⟨p,hp,rfl⟩))
  look := Y.look
  lo := Y.lo
theorem Rel.sub (R:Rel W h₀ env names H ρ s) {h₁:HB} (k:Kept W h₁ h₀.h) (hf:∀ b o,h₁.get? b = some o → b ∈ h₀.fs → b ∈ h₁.fs):Rel W h₁ env names H ρ s where
  ns := R.ns
  cell := R.cell
  keep := k.trans hf R.keep
  objs := R.objs
  sep := fun a o e=>by
    exact ⟨k.none (R.sep a o e).1,(R.sep a o e).2⟩
  gens := R.gens
  os := R.os
  above := R.above
  low := R.low
theorem Rel.unprot (R:Rel W h₀ env names H ρ s) (Y:EnvOk W env c h₀) {names':List Str} (R':Rel W (Mine.prot env h₀.fs H s.heap) env names' H' ρ' s'):Rel W h₀ env names' H' ρ' s' := R'.sub (R.in_prot Y) fun _ _ _ m=>m
theorem AOk.prot (ok:AOk A c h₀ env Er n):AOk A c (Mine.prot env h₀.fs H s.heap) env Er n := ⟨ok.handled,ok.room,ok.units,ok.stk,ok.top,ok.noE⟩
theorem EM.unprot (R:Rel W h₀ env names H ρ s) (Y:EnvOk W env c h₀) {names':List Str} {v:Value} (x:EM W (Mine.prot env h₀.fs H s.heap) env names' ρ' Er v s'):EM W h₀ env names' ρ' Er v s' := False.elim x
theorem stays {a:Addr} {o:Obj} (e:s.heap.get? a = some o) (h1:H a = none) (h2:a ≠ env.locals) (h3:∀ p ∈ env.cells,p.2 ≠ a) (hx:a ∉ h₀.fs) {names':List Str} (R':Rel W (Mine.prot env h₀.fs H s.heap) env names' H' ρ' s'):s'.heap.get? a = some o :=
  R'.keep.exact (prot_get e h1 h2 h3) (.inl hx)
/-! objects made by displays -/
theorem se_list {es:List Expr} {xs:List X} {p:Pos} (hs:SEs W G n c es xs) (hl:es.length < 100):SE W G n c (.List es p) (.list xs) := by
  intro A env h₀ H ρ s Q E ok Y R q
  simp only [Jb,Jc,Jd,Je,Jf,Jg,Jh,Ji,Jj,Jk,Jl,Jm,Jn,Jo,Jp,Jq,e_lm,Jr,Js,Jt,Ju,Jv,e_meth,e_mk,e_comp,e_compIf,Jw,Jx,e_glob0,e_fnv,e_callv,e_dict] at q
  refine List_ (wpAny_mono (hs ok Y R q) (fun us s' r=>?_) fun _ _ e=>e)
  obtain ⟨as,H',hv,hl',R',q'⟩ := r
  exact wpAny_newList (Res.mk (.ref _) (R'.push (.list hv (by simp only [big]; (first | lia | omega))) rfl _) (q' _ R'.fresh)) (hsz := by rw [← hv.length]; simp only [sizeLine]; (first | lia | omega))
theorem se_tuple {es:List Expr} {xs:List X} {k:Nat} {p:Pos} (hs:SEs W G n c es xs) (hl:es.length < 100):SE W G n c (.Tuple es k p) (.tuple xs) := by
  intro A env h₀ H ρ s Q E ok Y R q
  simp only [Jb,Jc,Jd,Je,Jf,Jg,Jh,Ji,Jj,Jk,Jl,Jm,Jn,Jo,Jp,Jq,e_lm,Jr,Js,Jt,Ju,Jv,e_meth,e_mk,e_comp,e_compIf,Jw,Jx,e_glob0,e_fnv,e_callv,e_dict] at q
  refine Tuple_ (wpAny_mono (hs ok Y R q) (fun us s' r=>?_) fun _ _ e=>e)
  refine by_c fun no=>?_
  obtain ⟨as,H',hv,hl',R',q'⟩ := r
  refine no ?_;clear no
  exact wpAny_newTuple (Res.mk (.ref _) (R'.push (.tuple hv (by simp only [big]; (first | lia | omega))) rfl _) (q' _ R'.fresh)) (hsz := by rw [← hv.length]; simp only [sizeLine]; (first | lia | omega))
theorem se_attr (g:Gnd W G) {o:Expr} {x:X} {a:Att} {an:Str} {p:Pos} (hb:okBase o = true) (ha:attOf an = some a) (h:SE W G n c o x):SE W G n c (.Attribute o an p) (.attr x a) := by
  intro A env h₀ H ρ s Q E ok Y R q
  simp only [Jb,Jc,Jd,Je,Jf,Jg,Jh,Ji,Jj,Jk,Jl,Jm,Jn,Jo,Jp,Jq,e_lm,Jr,Js,Jt,Ju,Jv,e_meth,e_mk,e_comp,e_compIf,Jw,Jx,e_glob0,e_fnv,e_callv,e_dict] at q
  have hname:an = attName a := by
    delta attOf at ha
    repeat' split at ha
    all_goals first
      | (rename_i z; simp only [beq_iff_eq] at z; cases ha; exact z)
      | cases ha
  subst hname
  refine Attribute_any_ (wpAny_mono (h ok Y R q) (fun v s' r=>?_) fun _ _ e=>e) (by rw [arm_eval_Attribute,base_ok hb])
  obtain ⟨ov,H',hv,R',q'⟩ := r
  exact sound_getAttr Y g.X g.inst R' hv q'
theorem sub_type (Y:EnvOk W env c h₀) (R:Rel W h₀ env names H ρ s) {a b:V} {u:Value} (hu:VR W a u) (q:subOp a b H Q):(Ex2 fun T id=>s.TypeIs u T ∧ typeLookup (.type T) "__getitem__" = pure (some (.builtin id))) := by
  delta subOp at q
  split at q
  · rename_i a k
    cases hu
    split at q
    · rename_i xs e
      obtain ⟨l,h,_⟩ := R.isList e
      exact ⟨_,_,h.typeIs,slot_list_getitem.lookup⟩
    · rename_i xs e
      obtain ⟨l,h,_⟩ := R.isTup e
      exact ⟨_,_,h.typeIs,slot_tuple_getitem.lookup⟩
    · rename_i xs e
      obtain ⟨l,h,_⟩ := R.isDict e
      exact ⟨_,_,h.typeIs,slot_dict_getitem.lookup⟩
    · exact q.elim
  · cases hu
    obtain ⟨l,h,_⟩ := R.script Y
    exact ⟨_,_,h.typeIs,slot_list_getitem.lookup⟩
  · exact q.elim
noncomputable def notSlice:Expr → Bool
  | .Slice ..=>false
  | _=>true
theorem subscripted_plain {e:Expr} (h:notSlice e = true) (o i:Value):subscripted e false o i = operate [o,i] (getItem o i) := by
  cases e <;> first | rfl | cases h
theorem se_sub {o i:Expr} {x y:X} {p:Pos} (hi:notSlice i = true) (h:SE W G n c o x) (h2:SE W G n c i y):SE W G n c (.Subscript o i p) (.sub x y) := by
  intro A env h₀ H ρ s Q E ok Y R q
  simp only [Jb,Jc,Jd,Je,Jf,Jg,Jh,Ji,Jj,Jk,Jl,Jm,Jn,Jo,Jp,Jq,e_lm,Jr,Js,Jt,Ju,Jv,e_meth,e_mk,e_comp,e_compIf,Jw,Jx,e_glob0,e_fnv,e_callv,e_dict] at q
  refine Subscript_ (wpAny_mono (h ok Y R q) (fun v s' r=>?_) fun _ _ e=>e)
  obtain ⟨a,H',hv,R',q'⟩ := r
  refine wpAny_mono (h2 ok Y R' q') (fun v2 s2 r=>?_) fun _ _ e=>e
  obtain ⟨b,H2,hv2,R2,q2⟩ := r
  obtain ⟨T,id,t1,t2⟩ := sub_type Y R2 hv q2
  exact tail_any t1 t2 (sound_subOp Y R2 hv hv2 q2) (subscripted_plain hi _ _)
noncomputable def SO (W:Wd) (G:GEnv) (n:Nat) (c:Cx) (e:Option Expr) (x:X):Prop :=
  ∀ {A:Around} {env:Env} {h₀:HB} {H:AH} {ρ:Loc} {s:Shared} {Q:Post} {E:EP},AOk A c h₀ env E n → EnvOk W env c h₀ → Rel W h₀ env c.names H ρ s → wpE G (callN G n) x ρ H Q E →
    wpAny W.M A (valueOrNone (evalOpt e env)) (Res W h₀ env c.names ρ Q) (EM W h₀ env c.names ρ E) s
theorem so_none:SO W G n c none .omit := by
  intro A env h₀ H ρ s Q E ok Y R q
  exact wpAny_pure (Res.mk .none R q)
theorem so_some {e:Expr} {x:X} (h:SE W G n c e x):SO W G n c (some e) x := by
  intro A env h₀ H ρ s Q E ok Y R q
  exact h ok Y R q
theorem slice_type (R:Rel W h₀ env names H ρ s) {a l u st:V} {v:Value} (hu:VR W a v) (q:sliceOp a l u st H Q):s.TypeIs v "list" := by
  delta sliceOp at q
  split at q
  · cases hu
    split at q
    · rename_i xs e
      obtain ⟨l,h,_⟩ := R.isList e
      exact h.typeIs
    · exact q.elim
  · exact q.elim
theorem subscripted_slice (l u st:Option Expr) (p:Pos) (o i:Value):∃ ops,subscripted (.Slice l u st p) false o i = operate ops (getItem o i) := by
  cases st
  · exact ⟨[i,o],rfl⟩
  · exact ⟨[o,i],rfl⟩
theorem se_slice {o:Expr} {l u st:Option Expr} {x xl xu xs:X} {p p2:Pos} (h:SE W G n c o x) (hl:SO W G n c l xl) (hu:SO W G n c u xu) (hs:SO W G n c st xs):SE W G n c (.Subscript o (.Slice l u st p2) p) (.slice x xl xu xs) := by
  intro A env h₀ H ρ s Q E ok Y R q
  simp only [Jb,Jc,Jd,Je,Jf,Jg,Jh,Ji,Jj,Jk,Jl,Jm,Jn,Jo,Jp,Jq,e_lm,Jr,Js,Jt,Ju,Jv,e_meth,e_mk,e_comp,e_compIf,Jw,Jx,e_glob0,e_fnv,e_callv,e_dict] at q
  refine Subscript_ (wpAny_mono (h ok Y R q) (fun v s' r=>?_) fun _ _ e=>e)
  refine by_c fun no=>?_
  obtain ⟨a,H',hv,R',q'⟩ := r
  refine no ?_;clear no
  rw [arm_eval_Slice]
  refine wpAny_bind (wpAny_mono (hl ok Y R' q') (fun v2 s2 r=>?_) fun _ _ e=>e)
  refine by_c fun no=>?_
  obtain ⟨b,H2,hv2,R2,q2⟩ := r
  refine no ?_;clear no
  refine wpAny_bind (wpAny_holding (wpAny_mono (hu ok Y R2 q2) (fun v3 s3 r=>?_) fun _ _ e=>e))
  refine by_c fun no=>?_
  obtain ⟨d,H3,hv3,R3,q3⟩ := r
  refine no ?_;clear no
  refine wpAny_bind (wpAny_holding (wpAny_mono (hs ok Y R3 q3) (fun v4 s4 r=>?_) fun _ _ e=>e))
  refine by_c fun no=>?_
  obtain ⟨f,H4,hv4,R4,q4⟩ := r
  refine no ?_;clear no
  refine fun _ _ _=>?_
  have R5 := R4.pushHid { cls := .type "slice",data := .fields #[v2,v3,v4] } s4.toks
  obtain ⟨ops,e⟩ := subscripted_slice l u st p2 v (.ref s4.heap.objs.size)
  exact tail_any (E := EM W h₀ env c.names ρ E) (slice_type R5 hv q4) slot_list_getitem.lookup (sound_sliceOp Y R5 hv hv2 hv3 hv4 ⟨_,Heap.get?_push_size _ rfl,rfl,rfl⟩ q4) e
theorem se_dict0 {p:Pos}:SE W G n c (.Dict [] [] p) (.dict [] []) := by
  intro A env h₀ H ρ s Q E ok Y R q
  simp only [Jb,Jc,Jd,Je,Jf,Jg,Jh,Ji,Jj,Jk,Jl,Jm,Jn,Jo,Jp,Jq,e_lm,Jr,Js,Jt,Ju,Jv,e_meth,e_mk,e_comp,e_compIf,Jw,Jx,e_glob0,e_fnv,e_callv,e_dict] at q
  obtain ⟨m,F⟩ := R.kitF Y
  refine Dict_empty_made (intKind W.prog W.w) PyData.int F kitN Y.lo fun h' o F' N' hm hd hf hne=>?_
  have z := kit_new (t := s.toks) R Y F F' N' (Nat.le_refl _) (OR.dict (W := W) .nil (by simp) hd)
  exact Res.mk (.ref _) z.2 (q _ z.1)
theorem cells_old (Y:EnvOk W env c h₀) (R:Rel W h₀ env names H ρ s) {a:Addr} (hn:s.heap.get? a = none):∀ p ∈ env.cells,p.2 ≠ a := fun p hp q=>by
  obtain ⟨w,⟨o,h,_⟩,_⟩ := R.cell p.1 p.2 (Y.look p hp)
  rw [q,hn] at h; cases h
theorem Rel.swap (R:Rel W h₀ env names H ρ s) {h':Heap} {a:Addr} (t:Nat) (k:Heap.SameBut a s.heap h') (h1:H a = none) (h2:h₀.get? a = none) (h3:a ≠ env.locals) (h4:∀ x,env.cells.lookup x ≠ some a):Rel W h₀ env names H ρ { s with heap := h',toks := t } where
  ns := let ⟨m,x,b⟩ := R.ns; ⟨m,x.sameBut k (Ne.symm h3),b⟩
  cell := fun x b e=>let ⟨w,⟨o,ho,hd⟩,r⟩ := R.cell x b e; ⟨w,⟨o,(k.2 b fun q=>h4 x (q ▸ e)).trans ho,hd⟩,r⟩
  keep := fun b o e=>let ⟨o',e1,z⟩ := R.keep b o e; ⟨o',(k.2 b fun q=>by rw [q,h2] at e; cases e).trans e1,z⟩
  objs := fun b o e=>let ⟨ob,g1,g2⟩ := R.objs b o e; ⟨ob,(k.2 b fun q=>by rw [q,h1] at e; cases e).trans g1,g2⟩
  sep := R.sep
  gens := R.gens
  os := R.os
  above := R.above
  low := R.low
end Mine
namespace Mine
open PySem PySem.W PyProof.Rows
variable {W:Wd} {G:GEnv} {A:Around} {h₀:HB} {env:Env} {c:Cx} {names:List Str} {H H':AH} {ρ ρ':Loc} {s s':Shared} {E:Value → Shared → Prop} {n:Nat} {Q:Post} {Er:EP}
theorem ns1 {e:Expr} (h:∀ v p,e ≠ .Starred v p):NS [e] := fun e' he' v p' q'=>by
  rcases List.mem_cons.mp he' with rfl | he'
  · exact h _ _ q'
  · cases he'
theorem list_of_range (ok:AOk A c h₀ env Er n) (hf:c.hnd = false) (Y:EnvOk W env c h₀) (R:Rel W h₀ env names H ρ s) {r:Addr} {a b:Int} {t u v:Tok} (hr:IsRange s.heap r a b 1 t u v) (h1:0 ≤ a) (h2:a ≤ big) (h3:-(big:Int) ≤ b) (h4:b ≤ big)
    (q:alloc (.list ((List.range (b - a).toNat).map fun (i:Nat)=>V.int (a + i))) H Q):wpAny W.M A (call (.type "list") [.ref r]) (Res W h₀ env names ρ Q) E s := by
  obtain ⟨m,F⟩ := R.kitF Y
  have b1:big = 1048576 := rfl
  refine list_rangeD (ok.handled hf) F kitN hr (small_one (by (first | lia | omega)) (by (first | lia | omega)) (by (first | lia | omega)) (by (first | lia | omega))) (rangeSize_nat a b) (by (first | lia | omega)) fun h' tk ys F' N' hk hn hl hp hc=>?_
  obtain ⟨⟨k,e⟩,_⟩ := hp
  have R' := R.put (h' := h') (a := s.heap.objs.size) (o := .list ((List.range (b - a).toNat).map fun (i:Nat)=>V.int (a + i))) tk hk e (.list (rangeVals hc) (by simp; (first | lia | omega))) (none_size _) fun _ _=>R.up
  exact Res.mk (.ref _) R' (q _ R.fresh)
theorem se_listRange (g:Gnd W G) (hf:c.hnd = false) {p rp pos pos':Pos} {es:List Expr} {xs:List X} (hg:c.global "list" = true) (hgr:c.global "range" = true) (hs:SEs W G n c es xs) (hn:NS es) :
    SE W G n c (.Call (.Name "list" p) [.Call (.Name "range" rp) es [] pos'] [] pos) (.bi .listRange xs) := by
  intro A env h₀ H ρ s Q E ok Y R q
  simp only [Jb,Jc,Jd,Je,Jf,Jg,Jh,Ji,Jj,Jk,Jl,Jm,Jn,Jo,Jp,Jq,e_lm,Jr,Js,Jt,Ju,Jv,e_meth,e_mk,e_comp,e_compIf,Jw,Jx,e_glob0,e_fnv,e_callv,e_dict] at q
  refine ev_bi g Y R (.inr ⟨"list",rfl⟩) hg (by decide) (by decide) (by kernel_rfl) (by decide) (ns1 fun _ _ q=>by cases q) ?_
  rw [notStar_eval (fun _ _ q=>by cases q)]
  refine Calls.evalArgs_plain (Calls.spliced_cons ?_)
  refine ev_bi g Y R (.inr ⟨"range",rfl⟩) hgr (by decide) (by decide) (by kernel_rfl) (by decide) hn (ev_args hs hn ok Y R q fun as us H' s' hv R' q'=>?_)
  replace q':lrOp as H' Q := q'
  delta lrOp at q'
  have b1:big = 1048576 := rfl
  split at q'
  · obtain ⟨u,rfl,hu⟩ := vrs1 hv
    cases hu
    rename_i k t
    refine call_range_1 (Calls.spliced_nil ?_)
    have R2 := R'.pushHid { cls := .type "range",data := .fields #[.int 0 s'.toks,.int k t,.int 1 (s'.toks + 1)] } (s'.toks + 1 + 1)
    refine list_of_range (a := 0) (b := k) ok hf Y R2 (Heap.get?_push_size _ rfl) (by (first | lia | omega)) (by (first | lia | omega)) q'.1.1 q'.1.2 ?_
    simpa using q'.2
  · obtain ⟨u,u2,rfl,hu,hu2⟩ := vrs2 hv
    cases hu; cases hu2
    rename_i m k t t2
    refine call_range_2 (Calls.spliced_nil ?_)
    have R2 := R'.pushHid { cls := .type "range",data := .fields #[.int m t,.int k t2,.int 1 s'.toks] } (s'.toks + 1)
    have := q'.1
    exact list_of_range (a := m) (b := k) ok hf Y R2 (Heap.get?_push_size _ rfl) (by (first | lia | omega)) (by (first | lia | omega)) (by (first | lia | omega)) (by (first | lia | omega)) q'.2
  · exact q'.elim
noncomputable def lmName:LM → Str
  | .append=>"append" | .clear=>"clear" | .count=>"count" | .extend=>"extend" | .index=>"index" | .remove=>"remove" | .reverse=>"reverse" | .setdefault=>"setdefault" | .split=>"split" | .join=>"join"
theorem lm_name {x:Str} {m:LM} (h:lmOf x = some m):x = lmName m :=
  (by decide:∀ p ∈ lmOfTab,p.1 = lmName p.2) (x,m) (tab_mem h)
theorem lm_slot (R:Rel W h₀ env names H ρ s) {m:LM} {o:V} {u:Value} (hv:VR W o u) (hk:lmKind m o H) :
    (Ex1 fun T=>An5 (PlainAttrs T) (Slot T (lmName m) (lmId m)) (typeOf (.builtin (lmId m)) = pure (.type "method_descriptor")) (s.TypeIs u T) ((∀ a,u = .ref a → ∃ ob,s.heap.get? a = some ob ∧ ob.dict = none))):= by
  delta lmKind at hk
  split at hk
  · rename_i a
    cases hv
    split at hk
    · exact hk.elim
    · exact hk.elim
    · exact hk.elim
    · rename_i m' _ _ xs e h1 h2 h3
      refine by_c fun no=>?_
      obtain ⟨l,nn,g1,_⟩ := R.lst e
      refine no ?_;clear no
      have hd:∀ b,Value.ref a = .ref b → ∃ ob,s.heap.get? b = some ob ∧ ob.dict = none := fun b q=>by cases q; exact ⟨_,g1,rfl⟩
      have ht:s.TypeIs (.ref a) "list" := by obtain ⟨l,h,_⟩ := R.isList e; exact h.typeIs
      cases m' with
      | append=>exact ⟨"list",F.plainAttrs_list,F.slot_list_append,F.type_list_append,ht,hd⟩
      | clear=>exact ⟨"list",F.plainAttrs_list,F.slot_list_clear,F.type_list_clear,ht,hd⟩
      | count=>exact ⟨"list",F.plainAttrs_list,F.slot_list_count,F.type_list_count,ht,hd⟩
      | extend=>exact ⟨"list",F.plainAttrs_list,F.slot_list_extend,F.type_list_extend,ht,hd⟩
      | index=>exact ⟨"list",F.plainAttrs_list,F.slot_list_index,F.type_list_index,ht,hd⟩
      | remove=>exact ⟨"list",F.plainAttrs_list,F.slot_list_remove,F.type_list_remove,ht,hd⟩
      | reverse=>exact ⟨"list",F.plainAttrs_list,F.slot_list_reverse,F.type_list_reverse,ht,hd⟩
      | setdefault=>exact (h1 rfl).elim
      | split=>exact (h2 rfl).elim
      | join=>exact (h3 rfl).elim
    · rename_i es e
      refine by_c fun no=>?_
      obtain ⟨kvs,g1,_⟩ := R.isDict e
      refine no ?_;clear no
      have ht := g1.typeIs
      refine by_c fun no=>?_
      obtain ⟨o,es,ep,g2,g3,_⟩ := g1
      refine no ?_;clear no
      exact ⟨"dict",F.plainAttrs_dict,F.slot_dict_setdefault,F.type_dict_setdefault,ht,fun b q=>by cases q; exact ⟨_,g2,g3.2.1⟩⟩
    · exact hk.elim
  · exact hk.elim
theorem se_lm {o:Expr} {m:LM} {x:Str} {ap pos:Pos} {y:X} {es:List Expr} {xs:List X} (hb:okBase o = true) (hl:(ap.endLine == pos.line) = true) (hfew:es.length < 3) (hm:lmOf x = some m) (h:SE W G n c o y) (hs:SEs W G n c es xs) (hn:NS es) :
    SE W G n c (.Call (.Attribute o x ap) es [] pos) (.lm m y xs) := by
  intro A env h₀ H ρ s Q E ok Y R q
  simp only [Jb,Jc,Jd,Je,Jf,Jg,Jh,Ji,Jj,Jk,Jl,Jm,Jn,Jo,Jp,Jq,e_lm,Jr,Js,Jt,Ju,Jv,e_meth,e_mk,e_comp,e_compIf,Jw,Jx,e_glob0,e_fnv,e_callv,e_dict] at q
  have hx := lm_name hm
  subst hx
  have hplain:(backTo pos (starEach es env)).all (fun x=>!x.1) = true := by
    have := hn.plain (pos := pos) (env := env)
    rw [List.any_eq_false] at this
    rw [List.all_eq_true]; intro x hx; simpa using this x hx
  have hform:((backTo pos (starEach es env)).all (fun x=>!x.1) && (backToKw pos (keywordEach [] env)).all (fun x=>x.1.isSome)
      && decide (es.length + ([]:List Keyword).length + (if ([]:List Keyword).isEmpty then 0 else 1) < 30)) = true := by
    rw [hplain]
    have:es.length + 0 + 0 < 30 := by (first | lia | omega)
    simpa [show backToKw pos (keywordEach [] env) = [] from rfl] using this
  refine wpAny_Call_method_late (base_ok hb) hform hl rfl (wpAny_mono (h ok Y R q) (fun ov s' r=>?_) fun _ _ e=>e)
  obtain ⟨a,H',hv,R',hk,q'⟩ := r
  obtain ⟨T,t1,t2,t3,t4,t5⟩ := lm_slot R' hv hk
  refine ⟨T,_,t1,t2,t3,t4,t5,Calls.callWith_builtin hn.plain (ev_args hs hn ok Y R' q' fun as us H' s' hv' R'' q''=>?_)⟩
  exact sound_lmOp ok Y R'' hv hv' q''
end Mine
namespace Mine
open PySem PySem.W PyProof.Rows
variable {W:Wd} {G:GEnv} {A:Around} {h₀:HB} {env:Env} {c:Cx} {names:List Str} {H H':AH} {ρ ρ':Loc} {s s':Shared} {E:Value → Shared → Prop} {n:Nat} {Q:Post} {Er:EP}
inductive ItR (W:Wd) (h:Heap):It → Value → Prop
  | v {a u}:VR W a u → ItR W h (.v a) u
  | pair {a b u1 u2 T}:h.IsTuple T #[u1,u2] → VR W a u1 → VR W b u2 → ItR W h (.pair a b) (.ref T)
theorem Rel.moveBut (R:Rel W h₀ env names H ρ s) {wr:List Addr} (hid:Hid h₀ env H wr) {h':Heap} (t:Nat) (k:∀ b o,b ∉ wr → s.heap.get? b = some o → h'.get? b = some o):Rel W h₀ env names H ρ { s with heap := h',toks := t } where
  ns := by
    refine by_c fun no=>?_
    obtain ⟨m,⟨o,es,ep,h1,h2⟩,b⟩ := R.ns
    refine no ?_;clear no
    exact ⟨m,⟨o,es,ep,k _ _ (fun q=>(hid _ q).2.2.1 rfl) h1,h2⟩,b⟩
  cell := fun x a e=>by
    refine by_c fun no=>?_
    obtain ⟨w,⟨o,ho,hd⟩,r⟩ := R.cell x a e
    refine no ?_;clear no
    refine by_c fun no=>?_
    obtain ⟨p,hp,hp2⟩ := lookup_mem e
    refine no ?_;clear no
    exact ⟨w,⟨o,k _ _ (fun q=>(hid _ q).2.2.2 p hp hp2) ho,hd⟩,r⟩
  keep := fun b o e=>let ⟨o',e1,z⟩ := R.keep b o e; ⟨o',k _ _ (fun q=>by have := (hid _ q).2.1; rw [e] at this; cases this) e1,z⟩
  objs := fun b o e=>by
    refine by_c fun no=>?_
    obtain ⟨ob,g1,g2⟩ := R.objs b o e
    refine no ?_;clear no
    exact ⟨ob,k _ _ (fun q=>by have := (hid _ q).1; rw [e] at this; cases this) g1,g2⟩
  sep := R.sep
  gens := R.gens
  os := R.os
  above := R.above
  low := R.low
structure Src (W:Wd) (A:Around) (target:Expr) (I:Addr) (hs:List Addr) (its:List It) (g:AH → Prop) (Obs:Nat → Heap → Prop):Prop where
  frame:∀ i h h',Obs i h → (∀ b ∈ hs,∀ o,h.get? b = some o → h'.get? b = some o) → Obs i h'
  live:∀ i h,Obs i h → ∀ b ∈ hs,∃ o,h.get? b = some o
  self:∀ {s:Shared} {Q:Value → Shared → Prop} {E:Value → Shared → Prop},Obs 0 s.heap → Q (.ref I) s → wpAny W.M A (pyIter (.ref I)) Q E s
  turn:∀ {h₀:HB} {env:Env} {c:Cx} {names:List Str} {H:AH} {ρ:Loc} {s:Shared} {i:Nat} {x:It} {E E':Value → Shared → Prop},EnvOk W env c h₀ → Rel W h₀ env names H ρ s → Hid h₀ env H hs → g H → Obs i s.heap → its[i]? = some x →
    wpAny W.M A (pyNext (.ref I)) (fun r s₁=>∃ v,r = some v ∧ wpAny W.M A (letOwnedTupleGo target (.ref I) v) (fun _ s₂=>Rel W h₀ env names H ρ s₂ ∧ Obs (i + 1) s₂.heap ∧ ItR W s₂.heap x v ∧ ∀ b o,b ∉ hs → s.heap.get? b = some o → s₂.heap.get? b = some o) E' s₁) E s
  done:∀ {h₀:HB} {env:Env} {c:Cx} {names:List Str} {H:AH} {ρ:Loc} {s:Shared} {E:Value → Shared → Prop},EnvOk W env c h₀ → Rel W h₀ env names H ρ s → Hid h₀ env H hs → g H → Obs its.length s.heap →
    wpAny W.M A (pyNext (.ref I)) (fun r s₁=>r = none ∧ Rel W h₀ env names H ρ s₁ ∧ ∀ b o,b ∉ hs → s.heap.get? b = some o → s₁.heap.get? b = some o) E s
noncomputable def ownedNames:List String := ["enumerate","zip","dict_itemiterator","dict_reverseitemiterator","odict_iterator","itertools.zip_longest","itertools.pairwise"]
theorem go_plain {target:Expr} {I:Addr} {v:Value} {o:Obj} {nm:String} {vs:Array Value} {Q:Unit → Shared → Prop} (ho:s.heap.get? I = some o) (hc:o.cls = .type nm) (hd:o.data = .fields vs) (hn:ownedNames.contains nm = false) (hQ:Q () s) :
    wpAny W.M A (letOwnedTupleGo target (.ref I) v) Q E s := by
  have key:∀ a:Addr,wpAny W.M A (do
      let o ← load I
      match o.cls,o.data with
      | .type n,.fields vs=>if ownedNames.contains n && vs[0]? == some (rawInt a) then do rule "for.unpacks-the-owned-tuple"; updateField I 0 .none
      | _,_=>pure ()) Q E s := by
    intro a
    refine wpAny_bind (wpAny_load ho ?_)
    rw [hc,hd]
    simp only [hn,Bool.false_and,Bool.false_eq_true,if_false]
    exact wpAny_pure hQ
  cases target <;> first | exact wpAny_pure hQ | (cases v <;> first | exact wpAny_pure hQ | exact key _)
theorem Hid.one (Y:EnvOk W env c h₀) (R:Rel W h₀ env names H ρ s) {a:Addr} (hn:s.heap.get? a = none) (hb:W.b₀.objs.size ≤ a):Hid h₀ env H [a] := fun b hb'=>by
  rcases List.mem_cons.mp hb' with rfl | h
  · obtain ⟨q1,q2,q3,q4,q5⟩ := R.new_sep hn hb
    exact ⟨q1,q2,q3,cells_old Y R hn⟩
  · cases h
theorem vrs_get {xs:List V} {items:List Value} (h:VRs W xs items) {i:Nat} {x:V} (e:xs[i]? = some x):∃ u,items[i]? = some u ∧ VR W x u := h.get i e
theorem src_list (hh:A.handled = none) (target:Expr) {a I:Addr} {xs:List V}:Src W A target I [I] (xs.map .v) (fun H'=>H' a = some (.list xs)) (fun i h=>h.IsListIter I a i) where
  frame := fun i h h' st hk=>st.at fun o e=>hk I (.head _) o e
  live := fun i h st b hb=>by
    rcases List.mem_cons.mp hb with rfl | hb
    · obtain ⟨o,e,_⟩ := st; exact ⟨o,e⟩
    · cases hb
  self := fun st hQ=>wpAny_pyIter_listiter st hQ
  turn := fun {h₀ env c names H ρ s i x E E'} Y R hid g st hx=>by
    refine by_c fun no=>?_
    obtain ⟨items,h1,r1,z1⟩ := R.isList g
    refine no ?_;clear no
    rw [List.getElem?_map] at hx
    refine by_c fun no=>?_
    obtain ⟨x',hx',rfl⟩ := Option.map_eq_some_iff.mp hx
    refine no ?_;clear no
    refine by_c fun no=>?_
    obtain ⟨u,hu,hv⟩ := vrs_get r1 hx'
    refine no ?_;clear no
    refine wpAny_pyNext_list_item st h1 (x := u) (by simpa using hu) fun h' st' hs'=>⟨u,rfl,?_⟩
    have R' := R.moveBut (h' := h') hid s.toks fun b o hb e=>hs'.extBut b o (fun q=>hb (by simp [q])) e
    refine by_c fun no=>?_
    obtain ⟨o,o1,o2,o3⟩ := st'
    refine no ?_;clear no
    exact go_plain o1 o2 o3 (by decide) ⟨R',⟨o,o1,o2,o3⟩,.v hv,fun b o hb e=>hs'.extBut b o (fun q=>hb (by simp [q])) e⟩
  done := fun {h₀ env c names H ρ s E} Y R hid g st=>by
    refine by_c fun no=>?_
    obtain ⟨items,h1,r1,z1⟩ := R.isList g
    refine no ?_;clear no
    refine wpAny_pyNext_list_end hh st h1 (by simp [r1.length]) fun h' he'=>⟨rfl,R.moveBut (h' := h') hid s.toks (fun b o hb e=>he' b o (fun q=>hb (by simp [q])) e),fun b o hb e=>he' b o (fun q=>hb (by simp [q])) e⟩
theorem src_range (hh:A.handled = none) (target:Expr) {I:Addr} {a:Int} {k:Nat}:Src W A target I [I] ((List.range k).map fun (i:Nat)=>.v (.int (a + i))) (fun _=>True) (fun i h=>IsRangeIter h I (a + (i:Nat)) ((k:Int) - (i:Nat)) 1) where
  frame := fun i h h' st hk=>hk I (.head _) _ st
  live := fun i h st b hb=>by
    rcases List.mem_cons.mp hb with rfl | hb
    · exact ⟨_,st⟩
    · cases hb
  self := fun st hQ=>wpAny_pyIter_rangeiter st hQ
  turn := fun {h₀ env c names H ρ s i x E E'} Y R hid g st hx=>by
    rw [List.getElem?_map] at hx
    obtain ⟨j,hj,rfl⟩ := Option.map_eq_some_iff.mp hx
    obtain ⟨hlt,he⟩ := List.getElem?_eq_some_iff.mp hj
    simp at hlt he
    subst he
    refine wpAny_pyNext_range_item st (by (first | lia | omega)) fun h' st' hs'=>⟨_,rfl,?_⟩
    have R' := R.moveBut (h' := h') hid (s.toks + 1) fun b o hb e=>hs'.extBut b o (fun q=>hb (by simp [q])) e
    refine go_plain st' rfl rfl (by decide) ⟨R',?_,.v (.int _ _),fun b o hb e=>hs'.extBut b o (fun q=>hb (by simp [q])) e⟩
    have e1:a + ((i + 1:Nat):Int) = a + (i:Int) + 1 := by (first | lia | omega)
    have e2:(k:Int) - ((i + 1:Nat):Int) = (k:Int) - (i:Int) - 1 := by (first | lia | omega)
    rw [e1,e2]; exact st'
  done := fun {h₀ env c names H ρ s E} Y R hid g st=>by
    simp only [List.length_map,List.length_range] at st
    refine wpAny_pyNext_range_end hh st (by (first | lia | omega)) fun h' he'=>⟨rfl,R.moveBut (h' := h') hid s.toks (fun b o hb e=>he' b o (fun q=>hb (by simp [q])) e),fun b o hb e=>he' b o (fun q=>hb (by simp [q])) e⟩
theorem src_rev (hh:A.handled = none) (target:Expr) {a I:Addr} {xs:List V}:Src W A target I [I] (xs.reverse.map .v) (fun H'=>H' a = some (.list xs)) (fun i h=>i ≤ xs.length ∧ h.IsRevIter I a ((xs.length:Int) - 1 - (i:Int))) where
  frame := fun i h h' st hk=>⟨st.1,st.2.at fun o e=>hk I (.head _) o e⟩
  live := fun i h st b hb=>by
    rcases List.mem_cons.mp hb with rfl | hb
    · obtain ⟨o,e,_⟩ := st.2; exact ⟨o,e⟩
    · cases hb
  self := fun st hQ=>wpAny_pyIter_revIter st.2 hQ
  turn := fun {h₀ env c names H ρ s i x E E'} Y R hid g st hx=>by
    refine by_c fun no=>?_
    obtain ⟨items,h1,r1,z1⟩ := R.isList g
    refine no ?_;clear no
    rw [List.getElem?_map] at hx
    refine by_c fun no=>?_
    obtain ⟨x',hx',rfl⟩ := Option.map_eq_some_iff.mp hx
    refine no ?_;clear no
    obtain ⟨hlt,he⟩ := List.getElem?_eq_some_iff.mp hx'
    have hlt':i < xs.length := by simpa using hlt
    have hx2:xs[xs.length - 1 - i]? = some x' := by rw [← hx',List.getElem?_reverse hlt']
    refine by_c fun no=>?_
    obtain ⟨u,hu,hv⟩ := vrs_get r1 hx2
    refine no ?_;clear no
    have st2 := st.2
    rw [show (xs.length:Int) - 1 - (i:Int) = ((xs.length - 1 - i:Nat):Int) by omega] at st2
    refine wpAny_pyNext_rev_item st2 h1 (x := u) (by simpa using hu) fun h' st' hs'=>⟨u,rfl,?_⟩
    have R' := R.moveBut (h' := h') hid s.toks fun b o hb e=>hs'.extBut b o (fun q=>hb (by simp [q])) e
    rw [show ((xs.length - 1 - i:Nat):Int) - 1 = (xs.length:Int) - 1 - ((i + 1:Nat):Int) by omega] at st'
    refine by_c fun no=>?_
    obtain ⟨o,o1,o2,o3⟩ := st'
    refine no ?_;clear no
    exact go_plain o1 o2 o3 (by decide) ⟨R',⟨hlt',⟨o,o1,o2,o3⟩⟩,.v hv,fun b o hb e=>hs'.extBut b o (fun q=>hb (by simp [q])) e⟩
  done := fun {h₀ env c names H ρ s E} Y R hid g st=>by
    have st2 := st.2
    simp only [List.length_map,List.length_reverse] at st2
    rw [show (xs.length:Int) - 1 - (xs.length:Int) = -1 by omega] at st2
    refine wpAny_pyNext_rev_end hh st2 fun h' he'=>⟨rfl,R.moveBut (h' := h') hid s.toks (fun b o hb e=>he' b o (fun q=>hb (by simp [q])) e),fun b o hb e=>he' b o (fun q=>hb (by simp [q])) e⟩
theorem src_enum (hh:A.handled = none) (elts:List Expr) (k:Nat) (pos:Pos) {a e it:Addr} {xs:List V} (hne:e ≠ it) (hae:a ≠ e) (hai:a ≠ it) :
    Src W A (.Tuple elts k pos) e [e,it] (xs.mapIdx fun i x=>.pair (.int i) x) (fun H'=>H' a = some (.list xs)) (fun i h=>(∃ old,IsEnum h e it i old) ∧ h.IsListIter it a i) where
  frame := fun i h h' st hk=>⟨let ⟨old,q⟩ := st.1; ⟨old,hk e (by simp) _ q⟩,st.2.at fun o q=>hk it (by simp) o q⟩
  live := fun i h st b hb=>by
    rcases List.mem_cons.mp hb with rfl | hb
    · obtain ⟨old,e⟩ := st.1; exact ⟨_,e⟩
    · rcases List.mem_cons.mp hb with rfl | hb
      · obtain ⟨o,e,_⟩ := st.2; exact ⟨o,e⟩
      · cases hb
  self := fun st hQ=>by
    refine by_c fun no=>?_
    obtain ⟨⟨old,q⟩,_⟩ := st
    refine no ?_;clear no
    exact wpAny_pyIter_enum q hQ
  turn := fun {h₀ env c names H ρ s i x E E'} Y R hid g st hx=>by
    refine by_c fun no=>?_
    obtain ⟨items,h1,r1,z1⟩ := R.isList g
    refine no ?_;clear no
    rw [List.getElem?_mapIdx] at hx
    refine by_c fun no=>?_
    obtain ⟨x',hx',rfl⟩ := Option.map_eq_some_iff.mp hx
    refine no ?_;clear no
    refine by_c fun no=>?_
    obtain ⟨u,hu,hv⟩ := vrs_get r1 hx'
    refine no ?_;clear no
    have WE := WalksT.enumerate (prog := W.prog) (w := W.w) hh e it a hne hae hai items.toArray
    have hlt:i < items.toArray.size := by
      obtain ⟨q,_⟩ := List.getElem?_eq_some_iff.mp hu
      simpa using q
    refine WE.item i s _ E hlt ⟨st.1,st.2,h1⟩ fun T vals h' tk hP hT hTup hmid hk=>⟨_,rfl,?_⟩
    have R' := R.moveBut (h' := h') hid tk fun b o hb q=>hk b o hb q
    refine WE.go elts k pos i T { s with heap := h',toks := tk } _ E' hmid fun h2 st2 hk2=>?_
    have R2 := R'.moveBut (h' := h2) hid tk fun b o hb q=>hk2 b o hb q
    refine by_c fun no=>?_
    obtain ⟨t,u',hu',rfl⟩ := hP
    refine no ?_;clear no
    have:u' = u := by
      have h3:items.toArray[i]? = some u := by simpa using hu
      rw [h3] at hu'; cases hu'; rfl
    subst this
    exact ⟨R2,⟨st2.1,st2.2.1⟩,.pair (hTup.at fun o q=>hk2 T o (WE.apart i T _ hmid) q) (.int _ _) hv,fun b o hb q=>hk2 b o hb (hk b o hb q)⟩
  done := fun {h₀ env c names H ρ s E} Y R hid g st=>by
    refine by_c fun no=>?_
    obtain ⟨items,h1,r1,z1⟩ := R.isList g
    refine no ?_;clear no
    have WE := WalksT.enumerate (prog := W.prog) (w := W.w) hh e it a hne hae hai items.toArray
    simp only [List.length_mapIdx] at st
    refine WE.done s _ E ?_ fun h' tk hk=>⟨rfl,R.moveBut (h' := h') hid tk (fun b o hb q=>hk b o hb q),hk⟩
    have:items.toArray.size = xs.length := by simp [r1.length]
    rw [this]
    exact ⟨st.1,st.2,h1⟩
end Mine
namespace Mine
open PySem PySem.W PyProof.Rows
variable {W:Wd} {G:GEnv} {A:Around} {h₀:HB} {env:Env} {c:Cx} {names:List Str} {H H':AH} {ρ ρ':Loc} {s s':Shared} {E:Value → Shared → Prop} {n:Nat} {Q:Post} {Er:EP}
noncomputable def SS (W:Wd) (G:GEnv) (n:Nat) (c:Cx) (e:Expr) (x:X) (two:Bool):Prop :=
  ∀ {A:Around} {env:Env} {h₀:HB} {H:AH} {ρ:Loc} {s:Shared} {K:List It → (AH → Prop) → AH → Prop} {target:Expr} {Q:Value → Shared → Prop} {E:EP} {Em:Value → Shared → Prop},
    isTwo target = two → AOk A c h₀ env E n → EnvOk W env c h₀ → Rel W h₀ env c.names H ρ s → wpSrc G (callN G n) x ρ H K E → (∀ v s',EM W h₀ env c.names ρ E v s' → Em v s') →
    (∀ I hs its g Obs H' s',Src W A target I hs its g Obs → Hid h₀ env H' hs → Obs 0 s'.heap → Rel W h₀ env c.names H' ρ s' → K its g H' → Q (.ref I) s') →
    wpAny W.M A (eval e env) (fun v s₁=>wpAny W.M A (pyIter v) Q Em s₁) Em s
theorem ss_val (hf:c.hnd = false) {e:Expr} {x:X} {two:Bool} (h:SE W G n c e x):SS W G n c e (.val x) two := by
  intro A env h₀ H ρ s K target Q E Em ht ok Y R q hE hQ
  simp only [c_range,c_enum,c_rev,c_val] at q
  refine wpAny_mono (h ok Y R q) (fun v s' r=>?_) hE
  obtain ⟨a,H',hv,R',q'⟩ := r
  delta srcOf at q'
  split at q'
  · rename_i a
    cases hv
    split at q'
    · rename_i xs e
      obtain ⟨items,h1,r1,z1⟩ := R'.isList e
      refine wpAny_pyIter_list h1 ?_
      refine hQ s'.heap.objs.size [s'.heap.objs.size] _ _ _ H' _ (src_list (ok.handled hf) target) (Hid.one Y R' (none_size _) R'.up) ?_ (R'.pushHid _ _) q'
      exact ⟨_,Heap.get?_push_size _ rfl,rfl,rfl⟩
    · exact q'.elim
  · exact q'.elim
theorem ss_range (g:Gnd W G) (hf:c.hnd = false) {p pos:Pos} {es:List Expr} {xs:List X} {two:Bool} (hg:c.global "range" = true) (hs:SEs W G n c es xs) (hn:NS es):SS W G n c (.Call (.Name "range" p) es [] pos) (.range xs) two := by
  intro A env h₀ H ρ s K target Q E Em ht ok Y R q hE hQ
  simp only [c_range,c_enum,c_rev,c_val] at q
  refine ev_bi g Y R (.inr ⟨"range",rfl⟩) hg (by decide) (by decide) (by kernel_rfl) (by decide) hn (wpAny_mono (ev_args (Q' := fun us s'=>(Ex2 fun as H'=>An4 (VRs W as us.pos) (us.kw = []) (Rel W h₀ env c.names H' ρ s') (rangeOf as H' K))) hs hn ok Y R q fun as us H' s' hv R' q'=>⟨as,H',hv,rfl,R',q'⟩) (fun us s' r=>?_) hE)
  obtain ⟨as,H',hv,hkw,R',q'⟩ := r
  obtain ⟨us,kw⟩ := us
  simp only at hv hkw
  subst hkw
  have b1:big = 1048576 := rfl
  have core:∀ (r:Addr) (a b:Int) (t u v:Tok) (s2:Shared),Rel W h₀ env c.names H' ρ s2 → IsRange s2.heap r a b 1 t u v → 0 ≤ a → a ≤ big → -(big:Int) ≤ b → b ≤ big →
      K ((List.range (b - a).toNat).map fun (i:Nat)=>.v (.int (a + i))) (fun _=>True) H' → wpAny W.M A (pyIter (.ref r)) Q Em s2 := by
    intro r a b t u v s2 R2 hr h1 h2 h3 h4 hk
    refine wpAny_pyIter_range hr (small_one (by (first | lia | omega)) (by (first | lia | omega)) (by (first | lia | omega)) (by (first | lia | omega))) ?_
    refine hQ s2.heap.objs.size [s2.heap.objs.size] _ _ _ H' _ (src_range (ok.handled hf) target (a := a) (k := (b - a).toNat)) (Hid.one Y R2 (none_size _) R2.up) ?_ (R2.pushHid _ _) hk
    rw [rangeSize_nat]
    simp only [Int.natCast_zero,Int.add_zero,Int.sub_zero]
    exact Heap.get?_push_size _ rfl
  unfold rangeOf at q'
  split at q'
  · obtain ⟨u,rfl,hu⟩ := vrs1 hv
    cases hu
    rename_i k t
    refine call_range_1 ?_
    have R2 := R'.pushHid { cls := .type "range",data := .fields #[.int 0 s'.toks,.int k t,.int 1 (s'.toks + 1)] } (s'.toks + 1 + 1)
    refine core _ 0 k _ _ _ _ R2 (Heap.get?_push_size _ rfl) (by (first | lia | omega)) (by (first | lia | omega)) q'.1.1 q'.1.2 ?_
    simpa using q'.2
  · obtain ⟨u,u2,rfl,hu,hu2⟩ := vrs2 hv
    cases hu; cases hu2
    rename_i m k t t2
    refine call_range_2 ?_
    have R2 := R'.pushHid { cls := .type "range",data := .fields #[.int m t,.int k t2,.int 1 s'.toks] } (s'.toks + 1)
    have := q'.1
    exact core _ m k _ _ _ _ R2 (Heap.get?_push_size _ rfl) (by (first | lia | omega)) (by (first | lia | omega)) (by (first | lia | omega)) (by (first | lia | omega)) q'.2
  · exact q'.elim
theorem ss_enum (g:Gnd W G) (hf:c.hnd = false) {p pos:Pos} {e:Expr} {x:X} (hg:c.global "enumerate" = true) (h:SE W G n c e x) (hn:∀ v p,e ≠ .Starred v p):SS W G n c (.Call (.Name "enumerate" p) [e] [] pos) (.enum x) true := by
  intro A env h₀ H ρ s K target Q E Em ht ok Y R q hE hQ
  simp only [c_range,c_enum,c_rev,c_val] at q
  refine ev_bi g Y R (.inr ⟨"enumerate",rfl⟩) hg (by decide) (by decide) (by kernel_rfl) (by decide) (ns1 hn) ?_
  rw [notStar_eval hn]
  refine Calls.evalArgs_plain (Calls.spliced_cons (wpAny_mono (h ok Y R q) (fun v s' r=>Calls.spliced_nil ?_) hE))
  obtain ⟨a,H',hv,R',q'⟩ := r
  delta enumOf at q'
  split at q'
  · rename_i a
    cases hv
    split at q'
    · rename_i xs e
      obtain ⟨items,h1,r1,z1⟩ := R'.isList e
      refine call_enumerate_list h1 fun h' hE hI hsz hk=>?_
      refine wpAny_pyIter_enum hE ?_
      have hlt:a < s'.heap.objs.size := by obtain ⟨_,q,_⟩ := h1; exact Heap.lt_size q
      cases target with
      | Tuple elts k tp =>
        refine hQ _ [s'.heap.objs.size + 1,s'.heap.objs.size] _ _ _ H' _ (src_enum (ok.handled hf) elts k tp (a := a) (e := s'.heap.objs.size + 1) (it := s'.heap.objs.size) (xs := xs) (Nat.succ_ne_self _) (Nat.ne_of_lt (Nat.lt_succ_of_lt hlt)) (Nat.ne_of_lt hlt)) ?_ ⟨⟨_,hE⟩,hI⟩ (R'.move s'.toks hk) q'
        intro b hb
        have hb':s'.heap.objs.size ≤ b := by
          rcases List.mem_cons.mp hb with rfl | hb
          · exact Nat.le_succ _
          · rcases List.mem_cons.mp hb with rfl | hb
            · exact Nat.le_refl _
            · cases hb
        exact Hid.one Y R' (newAt hb') (Nat.le_trans R'.up hb') b (.head _)
      | _=>cases ht
    · exact q'.elim
  · exact q'.elim
theorem ss_rev (g:Gnd W G) (hf:c.hnd = false) {p pos:Pos} {e:Expr} {x:X} {two:Bool} (hg:c.global "reversed" = true) (h:SE W G n c e x) (hn:∀ v p,e ≠ .Starred v p):SS W G n c (.Call (.Name "reversed" p) [e] [] pos) (.rev x) two := by
  intro A env h₀ H ρ s K target Q E Em ht ok Y R q hE hQ
  simp only [c_range,c_enum,c_rev,c_val] at q
  refine ev_bi g Y R (.inr ⟨"reversed",rfl⟩) hg (by decide) (by decide) (by kernel_rfl) (by decide) (ns1 hn) ?_
  rw [notStar_eval hn]
  refine Calls.evalArgs_plain (Calls.spliced_cons (wpAny_mono (h ok Y R q) (fun v s' r=>Calls.spliced_nil ?_) hE))
  refine by_c fun no=>?_
  obtain ⟨a,H',hv,R',q'⟩ := r
  refine no ?_;clear no
  delta revOf at q'
  split at q'
  · rename_i a
    cases hv
    split at q'
    · rename_i xs e
      refine by_c fun no=>?_
      obtain ⟨items,h1,r1,z1⟩ := R'.isList e
      refine no ?_;clear no
      refine call_reversed_list h1 ?_
      have hI:(s'.heap.push (revObj a ((items.toArray.size:Int) - 1))).IsRevIter s'.heap.objs.size a ((xs.length:Int) - 1 - ((0:Nat):Int)) := ⟨_,Heap.get?_push_size _ rfl,rfl,by simp [revObj,r1.length]⟩
      refine wpAny_pyIter_revIter hI ?_
      exact hQ s'.heap.objs.size [s'.heap.objs.size] _ _ _ H' _ (src_rev (ok.handled hf) target (a := a) (xs := xs)) (Hid.one Y R' (none_size _) R'.up) ⟨Nat.zero_le _,hI⟩ (R'.pushHid _ _) q'
    · exact q'.elim
  · exact q'.elim
end Mine
namespace Mine
open PySem PySem.W PyProof.Rows
variable {W:Wd} {G:GEnv} {A:Around} {h₀:HB} {env:Env} {c:Cx} {names:List Str} {H H':AH} {ρ ρ':Loc} {s s':Shared} {E:Value → Shared → Prop} {n:Nat} {Q:Post} {Er:EP}
theorem idxOf_inj:∀ {l:List Str} {x y:Str} {i:Nat},l.idxOf? x = some i → l.idxOf? y = some i → x = y
  | [],_,_,_,h,_=>by simp at h
  | a :: l,x,y,i,h1,h2=>by
    rw [List.idxOf?_cons] at h1 h2
    split at h1
    · rename_i q1
      cases h1
      split at h2
      · rename_i q2
        exact (beq_iff_eq.mp q1).symm.trans (beq_iff_eq.mp q2)
      · simp at h2
    · split at h2
      · cases h2; simp at h1
      · obtain ⟨j,h3,h4⟩ := Option.map_eq_some_iff.mp h1
        obtain ⟨k,h5,h6⟩ := Option.map_eq_some_iff.mp h2
        have:j = k := by (first | lia | omega)
        subst this
        exact idxOf_inj h3 h5
theorem own_facts {x:Str} {i:Nat} (h:c.own x = some i):c.names.idxOf? x = some i ∧ (c.sc.names.lookup x = some .local ∨ c.sc.names.lookup x = some .cell) := by
  unfold Cx.own at h
  split at h
  · rename_i q
    refine ⟨h,?_⟩
    unfold isOwn at q
    split at q <;> first | (rename_i e; simp [e]) | cases q
  · cases h
theorem store (Y:EnvOk W env c h₀) (R:Rel W h₀ env c.names H ρ s) {x:Str} {i:Nat} {a:V} {u:Value} (hs:c.own x = some i) (hv:VR W a u) :
    wpAny W.M A (storeName env x u) (fun _ s'=>Rel W h₀ env c.names H (ρ.set i (some a)) s') E s := by
  obtain ⟨hi,hk⟩ := own_facts hs
  have other:∀ {y:Str} {j:Nat} {v:V},c.names.idxOf? y = some j → y ≠ x → (ρ.set i (some a))[j]? = some (some v) → ρ[j]? = some (some v) := by
    intro y j v h1 h2 h3
    have:i ≠ j := fun q=>h2 (idxOf_inj h1 (q ▸ hi))
    rwa [List.getElem?_set_ne this] at h3
  have same:∀ {j:Nat} {v:V},c.names.idxOf? x = some j → (ρ.set i (some a))[j]? = some (some v) → v = a := by
    intro j v h1 h3
    rw [hi] at h1; cases h1
    rw [List.getElem?_set_self'] at h3
    cases q:ρ[i]? with
    | none=>rw [q] at h3; cases h3
    | some z=>rw [q] at h3; simp at h3; exact h3.symm
  rcases hk with hk | hk
  · have hx:env.kindOf x = some .local := Y.kinds x _ hk (by simp)
    refine by_c fun no=>?_
    obtain ⟨m,h1,h2⟩ := R.ns
    refine no ?_;clear no
    refine wpAny_storeName_local hx h1 (fun h' hn hb=>?_) (by simp [Y.kind])
    refine ⟨⟨_,hn,fun y j v e1 e2 e3=>?_⟩,?_,?_,?_,R.sep,R.gens,R.os,R.above,R.low⟩
    · by_cases q:y = x
      · subst q
        rw [same e1 e3]
        exact ⟨u,by simp,hv⟩
      · simp only [q,if_false]
        exact h2 y j v e1 e2 (other e1 q e3)
    · intro y b e
      refine by_c fun no=>?_
      obtain ⟨w,⟨o,ho,hd⟩,r⟩ := R.cell y b e
      refine no ?_;clear no
      refine ⟨w,⟨o,(hb.2 b (Y.apart y b e)).trans ho,hd⟩,fun j v e1 e2 e3=>r j v e1 e2 (other e1 (fun q=>?_) e3)⟩
      subst q
      rw [hx] at e2
      rcases e2 with e2 | e2 <;> cases e2
    · intro b o e
      refine by_c fun no=>?_
      obtain ⟨o',e1,z⟩ := R.keep b o e
      refine no ?_;clear no
      exact ⟨o',(hb.2 b (fun q=>by rw [q,Y.new] at e; cases e)).trans e1,z⟩
    · intro b o e
      refine by_c fun no=>?_
      obtain ⟨ob,g1,g2⟩ := R.objs b o e
      refine no ?_;clear no
      exact ⟨ob,(hb.2 b (R.sep b o e).2.1).trans g1,g2⟩
  · have hx:env.kindOf x = some .cell := Y.kinds x _ hk (by simp)
    obtain ⟨ca,hca⟩ := Y.cells x (.inl hx)
    refine by_c fun no=>?_
    obtain ⟨w,hw,hr⟩ := R.cell x ca hca
    refine no ?_;clear no
    refine wpAny_storeName_cell Y.kind hx hca hw fun h' hn hb=>?_
    refine ⟨?_,?_,?_,?_,R.sep,R.gens,R.os,R.above,R.low⟩
    · refine by_c fun no=>?_
      obtain ⟨m,h1,h2⟩ := R.ns
      refine no ?_;clear no
      refine ⟨m,h1.sameBut hb (fun q=>Y.apart x ca hca q.symm),fun y j v e1 e2 e3=>h2 y j v e1 e2 (other e1 (fun q=>?_) e3)⟩
      subst q
      rw [hx] at e2; cases e2
    · intro y b e
      by_cases q:y = x
      · subst q
        rw [hca] at e; cases e
        exact ⟨some u,hn,fun j v e1 e2 e3=>⟨u,rfl,by rw [same e1 e3]; exact hv⟩⟩
      · refine by_c fun no=>?_
        obtain ⟨w,⟨o,ho,hd⟩,r⟩ := R.cell y b e
        refine no ?_;clear no
        exact ⟨w,⟨o,(hb.2 b (fun z=>q (Y.inj y x b e (z ▸ hca)))).trans ho,hd⟩,fun j v e1 e2 e3=>r j v e1 e2 (other e1 q e3)⟩
    · intro b o e
      refine by_c fun no=>?_
      obtain ⟨o',e1,z⟩ := R.keep b o e
      refine no ?_;clear no
      refine ⟨o',(hb.2 b (fun q=>?_)).trans e1,z⟩
      refine by_c fun no=>?_
      obtain ⟨p,hp,hp2⟩ := lookup_mem hca
      refine no ?_;clear no
      have := Y.newc p hp
      rw [hp2,← q,e] at this; cases this
    · intro b o e
      refine by_c fun no=>?_
      obtain ⟨ob,g1,g2⟩ := R.objs b o e
      refine no ?_;clear no
      exact ⟨ob,(hb.2 b (fun q=>(R.sep b o e).2.2 x (q ▸ hca))).trans g1,g2⟩
theorem assign_two (Y:EnvOk W env c h₀) (R:Rel W h₀ env c.names H ρ s) (hh:A.handled = none) {x y:Str} {px py tp:Pos} {k i j:Nat} {T:Addr} {a b:V} {u1 u2:Value} (hx:c.own x = some i) (hy:c.own y = some j) (ht:s.heap.IsTuple T #[u1,u2]) (h1:VR W a u1) (h2:VR W b u2) :
    wpAny W.M A (assign (.Tuple [.Name x px,.Name y py] k tp) env (.ref T)) (fun _ s'=>Rel W h₀ env c.names H ((ρ.set i (some a)).set j (some b)) s') E s := by
  refine wpAny_assign_Tuple hh ht rfl rfl fun h' hk=>?_
  have R':Rel W h₀ env c.names H ρ { s with heap := h' } := R.move s.toks fun b o e=>hk b o (fun q=>by rw [q,none_size] at e; cases e) e
  refine wpAny_assignInOrder_more ?_
  refine wpAny_assign_Name (wpAny_mono (store Y R' hx h1) (fun _ s1 R1=>?_) fun _ _ e=>e)
  refine wpAny_assignInOrder_more ?_
  exact wpAny_assign_Name (wpAny_mono (store Y R1 hy h2) (fun _ s2 R2=>wpAny_assignInOrder_none R2) fun _ _ e=>e)
theorem assign_tgt (Y:EnvOk W env c h₀) (R:Rel W h₀ env c.names H ρ s) (hh:A.handled = none) {target:Expr} {t:Tgt} {it:It} {v:Value} {N:Loc → Prop} (ht:tgtO c target = some t) (hi:ItR W s.heap it v) (q:bindT t it ρ H N) :
    wpAny W.M A (assign target env v) (fun _ s'=>∃ ρ',Rel W h₀ env c.names H ρ' s' ∧ N ρ') E s := by
  rcases tgtO_is ht with ⟨x,p,rfl,i,h1,rfl⟩ | ⟨x,px,y,py,k,tp,rfl,i,h1,j,h2,rfl⟩
  · clear ht
    delta bindT at q
    cases hi with
    | v hv=>exact wpAny_assign_Name (wpAny_mono (store Y R h1 hv) (fun _ s' R'=>⟨_,R',q⟩) fun _ _ e=>e)
    | pair _ _ _=>exact q.elim
  · clear ht
    delta bindT at q
    cases hi with
    | v hv =>
      rename_i va
      cases va with
      | ref a =>
        cases hv
        simp only at q
        split at q
        · rename_i a1 a2 e
          refine by_c fun no=>?_
          obtain ⟨items,g1,r1,z1⟩ := R.isTup e
          refine no ?_;clear no
          refine by_c fun no=>?_
          obtain ⟨u1,u2,rfl,v1,v2⟩ := vrs2 r1
          refine no ?_;clear no
          exact wpAny_mono (assign_two Y R hh h1 h2 g1 v1 v2) (fun _ s' R'=>⟨_,R',q⟩) fun _ _ e=>e
        · exact q.elim
      | _=>exact q.elim
    | pair ht v1 v2=>exact wpAny_mono (assign_two Y R hh h1 h2 ht v1 v2) (fun _ s' R'=>⟨_,R',q⟩) fun _ _ e=>e
end Mine
namespace Mine
open PySem PySem.W PyProof.Rows
variable {W:Wd} {G:GEnv} {A:Around} {h₀:HB} {env:Env} {c:Cx} {names:List Str} {H H':AH} {ρ ρ':Loc} {s s':Shared} {E:Value → Shared → Prop} {n:Nat} {Q:Post} {Er:EP}
noncomputable def FlowR (W:Wd) (h₀:HB) (env:Env) (names:List Str) (N:Loc → AH → Prop) (Rt:Post) (f:Flow) (s':Shared):Prop := match f with
  | .next=>(Ex2 fun ρ' H'=>Rel W h₀ env names H' ρ' s' ∧ N ρ' H')
  | .ret v=>(Ex3 fun a H' ρ'=>An3 (VR W a v) (Rel W h₀ env names H' ρ' s') (Rt a H'))
  | _=>False
noncomputable def EMs (_:Wd) (_:HB) (_:Env) (_:List Str) (_:Bool) (_:Loc) (_:EP) (_:Value) (_:Shared):Prop := False
theorem EM.st {b:Bool} {v:Value} (x:EM W h₀ env names ρ Er v s):EMs W h₀ env names b ρ Er v s := False.elim x
noncomputable def SSt (W:Wd) (G:GEnv) (n:Nat) (c:Cx) (st:Stmt) (x:S):Prop :=
  ∀ {A:Around} {env:Env} {h₀:HB} {H:AH} {ρ:Loc} {s:Shared} {N:Loc → AH → Prop} {Rt:Post} {E:EP},AOk A c h₀ env E n → EnvOk W env c h₀ → Rel W h₀ env c.names H ρ s → wpS G (callN G n) x ρ H N Rt E →
    wpAny W.M A (exec st env) (FlowR W h₀ env c.names N Rt) (EMs W h₀ env c.names (still x) ρ E) s
noncomputable def SSts (W:Wd) (G:GEnv) (n:Nat) (c:Cx) (sts:List Stmt) (xs:List S):Prop :=
  ∀ {A:Around} {env:Env} {h₀:HB} {H:AH} {ρ:Loc} {s:Shared} {N:Loc → AH → Prop} {Rt:Post} {E:EP},AOk A c h₀ env E n → EnvOk W env c h₀ → Rel W h₀ env c.names H ρ s → wpSs G (callN G n) xs ρ H N Rt E →
    wpAny W.M A (execs sts env) (FlowR W h₀ env c.names N Rt) (EMs W h₀ env c.names (stills xs) ρ E) s
theorem ssts_nil:SSts W G n c [] [] := by
  intro A env h₀ H ρ s N Rt E ok Y R q
  exact wpAny_pure ⟨ρ,H,R,q⟩
theorem ssts_one {st:Stmt} {x:S} (h:SSt W G n c st x):SSts W G n c [st] [x] := by
  intro A env h₀ H ρ s N Rt E ok Y R q
  simp only [J2,J3] at q
  refine wpAny_execs_cons (wpAny_mono (h ok Y R q) (fun f s' r=>?_) fun _ _ e=>e)
  cases f with
  | next=>exact wpAny_pure r
  | ret v=>exact r
  | brk=>exact r.elim
  | cont=>exact r.elim
theorem ssts_cons {st:Stmt} {sts:List Stmt} {x y:S} {xs:List S} (h:SSt W G n c st x) (hs:SSts W G n c sts (y :: xs)):SSts W G n c (st :: sts) (x :: y :: xs) := by
  intro A env h₀ H ρ s N Rt E ok Y R q
  rw [J3] at q
  refine wpAny_execs_cons (wpAny_mono (h ok Y R q) (fun f s' r=>?_) fun _ _ e=>False.elim e)
  cases f with
  | next =>
    obtain ⟨ρ',H',R',q'⟩ := r
    exact wpAny_mono (hs ok Y R' q') (fun _ _ r=>r) fun _ _ e=>False.elim e
  | ret v=>exact r
  | brk=>exact r.elim
  | cont=>exact r.elim
/-! the stations of a raise -/
theorem loop_exc (ok:AOk A c h₀ env Er n) (Y:EnvOk W env c h₀) {v:Value} (x:EM W h₀ env names ρ' Er v s):notedBy W.M A env (fun e s'=>cameBackBy W.M A env (EMs W h₀ env names false ρ Er) e s') v s := False.elim x
theorem Src.stays {target:Expr} {I:Addr} {hs:List Addr} {its:List It} {g:AH → Prop} {Obs:Nat → Heap → Prop} (S:Src W A target I hs its g Obs) {i:Nat} (Y:EnvOk W env c h₀) (hid:Hid h₀ env H hs) (st:Obs i s.heap) {names':List Str} (R':Rel W (Mine.prot env h₀.fs H s.heap) env names' H' ρ' s') :
    Obs i s'.heap ∧ Hid h₀ env H' hs := by
  refine ⟨S.frame i _ _ st fun b hb o e=>Mine.stays e (hid b hb).1 (hid b hb).2.2.1 (hid b hb).2.2.2 (fun m=>Y.fsok b m (hid b hb).2.1) R',fun b hb=>⟨?_,(hid b hb).2⟩⟩
  obtain ⟨o,e⟩ := S.live i _ st b hb
  cases q:H' b with
  | none=>rfl
  | some z =>
    have := (R'.sep b z q).1
    rw [prot_get e (hid b hb).1 (hid b hb).2.2.1 (hid b hb).2.2.2] at this
    cases this
theorem drop_cons {α:Type} {l:List α} {i:Nat} {x:α} {r:List α} (h:l.drop i = x :: r):l[i]? = some x ∧ l.drop (i + 1) = r := by
  constructor
  · have := congrArg List.head? h
    simpa using this
  · have := congrArg List.tail h
    simpa using this
theorem st_for (hf:c.hnd = false) {target iter:Expr} {body:List Stmt} {pos:Pos} {t:Tgt} {x:X} {xs:List S} (hs:SS W G n c iter x (isTwo target)) (ht:tgtO c target = some t) (hb:SSts W G n c body xs) (hset:∀ env v,foldedSetIterable iter env v = pure v) :
    SSt W G n c (.For target iter body [] pos) (.for t x xs) := by
  intro A env h₀ H ρ₀ s N Rt E ok Y R q
  simp only [Jy,t_setattr,t_setitem,Jz,Ja,J0,J1,t_for,t_while,J2,J3,t_raise] at q
  refine wpAny_For (hs rfl ok Y R q (fun _ _ e=>e.st) fun I hss its g Obs H' s' S hid st R' q'=>?_) (hset env)
  refine codeAny_forLoop_any (fun k s=>(Ex3 fun i H ρ=>An6 (Rel W h₀ env c.names H ρ s) (Hid h₀ env H hss) (Obs i s.heap) (loop g t (fun ρ H K=>wpSs G (callN G n) xs ρ H K Rt E) N (its.drop i) ρ H) (i ≤ its.length) (k = its.length - i + 1))) ?_ (its.length + 1)
    ⟨0,H',ρ₀,R',hid,st,q',Nat.zero_le _,by simp⟩
  rintro k s hPt1
  refine by_c fun no=>?_
  obtain ⟨i,H,ρ,R,hid,st,q,hi,rfl⟩ := hPt1
  refine no ?_;clear no
  cases hd:its.drop i with
  | nil =>
    rw [hd] at q
    obtain ⟨g1,q⟩ := q
    have:i = its.length := by
      have := congrArg List.length hd
      simp at this; (first | lia | omega)
    subst this
    refine wpAny_mono (S.done Y R hid g1 st) (fun r s₁ h₁=>?_) fun _ _ e=>e
    refine by_c fun no=>?_
    obtain ⟨rfl,R1,_⟩ := h₁
    refine no ?_;clear no
    exact wpAny_pure ⟨ρ,H,R1,q⟩
  | cons y r =>
    rw [hd] at q
    obtain ⟨g1,q⟩ := q
    obtain ⟨hx,hd'⟩ := drop_cons hd
    have hlt:i < its.length := (List.getElem?_eq_some_iff.mp hx).1
    refine wpAny_mono (S.turn (E' := notedBy W.M A env fun e s'=>cameBackBy W.M A env (EMs W h₀ env c.names (still (.for t x xs)) ρ₀ E) e s') Y R hid g1 st hx) (fun r s₁ h₁=>?_) fun _ _ e=>e
    refine by_c fun no=>?_
    obtain ⟨v,rfl,h₁⟩ := h₁
    refine no ?_;clear no
    refine wpAny_mono h₁ (fun _ s₂ h₂=>?_) fun _ _ e=>e
    refine by_c fun no=>?_
    obtain ⟨R2,st2,hit,_⟩ := h₂
    refine no ?_;clear no
    have YP := Y.prot R2
    refine wpAny_mono (assign_tgt YP R2.prot (ok.handled hf) ht hit q) (fun _ s₃ h₃=>?_) fun _ _ e=>e
    refine by_c fun no=>?_
    obtain ⟨ρ3,R3,q3⟩ := h₃
    refine no ?_;clear no
    refine wpAny_mono (hb ok.prot YP R3 q3) (fun f s₄ h₄=>?_) fun _ _ e=>False.elim e
    cases f with
    | next =>
      refine by_c fun no=>?_
      obtain ⟨ρ4,H4,R4,q4⟩ := h₄
      refine no ?_;clear no
      obtain ⟨st4,hid4⟩ := S.stays Y hid st2 R4
      refine ⟨its.length - (i + 1) + 1,by (first | lia | omega),i + 1,H4,ρ4,R2.unprot Y R4,hid4,st4,?_,hlt,rfl⟩
      rw [hd']; exact q4
    | ret v =>
      refine by_c fun no=>?_
      obtain ⟨a,H4,ρ4,hv,R4,q4⟩ := h₄
      refine no ?_;clear no
      exact ⟨a,H4,ρ4,hv,R2.unprot Y R4,q4⟩
    | brk=>exact h₄.elim
    | cont=>exact h₄.elim
theorem st_while {test:Expr} {body:List Stmt} {pos:Pos} {x:X} {xs:List S} (h:ST W G n c test x) (hb:SSts W G n c body xs):SSt W G n c (.While test body [] pos) (.while x xs) := by
  intro A env h₀ H ρ s N Rt E ok Y R q
  simp only [Jy,t_setattr,t_setitem,Jz,Ja,J0,J1,t_for,t_while,J2,J3,t_raise] at q
  refine by_c fun no=>?_
  obtain ⟨I,⟨k,hk⟩,step⟩ := q
  refine no ?_;clear no
  refine wpAny_While (codeAny_whileLoop (fun k s=>(Ex2 fun H ρ=>Rel W h₀ env c.names H ρ s ∧ I k ρ H)) ?_ k ⟨H,ρ,R,hk⟩)
  rintro k s hPt2
  refine by_c fun no=>?_
  obtain ⟨H,ρ,R,hk⟩ := hPt2
  refine no ?_;clear no
  refine wpAny_mono (h (Q := fun b H=>if b then wpSs G (callN G n) xs ρ H (fun ρ H=>∃ m,m < k ∧ I m ρ H) Rt E else N ρ H) ok Y R (step k ρ H hk)) (fun b s₂ r=>?_) fun _ _ e=>loop_exc ok Y e
  refine by_c fun no=>?_
  obtain ⟨H2,R2,q2⟩ := r
  refine no ?_;clear no
  cases b with
  | false =>
    simp only [Bool.false_eq_true,if_false] at q2 ⊢
    exact wpAny_pure ⟨ρ,H2,R2,q2⟩
  | true =>
    simp only [if_true] at q2 ⊢
    refine wpAny_mono (hb ok Y R2 q2) (fun f s₃ r=>?_) fun _ _ e=>False.elim e
    cases f with
    | next =>
      refine by_c fun no=>?_
      obtain ⟨ρ3,H3,R3,m,hm,hI⟩ := r
      refine no ?_;clear no
      exact ⟨m,hm,H3,ρ3,R3,hI⟩
    | ret v=>exact r
    | brk=>exact r.elim
    | cont=>exact r.elim
end Mine
namespace Mine
open PySem PySem.W PyProof.Rows
variable {W:Wd} {G:GEnv} {A:Around} {h₀:HB} {env:Env} {c:Cx} {names:List Str} {H H':AH} {ρ ρ':Loc} {s s':Shared} {E:Value → Shared → Prop} {n:Nat} {Q:Post} {Er:EP}
/-! the cells of a comprehension -/
noncomputable def clos (env:Env):List (Str × NameKind) → List (Str × Addr) → List (Str × Addr)
  | [],acc=>acc
  | (nm,k) :: r,acc=>if k == .free then clos env r ((nm,(env.cells.lookup nm).getD 0) :: acc) else clos env r acc
theorem forIn_clos (env:Env):∀ (l:List (Str × NameKind)) (acc:List (Str × Addr)),(∀ p ∈ l,p.2 = .free → (env.cells.lookup p.1).isSome = true) →
    (forIn l acc fun (x:Str × NameKind) cs=>(match x with | (name,kind)=>if (kind == .free) = true then do let a ← cellOf env name; pure (ForInStep.yield ((name,a) :: cs)) else pure (ForInStep.yield cs):Sem (ForInStep (List (Str × Addr))))) = pure (clos env l acc)
  | [],acc,_=>rfl
  | (nm,k) :: r,acc,h=>by
    rw [List.forIn_cons]
    have ih := fun acc=>forIn_clos env r acc fun p hp=>h p (.tail _ hp)
    unfold clos
    by_cases q:(k == NameKind.free) = true
    · simp only [q,if_true]
      have hk := beq_iff_eq.mp q
      obtain ⟨a,ha⟩ := Option.isSome_iff_exists.mp (h (nm,k) (.head _) hk)
      simp only at ha
      unfold cellOf
      rw [ha]
      exact ih _
    · simp only [q,if_false]
      exact ih _
theorem closureFor_clos {sc:Scope} (h:∀ p ∈ sc.names,p.2 = .free → (env.cells.lookup p.1).isSome = true):closureFor sc env = pure (clos env sc.names []) := by
  have := forIn_clos env sc.names [] h
  unfold closureFor
  first
    | (rw [this]; rfl)
    | (simp only [bind_pure]; exact this)
    | (show (forIn sc.names [] _ >>= _) = _
       erw [this]; rfl)
theorem clos_mem:∀ {l:List (Str × NameKind)} {acc:List (Str × Addr)} {p:Str × Addr},p ∈ clos env l acc → p ∈ acc ∨ ((p.1,NameKind.free) ∈ l ∧ p.2 = (env.cells.lookup p.1).getD 0)
  | [],acc,p,h=>.inl h
  | (nm,k) :: r,acc,p,h=>by
    unfold clos at h
    split at h
    · rename_i q
      have hk := beq_iff_eq.mp q
      subst hk
      rcases clos_mem h with h | ⟨h1,h2⟩
      · rcases List.mem_cons.mp h with rfl | h
        · exact .inr ⟨.head _,rfl⟩
        · exact .inl h
      · exact .inr ⟨.tail _ h1,h2⟩
    · rcases clos_mem h with h | ⟨h1,h2⟩
      · exact .inl h
      · exact .inr ⟨.tail _ h1,h2⟩
theorem clos_acc:∀ {l:List (Str × NameKind)} {acc:List (Str × Addr)} {p:Str × Addr},p ∈ acc → p ∈ clos env l acc
  | [],acc,p,h=>h
  | (nm,k) :: r,acc,p,h=>by
    unfold clos
    split
    · exact clos_acc (.tail _ h)
    · exact clos_acc h
theorem clos_has:∀ {l:List (Str × NameKind)} {acc:List (Str × Addr)} {x:Str},(x,NameKind.free) ∈ l → (x,(env.cells.lookup x).getD 0) ∈ clos env l acc
  | (nm,k) :: r,acc,x,h=>by
    unfold clos
    rcases List.mem_cons.mp h with e | h
    · cases e
      exact clos_acc (.head _)
    · split
      · exact clos_has h
      · exact clos_has h
theorem lookup_some_mem {β:Type} {l:List (Str × β)} {x:Str} {b:β} (h:l.lookup x = some b):(x,b) ∈ l := by
  induction l with
  | nil=>cases h
  | cons p r ih =>
    obtain ⟨y,z⟩ := p
    rw [List.lookup_cons] at h
    split at h
    · rename_i q
      cases h
      rw [beq_iff_eq.mp q]; exact .head _
    · exact .tail _ (ih h)
theorem mem_lookup {β:Type} {l:List (Str × β)} {x:Str} {b:β} (h:(x,b) ∈ l):∃ b',l.lookup x = some b' := by
  induction l with
  | nil=>cases h
  | cons p r ih =>
    obtain ⟨y,z⟩ := p
    rw [List.lookup_cons]
    split
    · exact ⟨_,rfl⟩
    · rename_i q
      rcases List.mem_cons.mp h with e | h
      · cases e; simp at q
      · exact ih h
structure CompSc (c:Cx) (sc:Scope) (ts:List Str):Prop where
  kind:sc.kind = .function
  nocell:∀ p ∈ sc.names,p.2 ≠ .cell
  locals:∀ p ∈ sc.names,p.2 = .local → sc.names.lookup p.1 = some .local
  own:∀ p ∈ sc.names,p.2 = .local → p.1 ∈ ts ∨ p.1 ∉ c.names
  frees:∀ p ∈ sc.names,p.2 = .free → c.sc.names.lookup p.1 = some .cell ∧ sc.names.lookup p.1 = some .free
  tsl:∀ t ∈ ts,sc.names.lookup t = some .local
  shape:(∃ x,ts = [x]) ∨ (Ex2 fun x y=>ts = [x,y] ∧ x ≠ y)
theorem compSc_of {sc:Scope} {ts:List Str} (h:compOk c.names c.sc sc ts = true) (hl:(∃ x,ts = [x]) ∨ (Ex2 fun x y=>ts = [x,y])):CompSc c sc ts := by
  delta compOk at h
  simp only [Bool.and_eq_true,List.all_eq_true,beq_iff_eq,bne_iff_ne,Bool.or_eq_true] at h
  obtain ⟨⟨⟨⟨h1,h2⟩,h3⟩,h4⟩,h5⟩ := h
  refine ⟨h2,fun p hp=>(h4 p hp).1.1,fun p hp q=>?_,fun p hp q=>?_,fun p hp q=>?_,fun t ht=>h5 t ht,?_⟩
  · rcases (h4 p hp).1.2 with z | z
    · exact absurd q z
    · exact z
  · rcases h3 p hp with (z | z) | z
    · exact absurd q z
    · exact .inl (by simpa using z)
    · exact .inr (by simpa using z)
  · rcases (h4 p hp).2 with z | z
    · exact absurd q z
    · exact z
  · rcases hl with ⟨x,rfl⟩ | ⟨x,y,rfl⟩
    · exact .inl ⟨x,rfl⟩
    · exact .inr ⟨x,y,rfl,by simpa using h1⟩
noncomputable def rl (env:Env) (p:Str × NameKind):Str × NameKind := if (p.2 == .free && env.scope.kind == .function && env.kindOf p.1 == some .cell) then (p.1,.cell) else p
theorem rl_fst (p:Str × NameKind):(rl env p).1 = p.1 := by unfold rl; split <;> rfl
theorem relabel_names {sc:Scope}:(relabel sc env).names = sc.names.map (rl env) := by
  unfold relabel
  simp only
  congr 1
theorem lookup_rl {x:Str}:∀ {l:List (Str × NameKind)},(l.map (rl env)).lookup x = (l.lookup x).map fun k=>(rl env (x,k)).2
  | []=>rfl
  | (y,z) :: r=>by
    rw [List.map_cons,show rl env (y,z) = (y,(rl env (y,z)).2) from Prod.ext (rl_fst _) rfl,List.lookup_cons,List.lookup_cons]
    cases hx:x == y with
    | true=>rw [beq_iff_eq.mp hx]; rfl
    | false=>exact lookup_rl
theorem relabel_lookup {sc:Scope} {x:Str} {k:NameKind} (h:sc.names.lookup x = some k) :
    (k ≠ .free → (relabel sc env).names.lookup x = some k) ∧ (k = .free → (relabel sc env).names.lookup x = some .cell ∨ (relabel sc env).names.lookup x = some .free) := by
  rw [relabel_names,lookup_rl,h]
  simp only [Option.map_some,Option.some.injEq,rl]
  constructor
  · intro hk
    rw [if_neg (by simp [hk])]
  · rintro rfl
    split
    · exact .inl rfl
    · exact .inr rfl
theorem relabel_of {sc:Scope} {x:Str} {k:NameKind} (h:(relabel sc env).names.lookup x = some k):sc.names.lookup x = some k ∨ (k = .cell ∧ sc.names.lookup x = some .free) := by
  rw [relabel_names,lookup_rl] at h
  obtain ⟨z,h1,h2⟩ := Option.map_eq_some_iff.mp h
  unfold rl at h2
  split at h2
  · rename_i q
    simp only [Bool.and_eq_true,beq_iff_eq] at q
    exact .inr ⟨h2.symm,by rw [h1,q.1.1]⟩
  · exact .inl (by rw [h1]; exact congrArg some h2)
noncomputable abbrev inner (c:Cx) (sc:Scope) (ts:List Str):Cx := ⟨ts ++ c.names,sc,false,true⟩
noncomputable abbrev cEnv (sc:Scope) (env:Env) (C:Addr):Env := compEnvC sc (clos env sc.names []) C env
section
variable {sc:Scope} {ts:List Str} {C:Addr}
theorem comp_cell (K:CompSc c sc ts) (Y:EnvOk W env c h₀) {p:Str × NameKind} (hp:p ∈ sc.names) (hf:p.2 = .free):∃ a,env.cells.lookup p.1 = some a :=
  Y.cells p.1 (.inl (Y.kinds _ _ (K.frees p hp hf).1 (by simp)))
theorem clos_is (K:CompSc c sc ts) (Y:EnvOk W env c h₀) {p:Str × Addr} (h:p ∈ clos env sc.names []):env.cells.lookup p.1 = some p.2 ∧ sc.names.lookup p.1 = some .free := by
  rcases clos_mem h with h | ⟨h1,h2⟩
  · cases h
  · obtain ⟨a,ha⟩ := comp_cell K Y h1 rfl
    simp only at ha
    rw [ha] at h2
    exact ⟨by rw [ha,h2]; rfl,(K.frees _ h1 rfl).2⟩
theorem clos_lookup (K:CompSc c sc ts) (Y:EnvOk W env c h₀) {x:Str} {a:Addr} (h:(clos env sc.names []).lookup x = some a):env.cells.lookup x = some a ∧ sc.names.lookup x = some .free := clos_is K Y (lookup_some_mem h)
theorem Rel.in_comp (K:CompSc c sc ts) (Y:EnvOk W env c h₀) (R:Rel W h₀ env names H ρ s) (hC:Hid h₀ env H [C]):Kept W h₀ (Mine.prot (cEnv sc env C) (env.locals :: h₀.fs) H s.heap).h := fun b o e =>
  let ⟨o',e1,z⟩ := R.keep b o e; ⟨o',prot_get e1 (by cases q:H b with
      | none=>rfl
      | some x=>rw [(R.sep b x q).1] at e; cases e) (fun q=>by have h1 := (hC C (.head _)).2.1; have h2:b = C := q; rw [← h2,e] at h1; cases h1)
      (fun p hp q=>by
        obtain ⟨p',hp',hp2⟩ := lookup_mem (clos_is K Y hp).1
        have := Y.newc p' hp'
        rw [hp2,q,e] at this; cases this),z⟩
theorem comp_locals (K:CompSc c sc ts) (Y:EnvOk W env c h₀) (R:Rel W h₀ env names H ρ s) (hC:Hid h₀ env H [C]):∃ o,(Mine.prot (cEnv sc env C) (env.locals :: h₀.fs) H s.heap).get? env.locals = some o ∧ s.heap.get? env.locals = some o := by
  refine by_c fun no=>?_
  obtain ⟨m,⟨o,es,ep,h1,h2⟩,_⟩ := R.ns
  refine no ?_;clear no
  refine ⟨o,prot_get h1 ?_ (fun q=>(hC C (.head _)).2.2.1 (q:env.locals = C).symm) (fun p hp q=>Y.apart p.1 p.2 (clos_is K Y hp).1 q),h1⟩
  cases q:H env.locals with
  | none=>rfl
  | some x=>exact absurd rfl (R.sep _ _ q).2.1
theorem EnvOk.comp (K:CompSc c sc ts) (Y:EnvOk W env c h₀) (R:Rel W h₀ env names H ρ s) (hC:Hid h₀ env H [C]) (hC':W.b₀.objs.size ≤ C):EnvOk W (cEnv sc env C) (inner c sc ts) (Mine.prot (cEnv sc env C) (env.locals :: h₀.fs) H s.heap) where
  kind := K.kind
  globals := Y.globals
  builtins := Y.builtins
  kinds := fun x k e hk=>(relabel_lookup (env := env) e).1 hk
  frees := fun x e=>(relabel_lookup (env := env) e).2 rfl
  cells := fun x e=>by
    have key:sc.names.lookup x = some .free := by
      rcases e with e | e
      · rcases relabel_of (env := env) e with h | ⟨_,h⟩
        · exact absurd rfl (K.nocell _ (lookup_some_mem h))
        · exact h
      · rcases relabel_of (env := env) e with h | ⟨h,_⟩
        · exact h
        · cases h
    exact mem_lookup (clos_has (acc := []) (lookup_some_mem key))
  apart := fun x a e=>by
    obtain ⟨h1,_⟩ := clos_lookup K Y e
    obtain ⟨p,hp,hp2⟩ := lookup_mem h1
    intro q
    exact (hC C (.head _)).2.2.2 p hp (hp2.trans q)
  inj := fun x y a e1 e2=>Y.inj x y a (clos_lookup K Y e1).1 (clos_lookup K Y e2).1
  base := fun b o e=>prot_get (R.keepB Y b o e)
    (by cases q:H b with
        | none=>rfl
        | some x=>have := (R.sep b x q).1; rw [Y.base b o e] at this; cases this)
    (fun q=>absurd (Heap.lt_size e) (Nat.not_lt.mpr (by rw [q]; exact hC')))
    (fun p hp q=>by
      obtain ⟨p',hp',hp2⟩ := lookup_mem (clos_is K Y hp).1
      have := Y.newc p' hp'
      rw [hp2,q,Y.base b o e] at this; cases this)
  fsok := fun L m q=>by
    rcases List.mem_cons.mp m with rfl | m
    · obtain ⟨o,h1,_⟩ := comp_locals K Y R hC
      rw [h1] at q; cases q
    · exact Y.fsok L m ((Rel.in_comp K Y R hC).none q)
  fsd := fun L m=>by
    rcases List.mem_cons.mp m with rfl | m
    · refine ⟨newAt R.above,fun o e vs q=>?_⟩
      obtain ⟨m,⟨o',es,ep,h1,h2,_⟩,_⟩ := R.ns
      rw [prot_of e] at h1; cases h1
      rw [h2] at q; cases q
    · exact ⟨(Y.fsd L m).1,fun o e=>by obtain ⟨o',e1,z⟩ := R.fsd Y m; rw [prot_of e] at e1; cases e1; exact z⟩
  new := prot_none (.inr (.inl rfl))
  newc := fun p hp=>prot_none (.inr (.inr ⟨p,hp,rfl⟩))
  look := fun p hp=>by
    obtain ⟨a,ha⟩ := mem_lookup hp
    have h1 := (clos_lookup K Y ha).1
    have h2 := (clos_is K Y hp).1
    rw [h1] at h2; cases h2
    exact ha
  lo := Y.lo
end
end Mine
namespace Mine
open PySem PySem.W PyProof.Rows
variable {W:Wd} {G:GEnv} {A:Around} {h₀:HB} {env:Env} {c:Cx} {names:List Str} {H H':AH} {ρ ρ' ρt:Loc} {s s':Shared} {E:Value → Shared → Prop} {n:Nat} {Q:Post} {sc:Scope} {ts:List Str} {C:Addr} {Er:EP}
theorem idxOf_append {l l':List Str} {x:Str}:x ∉ l → (l ++ l').idxOf? x = (l'.idxOf? x).map (· + l.length) := by
  induction l with
  | nil=>intro _; simp
  | cons a l ih =>
    intro h
    rw [List.cons_append,List.idxOf?_cons]
    have:(a == x) = false := by simpa using fun q:a = x=>h (by simp [q])
    rw [this,ih (fun q=>h (.tail _ q))]
    cases l'.idxOf? x with
    | none=>rfl
    | some k=>simp; (first | lia | omega)
theorem idxOf_append_mem {l l':List Str} {x:Str}:x ∈ l → (l ++ l').idxOf? x = l.idxOf? x ∧ ∃ i,l.idxOf? x = some i ∧ i < l.length := by
  induction l with
  | nil=>intro h; cases h
  | cons a l ih =>
    intro h
    rw [List.cons_append,List.idxOf?_cons,List.idxOf?_cons]
    cases q:a == x with
    | true=>exact ⟨rfl,0,rfl,by simp⟩
    | false =>
      have:x ∈ l := by
        rcases List.mem_cons.mp h with rfl | h
        · simp at q
        · exact h
      refine by_c fun no=>?_
      obtain ⟨h1,i,h2,h3⟩ := ih this
      refine no ?_;clear no
      simp only [Bool.false_eq_true,if_false]
      rw [h1]
      exact ⟨rfl,i + 1,by rw [h2]; rfl,by simp; omega⟩
theorem mem_of_idxOf {l:List Str} {x:Str} {i:Nat} (h:l.idxOf? x = some i):x ∈ l := by
  cases Classical.em (x ∈ l) with
  | inl h=>exact h
  | inr q=>rw [List.idxOf?_eq_none_iff.mpr q] at h; cases h
noncomputable def CompNs (W:Wd) (ts:List Str) (C:Addr) (ρt:Loc) (h:Heap):Prop := ∃ m,h.Ns C m ∧ ∀ x i v,ts.idxOf? x = some i → ρt[i]? = some (some v) → ∃ u,m x = some u ∧ VR W v u
theorem Rel.toComp (K:CompSc c sc ts) (Y:EnvOk W env c h₀) (R:Rel W h₀ env c.names H ρ s) (hC:Hid h₀ env H [C]) (hC':W.b₀.objs.size ≤ C) (hl:ρt.length = ts.length) (hn:CompNs W ts C ρt s.heap) :
    Rel W (Mine.prot (cEnv sc env C) (env.locals :: h₀.fs) H s.heap) (cEnv sc env C) (inner c sc ts).names H (ρt ++ ρ) s where
  ns := by
    obtain ⟨m,h1,h2⟩ := hn
    refine ⟨m,h1,fun x i v e1 e2 e3=>?_⟩
    have hx:sc.names.lookup x = some .local := by
      rcases relabel_of (env := env) e2 with h | ⟨h,_⟩
      · exact h
      · cases h
    have hmem:x ∈ ts := by
      rcases K.own _ (lookup_some_mem hx) rfl with h | h
      · exact h
      · have:x ∈ ts ++ c.names := mem_of_idxOf e1
        rcases List.mem_append.mp this with h' | h'
        · exact h'
        · exact absurd h' h
    obtain ⟨h3,j,h4,h5⟩ := idxOf_append_mem (l' := c.names) hmem
    have e1':(ts ++ c.names).idxOf? x = some i := e1
    rw [h3,h4] at e1'
    cases e1'
    refine h2 x _ v h4 ?_
    rwa [List.getElem?_append_left (by (first | lia | omega))] at e3
  cell := fun x a e=>by
    obtain ⟨e1,e2⟩ := clos_lookup K Y e
    obtain ⟨w,hw,hr⟩ := R.cell x a e1
    refine ⟨w,hw,fun i v f1 f2 f3=>?_⟩
    have hx:x ∉ ts := fun q=>by have := K.tsl x q; rw [e2] at this; cases this
    have f1':(ts ++ c.names).idxOf? x = some i := f1
    rw [idxOf_append hx] at f1'
    obtain ⟨j,h1,h2⟩ := Option.map_eq_some_iff.mp f1'
    subst h2
    refine hr j v h1 (.inl (Y.kinds x _ (K.frees _ (lookup_some_mem e2) rfl).1 (by simp))) ?_
    rw [List.getElem?_append_right (by (first | lia | omega))] at f3
    rwa [show j + ts.length - ρt.length = j by (first | lia | omega)] at f3
  keep := .of fun _ _ e=>prot_of e
  objs := R.objs
  sep := fun a o e=>by
    refine ⟨prot_none (.inl ⟨o,e⟩),fun q=>?_,fun x q=>(R.sep a o e).2.2 x (clos_lookup K Y q).1⟩
    have h1 := (hC C (.head _)).1
    have h2:a = C := q
    rw [← h2,e] at h1; cases h1
  gens := R.gens
  os := R.os
  above := hC'
  low := R.low
theorem Rel.ofComp (K:CompSc c sc ts) (Y:EnvOk W env c h₀) (R:Rel W h₀ env c.names H ρ s) (hC:Hid h₀ env H [C]) (hl:ρt.length = ts.length)
    (R':Rel W (Mine.prot (cEnv sc env C) (env.locals :: h₀.fs) H s.heap) (cEnv sc env C) (inner c sc ts).names H' (ρt ++ ρ) s'):Rel W h₀ env c.names H' ρ s' := by
  have hCC := hC C (.head _)
  have hsub:Kept W h₀ (Mine.prot (cEnv sc env C) (env.locals :: h₀.fs) H s.heap).h := Rel.in_comp K Y R hC
  have hcl:∀ x a,env.cells.lookup x = some a → (∃ p ∈ clos env sc.names [],p.2 = a) → (clos env sc.names []).lookup x = some a := by
    rintro x a e hPt3
    refine by_c fun no=>?_
    obtain ⟨p,hp,rfl⟩ := hPt3
    refine no ?_;clear no
    have h1 := (clos_is K Y hp).1
    have h2 := Y.inj x p.1 p.2 e h1
    subst h2
    obtain ⟨a',ha'⟩ := mem_lookup hp
    rw [(clos_lookup K Y ha').1] at h1; cases h1
    exact ha'
  have hloc := comp_locals K Y R hC
  have hcell:∀ x a,env.cells.lookup x = some a → (¬ ∃ p ∈ clos env sc.names [],p.2 = a) → ∀ o,s.heap.get? a = some o → (Mine.prot (cEnv sc env C) (env.locals :: h₀.fs) H s.heap).get? a = some o := by
    intro x a e hno o ho
    refine by_c fun no=>?_
    obtain ⟨p,hp,hp2⟩ := lookup_mem e
    refine no ?_;clear no
    refine prot_get ho ?_ (fun q=>hCC.2.2.2 p hp (hp2.trans q)) (fun p' hp' q=>hno ⟨p',hp',q⟩)
    cases q:H a with
    | none=>rfl
    | some z=>exact absurd e ((R.sep _ _ q).2.2 x)
  refine ⟨?_,?_,hsub.trans (fun b o e m=>(List.mem_cons.mp m).resolve_left fun q=>by rw [q,Y.new] at e; cases e) R'.keep,R'.objs,?_,R'.gens,R'.os,R.above,R'.low⟩
  · refine by_c fun no=>?_
    obtain ⟨m,⟨o,es,ep,h1,h2⟩,h3⟩ := R.ns
    refine no ?_;clear no
    refine by_c fun no=>?_
    obtain ⟨o',g1,g2⟩ := hloc
    refine no ?_;clear no
    rw [h1] at g2; cases g2
    exact ⟨m,R'.keep.ns ⟨o,es,ep,g1,h2⟩,h3⟩
  · intro x a e
    cases Classical.em (∃ p ∈ clos env sc.names [],p.2 = a) with
    | inl q =>
      have hx := hcl x a e q
      obtain ⟨e1,e2⟩ := clos_lookup K Y hx
      refine by_c fun no=>?_
      obtain ⟨w,hw,hr⟩ := R'.cell x a hx
      refine no ?_;clear no
      refine ⟨w,hw,fun i v f1 f2 f3=>hr (i + ts.length) v ?_ ((relabel_lookup (env := env) e2).2 rfl) ?_⟩
      · have hx':x ∉ ts := fun q=>by have := K.tsl x q; rw [e2] at this; cases this
        show (ts ++ c.names).idxOf? x = _
        rw [idxOf_append hx',f1]; rfl
      · rw [List.getElem?_append_right (by (first | lia | omega))]
        rwa [show i + ts.length - ρt.length = i by (first | lia | omega)]
    | inr q =>
      refine by_c fun no=>?_
      obtain ⟨w,⟨o,ho,hd⟩,hr⟩ := R.cell x a e
      refine no ?_;clear no
      exact ⟨w,⟨o,R'.keep.exact (hcell x a e q o ho) (.inl fun m=>(by obtain ⟨p,hp,hp2⟩ := lookup_mem e; exact Y.fsok a ((List.mem_cons.mp m).resolve_left (Y.apart x a e)) (hp2 ▸ Y.newc p hp))),hd⟩,hr⟩
  · intro a o e
    refine by_c fun no=>?_
    obtain ⟨q1,q2,q3⟩ := R'.sep a o e
    refine no ?_;clear no
    refine ⟨?_,?_,?_⟩
    · exact hsub.none q1
    · rintro rfl
      refine by_c fun no=>?_
      obtain ⟨o',g1,_⟩ := hloc
      refine no ?_;clear no
      rw [q1] at g1; cases g1
    · intro x hx
      cases Classical.em (∃ p ∈ clos env sc.names [],p.2 = a) with
      | inl q=>exact q3 x (hcl x a hx q)
      | inr q =>
        refine by_c fun no=>?_
        obtain ⟨w,⟨o,ho,hd⟩,hr⟩ := R.cell x a hx
        refine no ?_;clear no
        have := hcell x a hx q o ho
        rw [q1] at this; cases this
theorem comp_stays (K:CompSc c sc ts) (Y:EnvOk W env c h₀) {hs:List Addr} (hid:Hid h₀ env H hs) (hCn:C ∉ hs) {b:Addr} (hb:b ∈ hs) {o:Obj} (e:s.heap.get? b = some o):(Mine.prot (cEnv sc env C) (env.locals :: h₀.fs) H s.heap).get? b = some o := by
  obtain ⟨h1,h2,h3,h4⟩ := hid b hb
  refine prot_get e h1 (fun q=>hCn (by have h2:b = C := q; rw [← h2]; exact hb)) fun p hp q=>?_
  obtain ⟨p',hp',hp2⟩ := lookup_mem (clos_is K Y hp).1
  exact h4 p' hp' (hp2.trans q)
theorem tgt_inner (K:CompSc c sc ts) {target:Expr} (ht:twoNames target = some ts):tgtO (inner c sc ts) target = some (tgtOf ts.length) := by
  rcases twoNames_is ht with ⟨x,p,rfl,rfl⟩ | ⟨x,p,y,p',k,tp,rfl,rfl⟩
  · clear ht
    have h1 := K.tsl x (.head _)
    show (Cx.own (inner c sc [x]) x).map Tgt.one = _
    simp only [Cx.own,h1,isOwn,if_true,inner,List.cons_append,List.nil_append,List.idxOf?_cons,beq_self_eq_true]
    rfl
  · clear ht
    have h1 := K.tsl x (.head _)
    have h2 := K.tsl y (.tail _ (.head _))
    have hne:x ≠ y := by
      rcases K.shape with ⟨z,hz⟩ | ⟨a,b,hz,hne⟩
      · cases hz
      · cases hz; exact hne
    have hb:(x == y) = false := by simpa using hne
    show ((Cx.own (inner c sc [x,y]) x) >>= fun i=>(Cx.own (inner c sc [x,y]) y) >>= fun j=>pure (Tgt.two i j)) = _
    simp only [Cx.own,h1,h2,isOwn,if_true,inner,List.cons_append,List.nil_append,List.idxOf?_cons,beq_self_eq_true,hb]
    rfl
end Mine
namespace Mine
open PySem PySem.W PyProof.Rows
variable {W:Wd} {G:GEnv} {A:Around} {h₀:HB} {env:Env} {c:Cx} {names:List Str} {H H':AH} {ρ ρ' ρt:Loc} {s s':Shared} {E:Value → Shared → Prop} {n:Nat} {Q:Post} {sc:Scope} {ts:List Str} {C:Addr} {Er:EP}
theorem compLoop_go {R:Result → Shared → Prop} {elt target iter:Expr} {ifs:List Expr} {scope:Scope} {pos:Pos} {it acc:Value} {env:Env} (I:Nat → Shared → Prop)
    (turn:∀ n s,I n s → wpAny W.M A (pyNext it) (fun r s₁=>match r with
      | none=>R (.ok .next) s₁
      | some v=>wpAny W.M A (letOwnedTupleGo target it v) (fun _ s₁'=>wpAny W.M A (assign target env v) (fun _ s₂ =>
          wpAny W.M A (forIn ifs true fun c r=>if r = true then do let ok ← isTrue c env (eval c env); pure (ForInStep.yield ok) else pure (ForInStep.yield r)) (fun ok s₃ =>
            if ok = true then wpAny W.M A (eval elt env) (fun x s₄ =>
              wpAny W.M A (call (.builtin "list.append") [acc,x]) (fun _ s₅=>∃ m,m < n ∧ I m s₅) (notedBy W.M A env fun e s'=>R (.error e) s') s₄) (notedBy W.M A env fun e s'=>R (.error e) s') s₃
            else ∃ m,m < n ∧ I m s₃) (notedBy W.M A env fun e s'=>R (.error e) s') s₂) (notedBy W.M A env fun e s'=>R (.error e) s') s₁') (notedBy W.M A env fun e s'=>R (.error e) s') s₁) (notedBy W.M A env fun e s'=>R (.error e) s') s)
    (n:Nat) (h:I n s):codeAny W.M A (.compLoop (.ListComp elt [⟨target,iter,ifs,0⟩] scope pos) 0 it acc env) R s := by
  refine codeAny_loop rfl I (fun n s hI=>?_) n h
  show wpAny _ A ((compTurn (.ListComp elt [⟨target,iter,ifs,0⟩] scope pos) 0 it acc env).onRaise (fun x=>do noteFrame x env; theTreesLotGoes x)) _ _ s
  refine wpAny_noted ?_
  rw [compTurn_list]
  refine wpAny_bind (wpAny_standAt (wpAny_bind (wpAny_mono (turn n s hI) (fun r s₁ h₁=>?_) fun _ _ h'=>h')))
  cases r with
  | none=>exact wpAny_pure h₁
  | some v =>
    refine wpAny_bind (wpAny_mono h₁ (fun _ s₁' h₁'=>?_) fun _ _ h'=>h')
    refine wpAny_bind (wpAny_mono h₁' (fun _ s₂ h₂=>wpAny_bind (wpAny_mono h₂ (fun ok s₃ h₃=>?_) fun _ _ h'=>h')) fun _ _ h'=>h')
    cases ok with
    | false=>exact wpAny_pure ⟨rfl,h₃⟩
    | true =>
      exact wpAny_bind (wpAny_bind (wpAny_mono h₃ (fun x s₄ h₄=>wpAny_bind (wpAny_mono h₄ (fun _ s₅ h₅=>wpAny_pure (wpAny_pure ⟨rfl,h₅⟩)) fun _ _ h'=>h')) fun _ _ h'=>h'))
theorem bindT_comp {it:It} {k:Nat} {N:Loc → Prop} (hk:ρt.length = k) (hk':k = 1 ∨ k = 2) (h:bindT (tgtOf k) it (ρt ++ ρ) H N):bindT (tgtOf k) it (ρt ++ ρ) H (fun ρ'=>(∃ ρt':Loc,ρ' = ρt' ++ ρ ∧ ρt'.length = k) ∧ N ρ') := by
  rcases hk' with rfl | rfl
  · simp only [tgtOf,if_true] at h ⊢
    delta bindT at h ⊢
    cases it with
    | v x=>exact ⟨⟨ρt.set 0 (some x),by rw [List.set_append_left _ _ (by (first | lia | omega))],by simp [hk]⟩,h⟩
    | pair a b=>exact h.elim
  · have e2:tgtOf 2 = .two 0 1 := rfl
    rw [e2] at h ⊢
    have key:∀ x y:V,∃ ρt':Loc,((ρt ++ ρ).set 0 (some x)).set 1 (some y) = ρt' ++ ρ ∧ ρt'.length = 2 := fun x y =>
      ⟨(ρt.set 0 (some x)).set 1 (some y),by rw [List.set_append_left _ _ (by (first | lia | omega)),List.set_append_left _ _ (by simp; (first | lia | omega))],by simp [hk]⟩
    cases it with
    | v x =>
      cases x with
      | ref a =>
        have h':(match H a with | some (.tuple [x,y])=>N (((ρt ++ ρ).set 0 (some x)).set 1 (some y)) | _=>False) := h
        show (match H a with | some (.tuple [x,y])=>(∃ ρt':Loc,((ρt ++ ρ).set 0 (some x)).set 1 (some y) = ρt' ++ ρ ∧ ρt'.length = 2) ∧ N (((ρt ++ ρ).set 0 (some x)).set 1 (some y)) | _=>False)
        clear h
        split at h'
        · rename_i x y e
          exact ⟨key _ _,h'⟩
        · exact h'.elim
      | _=>exact h.elim
    | pair a b=>exact ⟨key _ _,h⟩
noncomputable def SB (W:Wd) (G:GEnv) (n:Nat) (c:Cx) (ifs:List Expr) (elt:Expr) (body:Loc → AH → (Option V → AH → Prop) → Prop):Prop :=
  ∀ {A:Around} {env:Env} {h₀:HB} {H:AH} {ρ:Loc} {s:Shared} {Kk:Option V → AH → Prop} {E:Value → Shared → Prop},AOk A c h₀ env EF n → EnvOk W env c h₀ → Rel W h₀ env c.names H ρ s → body ρ H Kk →
    wpAny W.M A (forIn ifs true fun c r=>if r = true then do let ok ← isTrue c env (eval c env); pure (ForInStep.yield ok) else pure (ForInStep.yield r)) (fun ok s₃ =>
      if ok = true then wpAny W.M A (eval elt env) (fun x s₄=>(Ex2 fun a H4=>An3 (VR W a x) (Rel W h₀ env c.names H4 ρ s₄) (Kk (some a) H4))) E s₃
      else ∃ H4,Rel W h₀ env c.names H4 ρ s₃ ∧ Kk none H4) E s
theorem sb_plain {elt:Expr} {x:X} (h:SE W G n c elt x):SB W G n c [] elt (fun ρ H K=>wpE G (callN G n) x ρ H (fun v H=>K (some v) H) EF) := by
  intro A env h₀ H ρ s Kk E ok Y R q
  refine wpAny_pure ?_
  simp only [if_true]
  exact wpAny_mono (h ok Y R q) (fun v s' r=>r) fun _ _ e=>e.ef
theorem sb_cond {cond elt:Expr} {x y:X} (hc:ST W G n c cond y) (h:SE W G n c elt x) :
    SB W G n c [cond] elt (fun ρ H K=>wpE G (callN G n) y ρ H (fun v H=>truthy v fun b=>if b then wpE G (callN G n) x ρ H (fun v H=>K (some v) H) EF else K none H) EF) := by
  intro A env h₀ H ρ s Kk E ok Y R q
  rw [List.forIn_cons]
  refine wpAny_bind ?_
  simp only [if_true]
  refine wpAny_bind (wpAny_mono (hc (Q := fun b H=>if b then wpE G (callN G n) x ρ H (fun v H=>Kk (some v) H) EF else Kk none H) ok Y R q) (fun b s' r=>wpAny_pure ?_) fun _ _ e=>e.ef)
  obtain ⟨H',R',q'⟩ := r
  refine wpAny_pure ?_
  cases b with
  | true =>
    simp only [if_true] at q' ⊢
    exact wpAny_mono (h ok Y R' q') (fun v s' r=>r) fun _ _ e=>e.ef
  | false =>
    simp only [Bool.false_eq_true,if_false] at q' ⊢
    exact ⟨H',R',q'⟩
theorem compNs_of (K:CompSc c sc ts) {hP:HB} (R:Rel W hP (cEnv sc env C) (inner c sc ts).names H (ρt ++ ρ) s) (hl:ρt.length = ts.length):CompNs W ts C ρt s.heap := by
  obtain ⟨m,h1,h2⟩ := R.ns
  refine ⟨m,h1,fun x i v e1 e2=>?_⟩
  have hx := mem_of_idxOf e1
  obtain ⟨h3,j,h4,h5⟩ := idxOf_append_mem (l' := c.names) hx
  rw [h4] at e1; cases e1
  refine h2 x _ v (h3.trans h4) ((relabel_lookup (env := env) (K.tsl x hx)).1 (by simp)) ?_
  rw [List.getElem?_append_left (by (first | lia | omega))]; exact e2
theorem CompNs.at {h h':Heap} (x:CompNs W ts C ρt h) (k:∀ o,h.get? C = some o → h'.get? C = some o):CompNs W ts C ρt h' := by
  obtain ⟨m,⟨o,es,ep,h1,h2⟩,h3⟩ := x
  exact ⟨m,⟨o,es,ep,k _ h1,h2⟩,h3⟩
theorem comp_block (K:CompSc c sc ts) (hf:c.hnd = false) (ok:AOk A c h₀ env Er n) (Y:EnvOk W env c h₀) (R:Rel W h₀ env c.names H ρ s) {elt target iter:Expr} {ifs:List Expr} {pos:Pos} {I:Addr} {hs:List Addr} {its:List It} {g:AH → Prop} {Obs:Nat → Heap → Prop}
    (S:Src W A target I hs its g Obs) (hid:Hid h₀ env H hs) (st:Obs 0 s.heap) (ht:twoNames target = some ts) (hz:its.length ≤ big) {body:Loc → AH → (Option V → AH → Prop) → Prop} (hb:SB W G n (inner c sc ts) ifs elt body)
    (q:gather g (tgtOf ts.length) body (fun vs H=>alloc (.list vs) H Q) its [] (List.replicate ts.length none ++ ρ) H) {RR:Value → Addr → Result → Shared → Prop}
    (hfin:∀ D C H' s',Rel W h₀ env c.names H' ρ s' → Hid h₀ env H' [C] → (∃ m,s'.heap.Ns C m) → Q (.ref D) H' → RR (.ref D) C (.ok .next) s') :
    wpAny W.M A (newList []) (fun acc s₃=>wpAny W.M A (newFunctionEnv sc env.globals (clos env sc.names []) [] env.qual none .none (some env)) (fun cenv s₄ =>
      codeAny W.M A (.compStart (.ListComp elt [⟨target,iter,ifs,0⟩] sc pos) 0 (.ref I) acc { cenv with scope := relabel sc env }) (RR acc cenv.locals) s₄) E s₃) E s := by
  have hk12:ts.length = 1 ∨ ts.length = 2 := by rcases K.shape with ⟨x,rfl⟩ | ⟨x,y,rfl,_⟩ <;> simp
  refine wpAny_newObj_type (wpAny_newFunctionEnv K.nocell (by intro y hy; simp at hy) (fun h₁ hns₁ hsb₁=>?_) K.kind)
  dsimp only at hns₁ hsb₁ ⊢
  generalize hH2:s.heap.push { cls := .type "list",dict := none,data := .seq ([]:List Value).toArray } = H2 at hns₁ hsb₁ ⊢
  have hCs:H2.objs.size = s.heap.objs.size + 1 := by rw [← hH2,Heap.size_push]
  generalize hCd:H2.objs.size = C at *
  generalize hDd:s.heap.objs.size = D at *
  have hDC:D ≠ C := by rw [hCs]; exact (Nat.succ_ne_self _).symm
  have old:∀ b o,s.heap.get? b = some o → h₁.get? b = some o := fun b o e=>by
    have hlt := Heap.lt_size e
    rw [hDd] at hlt
    exact hsb₁.extBut b o (by rw [hCs]; exact Nat.ne_of_lt (Nat.lt_succ_of_lt hlt)) (Heap.get?_push_of_some _ (hH2 ▸ Heap.get?_push_of_some _ e))
  have hD1:h₁.get? D = some { cls := .type "list",dict := none,data := .seq ([]:List Value).toArray } :=
    hsb₁.extBut _ _ hDC (Heap.get?_push_of_some _ (by rw [← hH2,← hDd]; exact Heap.get?_push_size _ rfl))
  have hb0:W.b₀.objs.size ≤ D := by rw [← hDd]; exact R.up
  have hb0C:W.b₀.objs.size ≤ C := by rw [hCs]; exact Nat.le_succ_of_le hb0
  have hidD:Hid h₀ env H [D] := Hid.one Y R (newAt (by rw [hDd]; exact Nat.le_refl _)) hb0
  have hidC:Hid h₀ env H [C] := Hid.one Y R (newAt (by rw [hDd,hCs]; exact Nat.le_succ _)) hb0C
  have hslt:∀ b ∈ hs,b < D := fun b hb=>by obtain ⟨o,e⟩ := S.live 0 _ st b hb; rw [← hDd]; exact Heap.lt_size e
  have hDhs:D ∉ hs := fun h=>Nat.lt_irrefl _ (hslt D h)
  have hChs:C ∉ hs := fun h=>by have := hslt C h; rw [hCs] at this; exact Nat.lt_irrefl _ (Nat.lt_of_succ_lt this)
  have loop:∀ s₃:Shared,s₃ = { s with heap := h₁,toks := s.toks + ([]:List (Str × Value)).length } →
      codeAny W.M A (.compLoop (.ListComp elt [⟨target,iter,ifs,0⟩] sc pos) 0 (.ref I) (.ref D) (cEnv sc env C)) (RR (.ref D) C) s₃ := by
    rintro s₃ rfl
    refine compLoop_go (fun k s=>(Ex6 fun i H acc items ρt nn=>An13 (Rel W h₀ env c.names H ρ s) (Hid h₀ env H hs) (Hid h₀ env H [C]) (Hid h₀ env H [D]) (Obs i s.heap) (s.heap.get? D = some { cls := .type "list",data := .seq (items:List Value).toArray nn }) (VRs W acc items) (acc.length ≤ i) (CompNs W ts C ρt s.heap) (ρt.length = ts.length) (gather g (tgtOf ts.length) body (fun vs H=>alloc (.list vs) H Q) (its.drop i) acc (ρt ++ ρ) H) (i ≤ its.length) (k = its.length - i + 1))) ?_ (its.length + 1)
      ⟨0,H,[],[],List.replicate ts.length none,_,R.move _ old,hid,hidC,hidD,S.frame 0 _ _ st fun b _ o e=>old b o e,hD1,.nil,Nat.le_refl _,⟨_,hns₁,fun x i v e1 e2=>?_⟩,by simp,q,Nat.zero_le _,by simp⟩
    · rintro k s hPt4
      refine by_c fun no=>?_
      obtain ⟨i,H,acc,items,ρt,nn,R,hid,hidC,hidD,st,hD,hacc,hai,hn,hl,q,hi,rfl⟩ := hPt4
      refine no ?_;clear no
      have hclean:its.length ≤ 1048576 := hz
      cases hd:its.drop i with
      | nil =>
        rw [hd] at q
        obtain ⟨g1,q⟩ := q
        have:i = its.length := by
          have := congrArg List.length hd
          simp at this; (first | lia | omega)
        subst this
        refine wpAny_mono (S.done Y R hid g1 st) (fun r s₁ h₁=>?_) fun _ _ e=>e
        refine by_c fun no=>?_
        obtain ⟨rfl,R1,hk1⟩ := h₁
        refine no ?_;clear no
        refine by_c fun no=>?_
        obtain ⟨d1,d2,d3,d4⟩ := hidD D (.head _)
        refine no ?_;clear no
        have R2 := R1.add (a := D) (o := .list acc) (hk1 _ _ hDhs hD) (.list hacc (Nat.le_trans hai hz)) d1 d2 d3 (fun x e=>by obtain ⟨p,hp,hp2⟩ := lookup_mem e; exact d4 p hp hp2) hb0
        refine hfin D C _ _ R2 (fun b hb=>?_) ?_ (q D d1)
        · obtain ⟨c1,c2⟩ := hidC b hb
          refine ⟨?_,c2⟩
          have:b = C := by simpa using hb
          subst this
          simp [upd,Ne.symm hDC,c1]
        · obtain ⟨m,hm,_⟩ := hn.at fun o e=>hk1 C o hChs e
          exact ⟨m,hm⟩
      | cons y r =>
        rw [hd] at q
        obtain ⟨g1,q⟩ := q
        obtain ⟨hx,hd'⟩ := drop_cons hd
        have hlt:i < its.length := (List.getElem?_eq_some_iff.mp hx).1
        refine wpAny_mono (S.turn (E' := notedBy W.M A (cEnv sc env C) fun e s'=>RR (.ref D) C (.error e) s') Y R hid g1 st hx) (fun r s₁ h₁=>?_) fun _ _ e=>e
        refine by_c fun no=>?_
        obtain ⟨v,rfl,h₁⟩ := h₁
        refine no ?_;clear no
        refine wpAny_mono h₁ (fun _ s₂ h₂=>?_) fun _ _ e=>e
        refine by_c fun no=>?_
        obtain ⟨R2,st2,hit,hk2⟩ := h₂
        refine no ?_;clear no
        have hn2 := hn.at fun o e=>hk2 C o hChs e
        have hD2 := hk2 _ _ hDhs hD
        have YP := Y.comp K R2 hidC hb0C
        have RP := R2.toComp K Y hidC hb0C hl hn2
        refine wpAny_mono (assign_tgt YP RP (ok.handled hf) (tgt_inner K ht) hit (bindT_comp hl hk12 q)) (fun _ s₃ h₃=>?_) fun _ _ e=>e
        refine by_c fun no=>?_
        obtain ⟨ρ3,R3,⟨ρt',rfl,hl'⟩,q3⟩ := h₃
        refine no ?_;clear no
        have fin:∀ {s₄:Shared} {H4:AH},Rel W (Mine.prot (cEnv sc env C) (env.locals :: h₀.fs) H s₂.heap) (cEnv sc env C) (inner c sc ts).names H4 (ρt' ++ ρ) s₄ →
            Rel W h₀ env c.names H4 ρ s₄ ∧ Hid h₀ env H4 hs ∧ Hid h₀ env H4 [C] ∧ Hid h₀ env H4 [D] ∧ Obs (i + 1) s₄.heap ∧ s₄.heap.get? D = some { cls := .type "list",data := .seq (items:List Value).toArray nn } ∧ CompNs W ts C ρt' s₄.heap := by
          intro s₄ H4 R4
          have none_at:∀ b o,(Mine.prot (cEnv sc env C) (env.locals :: h₀.fs) H s₂.heap).get? b = some o → H4 b = none := fun b o e=>by
            cases z:H4 b with
            | none=>rfl
            | some w=>have := (R4.sep b w z).1; rw [e] at this; cases this
          refine ⟨R2.ofComp K Y hidC hl' R4,fun b hb=>⟨?_,(hid b hb).2⟩,fun b hb=>⟨?_,(hidC b hb).2⟩,fun b hb=>⟨?_,(hidD b hb).2⟩,?_,?_,compNs_of K R4 hl'⟩
          · obtain ⟨o,e⟩ := S.live _ _ st2 b hb
            exact none_at b o (comp_stays K Y hid hChs hb e)
          · have:b = C := by simpa using hb
            subst this
            cases z:H4 b with
            | none=>rfl
            | some w=>exact absurd rfl (R4.sep b w z).2.1
          · have:b = D := by simpa using hb
            subst this
            exact none_at b _ (comp_stays K Y hidD (by simpa using Ne.symm hDC) hb hD2)
          · exact S.frame _ _ _ st2 fun b hb o e=>R4.keep.exact (comp_stays K Y hid hChs hb e) (.inl fun m=>Y.fsok b ((List.mem_cons.mp m).resolve_left (hid b hb).2.2.1) (hid b hb).2.1)
          · exact R4.keep.exact (comp_stays K Y hidD (by simpa using Ne.symm hDC) (.head _) hD2) (.inl fun m=>Y.fsok D ((List.mem_cons.mp m).resolve_left (hidD D (.head _)).2.2.1) (hidD D (.head _)).2.1)
        refine wpAny_mono (hb ⟨fun _=>ok.handled hf,ok.room,ok.units,ok.stk.more fun L m=>.tail _ m,nofun,fun _ _ _ q=>q⟩ YP R3 q3) (fun okb s₄ h₄=>?_) fun _ _ e=>e
        cases okb with
        | false =>
          simp only [Bool.false_eq_true,if_false] at h₄ ⊢
          refine by_c fun no=>?_
          obtain ⟨H4,R4,q4⟩ := h₄
          refine no ?_;clear no
          refine by_c fun no=>?_
          obtain ⟨f1,f2,f3,f4,f5,f6,f7⟩ := fin R4
          refine no ?_;clear no
          exact ⟨its.length - (i + 1) + 1,by (first | lia | omega),i + 1,H4,acc,items,ρt',nn,f1,f2,f3,f4,f5,f6,hacc,by (first | lia | omega),f7,hl',by rw [hd']; exact q4,hlt,rfl⟩
        | true =>
          simp only [if_true] at h₄ ⊢
          refine wpAny_mono h₄ (fun u s₅ h₅=>?_) fun _ _ e=>e
          refine by_c fun no=>?_
          obtain ⟨a,H4,hv,R4,q4⟩ := h₅
          refine no ?_;clear no
          refine by_c fun no=>?_
          obtain ⟨f1,f2,f3,f4,f5,f6,f7⟩ := fin R4
          refine no ?_;clear no
          have hsz:items.length ≤ sizeLine := by rw [← hacc.length]; exact Nat.le_trans hai (Nat.le_trans hi (Nat.le_trans hz big_line))
          refine call_meets F.slot_list_append ⟨_,f6,rfl⟩ F.entry_list_append (F.args_list_append_2 _ _) (list_append _ items.toArray nn u (by simpa using hsz)) ⟨f6,?_⟩
          have hsame:Heap.SameBut D s₅.heap (s₅.heap.update D (Obj.mapSeq (·.push u))) := Heap.SameBut.update ..
          refine by_c fun no=>?_
          obtain ⟨d1,d2,d3,d4⟩ := f4 D (.head _)
          refine no ?_;clear no
          have R6 := f1.swap s₅.toks hsame d1 d2 d3 fun x e=>by obtain ⟨p,hp,hp2⟩ := lookup_mem e; exact d4 p hp hp2
          have hD6:∃ n',(s₅.heap.update D (Obj.mapSeq (·.push u))).get? D = some { cls := .type "list",data := .seq (items ++ [u]).toArray n' } :=
            ⟨_,(Heap.get?_update_self _ f6 rfl).trans (by simp only [Obj.mapSeq,List.push_toArray]; rfl)⟩
          obtain ⟨n',hD6⟩ := hD6
          refine ⟨its.length - (i + 1) + 1,by (first | lia | omega),i + 1,H4,acc ++ [a],items ++ [u],ρt',n',R6,f2,f3,f4,?_,hD6,hacc.append (.cons hv .nil),by simp; (first | lia | omega),?_,hl',by rw [hd']; exact q4,hlt,rfl⟩
          · exact S.frame _ _ _ f5 fun b hb o e=>(hsame.2 b (fun z=>hDhs (z ▸ hb))).trans e
          · exact f7.at fun o e=>(hsame.2 C (Ne.symm hDC)).trans e
    · simp [List.getElem?_replicate] at e2
  exact codeAny_compStart_list (loop _ rfl) (S.self (S.frame 0 _ _ st fun b _ o e=>old b o e) (loop _ rfl))
end Mine
namespace Mine
open PySem PySem.W PyProof.Rows
variable {W:Wd} {G:GEnv} {A:Around} {h₀:HB} {env:Env} {c:Cx} {names:List Str} {H H':AH} {ρ ρ' ρt:Loc} {s s':Shared} {E:Value → Shared → Prop} {n:Nat} {Q:Post} {sc:Scope} {ts:List Str} {C:Addr} {Er:EP}
theorem comp_core (K:CompSc c sc ts) (hf:c.hnd = false) {elt target iter:Expr} {ifs:List Expr} {pos pos':Pos} {x:X} {body:Loc → AH → (Option V → AH → Prop) → Prop} (ht:twoNames target = some ts) (hsrc:SS W G n c iter x (isTwo target)) (hb:SB W G n (inner c sc ts) ifs elt body)
    (hset:∀ env v,foldedSetIterable iter env v = pure v) (ok:AOk A c h₀ env Er n) (Y:EnvOk W env c h₀) (R:Rel W h₀ env c.names H ρ s)
    (q:wpSrc G (callN G n) x ρ H (fun its g H=>its.length ≤ big ∧ gather g (tgtOf ts.length) body (fun vs H=>alloc (.list vs) H Q) its [] (List.replicate ts.length none ++ ρ) H) Er) {use:Option (Value → Sem Unit)} {Q':Value → Shared → Prop}
    (hE:∀ v s',EM W h₀ env c.names ρ Er v s' → E v s') (hfin:∀ D C H' s',Rel W h₀ env c.names H' ρ s' → Hid h₀ env H' [C] → (∃ m,s'.heap.Ns C m) → Q (.ref D) H' → compPost W.M A E use Q' (.ref D) C (.ok .next) s') :
    wpAny W.M A (comprehension (.ListComp elt [⟨target,iter,ifs,0⟩] sc pos) sc env pos' (newList []) false (eval iter env) use) Q' E s := by
  refine wpAny_comprehension_free (g := ⟨target,iter,ifs,0⟩) (gs := []) rfl (hset env) (closureFor_clos fun p hp hq=>?_) K.kind K.locals ?_
  · obtain ⟨a,ha⟩ := comp_cell K Y hp hq
    rw [ha]; rfl
  · exact hsrc (target := target) rfl ok Y R q hE fun I hs its g Obs H' s' S hid st R' q'=>comp_block (G := G) K hf ok Y R' S hid st ht q'.1 hb q'.2 (RR := fun acc C=>compPost W.M A E use Q' acc C) hfin
theorem se_comp_any (K:CompSc c sc ts) (hf:c.hnd = false) {elt target iter:Expr} {ifs:List Expr} {pos:Pos} {x:X} {body:Loc → AH → (Option V → AH → Prop) → Prop} (ht:twoNames target = some ts) (hsrc:SS W G n c iter x (isTwo target)) (hb:SB W G n (inner c sc ts) ifs elt body)
    (hset:∀ env v,foldedSetIterable iter env v = pure v) {e:X}
    (he:∀ ρ H Q E,wpE G (callN G n) e ρ H Q E → wpSrc G (callN G n) x ρ H (fun its g H=>its.length ≤ big ∧ gather g (tgtOf ts.length) body (fun vs H=>alloc (.list vs) H Q) its [] (List.replicate ts.length none ++ ρ) H) E) :
    SE W G n c (.ListComp elt [⟨target,iter,ifs,0⟩] sc pos) e := by
  intro A env h₀ H ρ s Q E ok Y R q
  rw [eval_ListComp]
  refine comp_core (use := none) K hf ht hsrc hb hset ok Y R (he ρ H Q E q) (fun _ _ e=>e) fun D C H' s' R' hid hm q'=>?_
  obtain ⟨m,hm⟩ := hm
  refine by_c fun no=>?_
  obtain ⟨c1,c2,c3,c4⟩ := hid C (.head _)
  refine no ?_;clear no
  exact ⟨m,hm,fun h' hk=>Res.mk (.ref D) (R'.swap s'.toks hk c1 c2 c3 fun x e=>by obtain ⟨p,hp,hp2⟩ := lookup_mem e; exact c4 p hp hp2) q'⟩
theorem st_assign_comp (K:CompSc c sc ts) (hf:c.hnd = false) {elt target iter:Expr} {ifs:List Expr} {pos spos py:Pos} {x:X} {y:Str} {i:Nat} {body:Loc → AH → (Option V → AH → Prop) → Prop} (ht:twoNames target = some ts) (hsrc:SS W G n c iter x (isTwo target)) (hb:SB W G n (inner c sc ts) ifs elt body)
    (hset:∀ env v,foldedSetIterable iter env v = pure v) {e:X}
    (he:∀ ρ H Q E,wpE G (callN G n) e ρ H Q E → wpSrc G (callN G n) x ρ H (fun its g H=>its.length ≤ big ∧ gather g (tgtOf ts.length) body (fun vs H=>alloc (.list vs) H Q) its [] (List.replicate ts.length none ++ ρ) H) E)
    (hi:c.own y = some i):SSt W G n c (.Assign [.Name y py] (.ListComp elt [⟨target,iter,ifs,0⟩] sc pos) spos) (.assign i e) := by
  intro A env h₀ H ρ s N Rt E ok Y R q
  simp only [Jy,t_setattr,t_setitem,Jz,Ja,J0,J1,t_for,t_while,J2,J3,t_raise] at q
  have hsw:∃ b,swapsWith (.ListComp elt [⟨target,iter,ifs,0⟩] sc pos) (some (.Name y py)) spos.line env = pure b := ⟨_,rfl⟩
  obtain ⟨b,hsw⟩ := hsw
  cases b with
  | false =>
    refine wpAny_Assign_Name (wpAny_mono (se_comp_any K hf ht hsrc hb hset he ok Y R q) (fun v s' r=>?_) fun _ _ e=>e.st) hsw
    refine by_c fun no=>?_
    obtain ⟨a,H',hv,R',q'⟩ := r
    refine no ?_;clear no
    exact wpAny_mono (store Y R' hi hv) (fun _ s2 R2=>⟨_,_,R2,q'⟩) fun _ _ e=>e
  | true =>
    rw [exec_Assign_Name_used _ _ _ _ hsw]
    refine wpAny_bind (wpAny_standAt (wpAny_bind ?_))
    refine wpAny_bind ?_
    refine wpAny_mono (Q := fun _ s'=>FlowR W h₀ env c.names N Rt .next s') ?_ (fun _ s' r=>wpAny_pure (wpAny_pure r)) fun _ _ e=>e
    refine comp_core (use := some (assign (.Name y py) env)) (Q' := fun _ s'=>FlowR W h₀ env c.names N Rt .next s') K hf ht hsrc hb hset ok Y R (he ρ H _ E q) (fun _ _ e=>e.st) fun D C H' s' R' hid hm q'=>?_
    obtain ⟨m,hm⟩ := hm
    refine by_c fun no=>?_
    obtain ⟨c1,c2,c3,c4⟩ := hid C (.head _)
    refine no ?_;clear no
    show wpAny _ A (assign (.Name y py) env (.ref D)) _ _ _
    refine wpAny_assign_Name (wpAny_mono (store (Y.prot R') R'.prot hi (.ref D)) (fun _ s2 R2=>?_) fun _ _ e=>e)
    refine by_c fun no=>?_
    obtain ⟨o,es,ep,h1,h2⟩ := hm
    refine no ?_;clear no
    refine ⟨m,R2.keep.ns ⟨o,es,ep,prot_get h1 c1 c3 c4,h2⟩,fun h' hk=>?_⟩
    have R3 := R'.unprot Y R2
    exact ⟨_,_,R3.swap s2.toks hk c1 c2 c3 fun x e=>by obtain ⟨p,hp,hp2⟩ := lookup_mem e; exact c4 p hp hp2,q'⟩
theorem swaps_plain {e:Expr} {t:Option Expr} {l:Nat} (h:notComp e = true):swapsWith e t l env = pure false := by
  cases e <;> first | rfl | cases h
theorem st_assign {e:Expr} {x:X} {y:Str} {i:Nat} {py pos:Pos} (h:SE W G n c e x) (hp:notComp e = true) (hi:c.own y = some i):SSt W G n c (.Assign [.Name y py] e pos) (.assign i x) := by
  intro A env h₀ H ρ s N Rt E ok Y R q
  simp only [Jy,t_setattr,t_setitem,Jz,Ja,J0,J1,t_for,t_while,J2,J3,t_raise] at q
  refine wpAny_Assign_Name (wpAny_mono (h ok Y R q) (fun v s' r=>?_) fun _ _ e=>e.st) (swaps_plain hp)
  obtain ⟨a,H',hv,R',q'⟩ := r
  exact wpAny_mono (store Y R' hi hv) (fun _ s2 R2=>⟨_,_,R2,q'⟩) fun _ _ e=>e
theorem swaps_att {e o:Expr} {x:Str} {p:Pos} {l:Nat}:swapsWith e (some (.Attribute o x p)) l env = pure false := by
  unfold swapsWith
  cases e <;> rfl
theorem swaps_sub {e o i:Expr} {p:Pos} {l:Nat}:swapsWith e (some (.Subscript o i p)) l env = pure false := by
  unfold swapsWith
  cases e <;> rfl
theorem att_name {an:Str} {a:Att} (ha:attOf an = some a):an = attName a := by
  delta attOf at ha
  repeat' split at ha
  all_goals first
    | (rename_i z; simp only [beq_iff_eq] at z; cases ha; exact z)
    | cases ha
theorem st_setattr (g:Gnd W G) {o e:Expr} {x y:X} {an:Str} {a:Att} {pa pos:Pos} (h:SE W G n c e x) (ho:SE W G n c o y) (ha:attOf an = some a):SSt W G n c (.Assign [.Attribute o an pa] e pos) (.setattr y a x) := by
  intro A env h₀ H ρ s N Rt E ok Y R q
  simp only [Jy,t_setattr,t_setitem,Jz,Ja,J0,J1,t_for,t_while,J2,J3,t_raise] at q
  have := att_name ha
  subst this
  refine plainObj_wpAny_Assign_Attribute (wpAny_mono (h ok Y R q) (fun v s' r=>?_) fun _ _ e=>e.st) swaps_att
  refine by_c fun no=>?_
  obtain ⟨av,H',hv,R',q'⟩ := r
  refine no ?_;clear no
  refine wpAny_mono (ho ok Y R' q') (fun v2 s2 r=>?_) fun _ _ e=>e.st
  refine by_c fun no=>?_
  obtain ⟨ao,H2,hv2,R2,q2⟩ := r
  refine no ?_;clear no
  refine wpAny_mono (sound_setAttr Y g.X g.inst R2 hv2 hv q2) (fun _ s3 r=>?_) fun _ _ e=>e
  refine by_c fun no=>?_
  obtain ⟨H3,R3,q3⟩ := r
  refine no ?_;clear no
  exact ⟨_,_,R3,q3⟩
theorem st_setitem {o i e:Expr} {x y z:X} {pa pos:Pos} (h:SE W G n c e x) (ho:SE W G n c o y) (hi:SE W G n c i z):SSt W G n c (.Assign [.Subscript o i pa] e pos) (.setitem y z x) := by
  intro A env h₀ H ρ s N Rt E ok Y R q
  simp only [Jy,t_setattr,t_setitem,Jz,Ja,J0,J1,t_for,t_while,J2,J3,t_raise] at q
  refine wpAny_Assign_Subscript (wpAny_mono (h ok Y R q) (fun v s' r=>?_) fun _ _ e=>e.st) swaps_sub
  refine by_c fun no=>?_
  obtain ⟨av,H',hv,R',q'⟩ := r
  refine no ?_;clear no
  refine wpAny_mono (ho ok Y R' q') (fun v2 s2 r=>?_) fun _ _ e=>e.st
  refine by_c fun no=>?_
  obtain ⟨ao,H2,hv2,R2,q2⟩ := r
  refine no ?_;clear no
  refine wpAny_mono (hi ok Y R2 q2) (fun v3 s3 r=>?_) fun _ _ e=>e.st
  refine by_c fun no=>?_
  obtain ⟨ai,H3,hv3,R3,q3⟩ := r
  refine no ?_;clear no
  refine wpAny_mono (sound_setItem Y R3 hv2 hv3 hv q3) (fun _ s4 r=>?_) fun _ _ e=>e
  refine by_c fun no=>?_
  obtain ⟨H4,R4,q4⟩ := r
  refine no ?_;clear no
  exact ⟨_,_,R4,q4⟩
theorem st_expr {e:Expr} {x:X} {pos:Pos} (h:SE W G n c e x) (hp:notComp e = true):SSt W G n c (.Expr e pos) (.expr x) := by
  intro A env h₀ H ρ s N Rt E ok Y R q
  simp only [Jy,t_setattr,t_setitem,Jz,Ja,J0,J1,t_for,t_while,J2,J3,t_raise] at q
  rw [arm_exec_Expr]
  have hi:interactive env = false := by unfold interactive; rw [Y.kind]; rfl
  refine wpAny_bind (wpAny_standAt ?_)
  simp only [hi,Bool.false_eq_true,if_false]
  refine wpAny_bind (wpAny_of_eq (swaps_plain hp) ?_)
  simp only [Bool.false_eq_true,if_false]
  refine wpAny_bind (wpAny_mono (h ok Y R q) (fun v s' r=>?_) fun _ _ e=>e.st)
  obtain ⟨a,H',hv,R',q'⟩ := r
  exact wpAny_dropValue ⟨_,_,R',q'⟩
theorem st_if {t:Expr} {a b:List Stmt} {x:X} {xa xb:List S} {pos:Pos} (h:ST W G n c t x) (ha:SSts W G n c a xa) (hb:SSts W G n c b xb):SSt W G n c (.If t a b pos) (.ite x xa xb) := by
  intro A env h₀ H ρ s N Rt E ok Y R q
  simp only [Jy,t_setattr,t_setitem,Jz,Ja,J0,J1,t_for,t_while,J2,J3,t_raise] at q
  refine wpAny_If (wpAny_mono (h (Q := fun d H=>if d then wpSs G (callN G n) xa ρ H N Rt E else wpSs G (callN G n) xb ρ H N Rt E) ok Y R q) (fun d s' r=>?_) fun _ _ e=>e.st)
  refine by_c fun no=>?_
  obtain ⟨H',R',q'⟩ := r
  refine no ?_;clear no
  cases d with
  | true=>simp only [if_true] at q' ⊢; exact wpAny_mono (ha ok Y R' q') (fun _ _ r=>r) fun _ _ e=>False.elim e
  | false=>simp only [Bool.false_eq_true,if_false] at q' ⊢; exact wpAny_mono (hb ok Y R' q') (fun _ _ r=>r) fun _ _ e=>False.elim e
theorem st_ret {e:Expr} {x:X} {pos:Pos} (h:SE W G n c e x):SSt W G n c (.Return (some e) pos) (.ret x) := by
  intro A env h₀ H ρ s N Rt E ok Y R q
  simp only [Jy,t_setattr,t_setitem,Jz,Ja,J0,J1,t_for,t_while,J2,J3,t_raise] at q
  refine wpAny_Return_some (wpAny_mono (h ok Y R q) (fun v s' r=>?_) fun _ _ e=>e.st)
  obtain ⟨a,H',hv,R',q'⟩ := r
  exact ⟨a,H',ρ,hv,R',q'⟩
theorem st_pass {pos:Pos}:SSt W G n c (.Pass pos) .pass := by
  intro A env h₀ H ρ s N Rt E ok Y R q
  simp only [Jy,t_setattr,t_setitem,Jz,Ja,J0,J1,t_for,t_while,J2,J3,t_raise] at q
  exact wpAny_Pass ⟨_,_,R,q⟩
end Mine
namespace Mine
open PySem PySem.W PyProof.Rows
variable {W:Wd} {G:GEnv} {c:Cx} {n:Nat} {Er:EP}
noncomputable def plainX:Expr → Bool
  | .Starred ..=>false
  | .Set ..=>false
  | _=>true
structure Good (W:Wd) (G:GEnv) (n:Nat) (c:Cx) (e:Expr) (x:X):Prop where
  se:SE W G n c e x
  st:ST W G n c e x
  px:plainX e = true
theorem px_star {e:Expr} (h:plainX e = true):∀ v p,e ≠ .Starred v p := fun v p q=>by subst q; cases h
theorem px_set {e:Expr} (h:plainX e = true):∀ env v,foldedSetIterable e env v = pure v := fun env v=>by
  cases e <;> first | rfl | cases h
theorem px_mark {e:Expr} (h:plainX e = true) (op:CmpOp):behindInMarks op e = false := by
  cases e <;> first | rfl | cases h
theorem mapO_sound {f:Expr → Option X} (ih:∀ e x,f e = some x → Good W G n c e x) {es:List Expr}:∀ {xs:List X},mapO f es = some xs → SEs W G n c es xs ∧ NS es := by
  induction es with
  | nil=>intro xs h; cases h; exact ⟨ses_nil,fun e he=>by cases he⟩
  | cons e es ih2 =>
    intro xs h
    obtain ⟨x,hx,ys,hy,rfl⟩ := b2 (o := f e) (o' := mapO f es) (k := List.cons) h
    have g := ih e x hx
    obtain ⟨h1,h2⟩ := ih2 hy
    refine ⟨ses_cons g.se h1 (px_star g.px),fun e' he'=>?_⟩
    rcases List.mem_cons.mp he' with rfl | he'
    · exact px_star g.px
    · exact h2 e' he'
theorem boolO_sound {f:Expr → Option X} (ih:∀ e x,f e = some x → Good W G n c e x) {op:BoolOp} {p:Pos}:∀ {es:List Expr} {x:X},boolO f op es = some x → SE W G n c (.BoolOp op es p) x ∧ ST W G n c (.BoolOp op es p) x
  | [],x,h=>by cases h
  | [e],x,h=>by
    simp only [boolO] at h
    have g := ih e x h
    refine ⟨?_,st_one g.st⟩
    intro A env h₀ H ρ s Q E ok Y R q
    exact BoolOp_one (g.se ok Y R q)
  | e :: e2 :: es,x,h=>by
    unfold boolO at h
    cases op with
    | And =>
      obtain ⟨y,hy,z,hz,rfl⟩ := b2 h
      have g := ih e y hy
      obtain ⟨h1,h2⟩ := boolO_sound ih (p := p) hz
      exact ⟨se_and g.se h1,st_and g.st h2⟩
    | Or =>
      obtain ⟨y,hy,z,hz,rfl⟩ := b2 h
      have g := ih e y hy
      obtain ⟨h1,h2⟩ := boolO_sound ih (p := p) hz
      exact ⟨se_or g.se h1,st_or g.st h2⟩
theorem srcO_sound (gd:Gnd W G) (hf:c.hnd = false) {f:Expr → Option X} (ih:∀ e x,f e = some x → Good W G n c e x) {two:Bool} {e:Expr} {x:X} (h:srcO f c two e = some x):SS W G n c e x two ∧ ∀ env v,foldedSetIterable e env v = pure v := by
  have val:∀ {x},(do return X.val (← f e):Option X) = some x → SS W G n c e x two ∧ ∀ env v,foldedSetIterable e env v = pure v := by
    intro x h
    obtain ⟨y,hy,rfl⟩ := b1 h
    have g := ih e y hy
    exact ⟨ss_val hf g.se,px_set g.px⟩
  delta srcO at h
  split at h
  · rename_i x' args hcn
    obtain ⟨p,pos,rfl⟩ := callName_is hcn
    split at h
    · rename_i q
      simp only [Bool.and_eq_true,beq_iff_eq] at q
      obtain ⟨hg,rfl⟩ := q
      split at h
      · obtain ⟨ys,hy,rfl⟩ := b1 h
        obtain ⟨h1,h2⟩ := mapO_sound ih hy
        exact ⟨ss_range gd hf hg h1 h2,fun _ _=>rfl⟩
      · cases h
    · split at h
      · rename_i q
        simp only [Bool.and_eq_true,beq_iff_eq] at q
        obtain ⟨hg,rfl⟩ := q
        split at h
        · rename_i a
          split at h
          · rename_i ht
            subst ht
            obtain ⟨y,hy,rfl⟩ := b1 h
            have g := ih a y hy
            exact ⟨ss_enum gd hf hg g.se (px_star g.px),fun _ _=>rfl⟩
          · cases h
        · cases h
      · split at h
        · rename_i q
          simp only [Bool.and_eq_true,beq_iff_eq] at q
          obtain ⟨hg,rfl⟩ := q
          split at h
          · rename_i a
            obtain ⟨y,hy,rfl⟩ := b1 h
            have g := ih a y hy
            exact ⟨ss_rev gd hf hg g.se (px_star g.px),fun _ _=>rfl⟩
          · cases h
        · exact val h
  · exact val h
theorem optO_sound {f:Expr → Option X} (ih:∀ e x,f e = some x → Good W G n c e x):∀ {e:Option Expr} {x:X},optO f e = some x → SO W G n c e x
  | none,x,h=>by cases h; exact so_none
  | some e,x,h=>so_some (ih e x h).se
theorem se_sortedSet (g:Gnd W G) (hf:c.hnd = false) {p sp pos pos':Pos} {e:Expr} {x:X} (hg:c.global "sorted" = true) (hgs:c.global "set" = true) (h:SE W G n c e x) (hn:∀ v p,e ≠ .Starred v p) :
    SE W G n c (.Call (.Name "sorted" p) [.Call (.Name "set" sp) [e] [] pos'] [] pos) (.bi .sortedSet [x]) := by
  intro A env h₀ H ρ s Q E ok Y R q
  simp only [Jb,Jc,Jd,Je,Jf,Jg,Jh,Ji,Jj,Jk,Jl,Jm,Jn,Jo,Jp,Jq,e_lm,Jr,Js,Jt,Ju,Jv,e_meth,e_mk,e_comp,e_compIf,Jw,Jx,e_glob0,e_fnv,e_callv,e_dict] at q
  refine ev_bi g Y R (.inl ⟨"sorted",rfl⟩) hg (by decide) (by decide) (by kernel_rfl) (by decide) (ns1 fun _ _ q=>by cases q) ?_
  rw [notStar_eval (fun _ _ q=>by cases q)]
  refine Calls.evalArgs_plain (Calls.spliced_cons ?_)
  refine ev_bi g Y R (.inr ⟨"set",rfl⟩) hgs (by decide) (by decide) (by kernel_rfl) (by decide) (ns1 hn) ?_
  rw [notStar_eval hn]
  refine Calls.evalArgs_plain (Calls.spliced_cons (wpAny_mono (h ok Y R q) (fun u s' r=>Calls.spliced_nil ?_) fun _ _ e=>e))
  refine by_c fun no=>?_
  obtain ⟨a,H',hv,R',q'⟩ := r
  refine no ?_;clear no
  have key:(Ex3 fun l xs ns=>An5 (a = .ref l) (H' l = some (.list xs)) (ints? xs = some ns) ((∀ k ∈ ns,0 ≤ k ∧ k < 60)) (alloc (.list ((sortI (dedupI ns)).map V.int)) H' Q)):= by
    cases a with
    | ref l =>
      replace q':ssOp [.ref l] H' Q := q'
      delta ssOp at q'
      dsimp only at q'
      split at q'
      · split at q'
        · rename_i xs e1 _ ns e2
          exact ⟨l,xs,ns,rfl,e1,e2,q'.2.1,q'.2.2⟩
        · exact q'.elim
      · exact q'.elim
    | _=>exact q'.elim
  refine by_c fun no=>?_
  obtain ⟨l,xs,ns,rfl,e1,e2,hz,q2⟩ := key
  refine no ?_;clear no
  cases hv
  refine by_c fun no=>?_
  obtain ⟨l1,h1,r1,z1⟩ := R'.isList e1
  refine no ?_;clear no
  refine set_list (ok.handled hf) h1 (by simpa using ints_are r1 e2) hz fun h' tk hS hk=>?_
  refine Calls.spliced_nil ?_
  replace hk := fun b o e=>hk b o (Heap.lt_size e) e
  refine sorted_set (ok.handled hf) hS fun D h'' tk' ee vs hn hlt hk' ho hI=>?_
  have hn':s'.heap.get? D = none := by
    cases q:s'.heap.get? D with
    | none=>rfl
    | some o=>rw [hk D o q] at hn; cases hn
  have hb:W.b₀.objs.size ≤ D := by
    refine by_c fun no=>?_
    obtain ⟨m,⟨o,_,_,h,_⟩,_⟩ := R'.ns
    refine no ?_;clear no
    exact Nat.le_trans R'.above (Nat.le_of_lt (hlt _ (by rw [hk _ _ h]; simp)))
  exact Res.mk (.ref _) (R'.put tk' (fun b o e=>hk' b o (hk b o e)) ho (or_list (vrs_ints hI) (by rw [List.length_map,(sortI_perm _).length_eq]; exact Nat.le_trans (hS.len) (by decide))) hn' fun _ _=>hb) (q2 _ (R'.new_sep hn' hb).1)
theorem biOf_sorted {x:Str} {k:Nat} (hb:biOf x k = some .sorted):x = "sorted" := (by decide:∀ p ∈ biTab,p.2.2 = .sorted → p.1 = "sorted") (x,(k,.sorted)) (tab2_mem hb) rfl
theorem biOf_list {x:Str} {k:Nat} (hb:biOf x k = some .list):x = "list" := (by decide:∀ p ∈ biTab,p.2.2 = .list → p.1 = "list") (x,(k,.list)) (tab2_mem hb) rfl
theorem callO_sound (gd:Gnd W G) (hc:SC W G n) {x:Str} {f:Expr → Option X} (ih:∀ e x,f e = some x → Good W G n c e x) {p pos:Pos} {args:List Expr} {y:X} (hg:c.global x = true) (h:callO f c x args = some y):SE W G n c (.Call (.Name x p) args [] pos) y := by
  delta callO at h
  split at h
  · rename_i q
    have hx := beq_iff_eq.mp q
    subst hx
    split at h
    · rename_i e t hta
      obtain ⟨tp,rfl⟩ := twoArgs_is hta
      split at h
      · rename_i hgt
        split at h
        · rename_i ty ht
          obtain ⟨z,hz,rfl⟩ := b1 h
          have g := ih e z hz
          exact @se_isinst W G c n gd ty t p tp pos e z ht hg hgt g.se (px_star g.px)
        · split at h
          · rename_i ht
            have ht := beq_iff_eq.mp ht
            subst ht
            obtain ⟨z,hz,rfl⟩ := b1 h
            have g := ih e z hz
            exact @se_isVE W G c n gd p tp pos e z hg hgt g.se (px_star g.px)
          · cases h
      · cases h
    · cases h
  · split at h
    · split at h
      · rename_i y hy
        obtain ⟨ys,hys,rfl⟩ := b1 h
        obtain ⟨h1,h2⟩ := mapO_sound ih hys
        exact @se_callH W G c n gd hc x y p pos args ys hg hy h1 h2
      · cases h
    rename_i hnf
    have hf:c.hnd = false := by simpa using hnf
    split at h
    · rename_i b hb
      have plain:∀ {y},(do return X.bi b (← mapO f args):Option X) = some y → SE W G n c (.Call (.Name x p) args [] pos) y := by
        intro y h
        obtain ⟨ys,hy,rfl⟩ := b1 h
        obtain ⟨h1,h2⟩ := mapO_sound ih hy
        exact @se_bi W G c n gd hf b x p pos args ys hb hg h1 h2
      split at h
      · split at h
        · rename_i a hi
          obtain ⟨sp,sp',rfl,hgs⟩ := innerCall_is hi
          obtain ⟨z,hz,rfl⟩ := b1 h
          have g := ih a z hz
          have hx := biOf_sorted hb
          subst hx
          exact @se_sortedSet W G c n gd hf p sp pos sp' a z hg hgs g.se (px_star g.px)
        · exact @plain _ h
      · split at h
        · rename_i as hi
          obtain ⟨sp,sp',rfl,hgs⟩ := innerCall_is hi
          split at h
          · obtain ⟨zs,hz,rfl⟩ := b1 h
            obtain ⟨h1,h2⟩ := mapO_sound ih hz
            have hx := biOf_list hb
            subst hx
            exact @se_listRange W G c n gd hf p sp pos sp' as zs hg hgs h1 h2
          · cases h
        · exact @plain _ h
      · exact @plain _ h
    · split at h
      · cases h
      · rename_i q
        simp only [Bool.or_eq_true,not_or,Bool.not_eq_true] at q
        obtain ⟨⟨⟨q1,q2⟩,q3⟩,q4⟩ := q
        have q2':ownFn x = none := by simpa using q2
        split at h
        · rename_i z
          have hx := beq_iff_eq.mp z
          obtain ⟨ys,hy,rfl⟩ := b1 h
          obtain ⟨h1,h2⟩ := mapO_sound ih hy
          exact @se_mk W G c n gd hf hc .web x p pos args ys (.inl ⟨rfl,hx⟩) hg h1 h2
        · split at h
          · rename_i z
            have hx := beq_iff_eq.mp z
            obtain ⟨ys,hy,rfl⟩ := b1 h
            obtain ⟨h1,h2⟩ := mapO_sound ih hy
            exact @se_mk W G c n gd hf hc .verdict x p pos args ys (.inr ⟨rfl,hx⟩) hg h1 h2
          · obtain ⟨ys,hy,rfl⟩ := b1 h
            obtain ⟨h1,h2⟩ := mapO_sound ih hy
            exact @se_call W G c n gd hf hc x p pos args ys hg q3 q4 q2' h1 h2
theorem own_meth {m f:Str} (h:ownMeth m = some f):ownFn f = some (.web,m) := by
  unfold ownMeth at h
  repeat' split at h
  all_goals first
    | (rename_i q; have hx := beq_iff_eq.mp q; subst hx; cases h; decide)
    | (cases h; done)
theorem comp_sound (gd:Gnd W G) (hf:c.hnd = false) {r:Cx → Expr → Option X} (ih:∀ c e x,r c e = some x → Good W G n c e x) {elt t it:Expr} {ifs:List Expr} {a:Int} {sc:Scope} {p:Pos} {x:X} (h:erStep r c (.ListComp elt [⟨t,it,ifs,a⟩] sc p) = some x) :
    ∃ (x':X) (ts:List Str) (K:CompSc c sc ts) (src:X) (body:Loc → AH → (Option V → AH → Prop) → Prop),twoNames t = some ts ∧ SS W G n c it src (isTwo t) ∧ (∀ env v,foldedSetIterable it env v = pure v) ∧ SB W G n (inner c sc ts) ifs elt body ∧
      (∀ ρ H Q E,wpE G (callN G n) x' ρ H Q E → wpSrc G (callN G n) src ρ H (fun its g H=>its.length ≤ big ∧ gather g (tgtOf ts.length) body (fun vs H=>alloc (.list vs) H Q) its [] (List.replicate ts.length none ++ ρ) H) E) ∧ x = x' ∧ a = 0 := by
  (delta erStep at h; dsimp only at h)
  split at h
  · rename_i ts hts
    split at h
    · rename_i q
      simp only [Bool.and_eq_true,beq_iff_eq] at q
      obtain ⟨rfl,hok⟩ := q
      have hsh:(∃ x,ts = [x]) ∨ (Ex2 fun x y=>ts = [x,y]) := by
        rcases twoNames_is hts with ⟨x,_,_,rfl⟩ | ⟨x,_,y,_,_,_,_,rfl⟩
        · exact .inl ⟨x,rfl⟩
        · exact .inr ⟨x,y,rfl⟩
      have K := compSc_of hok hsh
      split at h
      · obtain ⟨y,hy,z,hz,rfl⟩ := b2 h
        obtain ⟨h1,h2⟩ := srcO_sound gd hf (ih c) hy
        exact ⟨_,ts,K,y,_,hts,h1,h2,sb_plain (ih _ _ _ hz).se,fun ρ H Q E q=>by simp only [Jb,Jc,Jd,Je,Jf,Jg,Jh,Ji,Jj,Jk,Jl,Jm,Jn,Jo,Jp,Jq,e_lm,Jr,Js,Jt,Ju,Jv,e_meth,e_mk,e_comp,e_compIf,Jw,Jx,e_glob0,e_fnv,e_callv,e_dict] at q; exact q,rfl,rfl⟩
      · obtain ⟨y,hy,w,hw,z,hz,rfl⟩ := b3 h
        obtain ⟨h1,h2⟩ := srcO_sound gd hf (ih c) hy
        exact ⟨_,ts,K,y,_,hts,h1,h2,sb_cond (ih _ _ _ hw).st (ih _ _ _ hz).se,fun ρ H Q E q=>by simp only [Jb,Jc,Jd,Je,Jf,Jg,Jh,Ji,Jj,Jk,Jl,Jm,Jn,Jo,Jp,Jq,e_lm,Jr,Js,Jt,Ju,Jv,e_meth,e_mk,e_comp,e_compIf,Jw,Jx,e_glob0,e_fnv,e_callv,e_dict] at q; exact q,rfl,rfl⟩
      · cases h
    · cases h
  · cases h
theorem sound_call_step (gd:Gnd W G) (hc:SC W G n) {r:Cx → Expr → Option X} (ih:∀ c e x,r c e = some x → Good W G n c e x) {f:Expr} {args:List Expr} {kws:List Keyword} {p:Pos} {x:X} (hm:c.hnd = false ∨ calmE (.Call f args kws p) = true) (h:erStep r c (.Call f args kws p) = some x):Good W G n c (.Call f args kws p) x := by
  have toGood:∀ {e x},plainX e = true → SE W G n c e x → (∀ env whole,isTrue e env whole = (do let v ← whole; standAt e.pos; holding [v] (PySem.truthy v))) → Good W G n c e x := fun hp hse hi=>⟨hse,hse.toST hi,hp⟩
  refine by_c fun no=>?_
  rcases kws with _ | ⟨kw,kws⟩
  · cases f with
    | Name y p' =>
      replace h:(if c.global y = true then callO (r c) c y args else none) = some x := h
      split at h
      · rename_i hg
        exact no <| toGood rfl (callO_sound gd hc (ih c) hg h) fun _ _=>rfl
      · cases h
    | Attribute o m ap =>
      replace h:(if (ap.endLine == p.line && decide (args.length < 3) && okBase o) = true then (match ownMeth m with
          | some g=>(r c o >>= fun y=>mapO (r c) args >>= fun z=>pure (X.meth g y z))
          | none=>(lmOf m >>= fun l=>r c o >>= fun y=>mapO (r c) args >>= fun z=>pure (X.lm l y z))) else none) = some x := h
      split at h
      · rename_i q
        simp only [Bool.and_eq_true,decide_eq_true_eq] at q
        obtain ⟨⟨q1,q2⟩,q3⟩ := q
        split at h
        · rename_i f hfm
          obtain ⟨y,hy,zs,hz,rfl⟩ := b2 h
          obtain ⟨h1,h2⟩ := mapO_sound (ih c) hz
          exact no <| toGood rfl (se_meth gd (hm.resolve_right nofun) hc q3 q1 q2 (own_meth hfm) (ih c _ _ hy).se h1 h2) fun _ _=>rfl
        · obtain ⟨lm,hlm,y,hy,zs,hz,rfl⟩ := b3 h
          obtain ⟨h1,h2⟩ := mapO_sound (ih c) hz
          exact no <| toGood rfl (se_lm q3 q1 q2 hlm (ih c _ _ hy).se h1 h2) fun _ _=>rfl
      · cases h
    | _=>exact @nn _ _ _ h
  · cases f <;> exact @nn _ _ _ h
theorem sound_step (gd:Gnd W G) (hc:SC W G n) {r:Cx → Expr → Option X} (ih:∀ c e x,r c e = some x → Good W G n c e x) {e:Expr} {x:X} (hm:c.hnd = false ∨ calmE e = true) (h:erStep r c e = some x):Good W G n c e x := by
  have toGood:∀ {e x},plainX e = true → SE W G n c e x → (∀ env whole,isTrue e env whole = (do let v ← whole; standAt e.pos; holding [v] (PySem.truthy v))) → Good W G n c e x := fun hp hse hi=>⟨hse,hse.toST hi,hp⟩
  cases e with
  | Constant k u p =>
    cases k <;> first | exact @nn _ _ _ h | (obtain rfl := Option.some.inj h)
    · exact toGood rfl se_none fun _ _=>rfl
    · exact toGood rfl se_cbool fun _ _=>rfl
    · exact toGood rfl se_cint fun _ _=>rfl
    · exact toGood rfl se_cstr fun _ _=>rfl
  | Name y p =>
    (delta erStep at h; dsimp only at h)
    split at h
    · cases h
    · rename_i q
      simp only [Bool.or_eq_true,not_or,Bool.not_eq_true] at q
      split at h
      · rename_i i hs
        cases h
        exact toGood rfl (se_local hs q.1 q.2) fun _ _=>rfl
      · split at h
        · rename_i hg
          split at h
          · cases h; exact toGood rfl (se_glob gd hg q.1) fun _ _=>rfl
          · cases h
        · cases h
  | UnaryOp op e p =>
    cases op <;> first | exact @nn _ _ _ h | skip
    · obtain ⟨y,hy,rfl⟩ := b1 (o := r c e) (k := X.not) h
      have g := ih c e y hy
      exact ⟨se_not g.se,st_not g.st,rfl⟩
    · obtain ⟨y,hy,rfl⟩ := b1 (o := r c e) (k := X.neg) h
      have g := ih c e y hy
      exact toGood rfl (se_neg g.se) fun _ _=>rfl
  | BoolOp op es p =>
    obtain ⟨h1,h2⟩ := boolO_sound (ih c) (p := p) (show boolO (r c) op es = some x from h)
    exact ⟨h1,h2,rfl⟩
  | BinOp l op e p =>
    obtain ⟨y,hy,z,hz,rfl⟩ := b2 (o := r c l) (o' := r c e) (k := X.bin op) h
    exact toGood rfl (se_bin (ih c _ _ hy).se (ih c _ _ hz).se) fun _ _=>rfl
  | Compare l ops es p =>
    rcases ops with _ | ⟨o,_ | ⟨o',_ | ⟨o3,ops⟩⟩⟩
    · exact @nn _ _ _ h
    · rcases es with _ | ⟨e,_ | ⟨e',es⟩⟩
      · exact @nn _ _ _ h
      · obtain ⟨y,hy,z,hz,rfl⟩ := b2 (o := r c l) (o' := r c e) (k := X.cmp o) h
        have g1 := ih c _ _ hy
        have g2 := ih c _ _ hz
        exact ⟨se_cmp g1.se g2.se (px_mark g2.px _),st_cmp g1.se g2.se (px_mark g2.px _),rfl⟩
      · exact @nn _ _ _ h
    · rcases es with _ | ⟨m,_ | ⟨e,_ | ⟨e',es⟩⟩⟩
      · exact @nn _ _ _ h
      · exact @nn _ _ _ h
      · obtain ⟨y,hy,z,hz,w,hw,rfl⟩ := b3 (o := r c l) (o' := r c m) (p := r c e) (k := fun a b d=>X.chain a o b o' d) h
        have g1 := ih c _ _ hy
        have g2 := ih c _ _ hz
        have g3 := ih c _ _ hw
        have hm:lastMarks [o,o'] [m,e] = false := px_mark g3.px o'
        exact ⟨se_chain g1.se g2.se g3.se hm,st_chain g1.se g2.se g3.se hm,rfl⟩
      · exact @nn _ _ _ h
    · exact @nn _ _ _ h
  | Attribute o a p =>
    replace h:(if okBase o = true then (r c o >>= fun y=>attOf a >>= fun z=>pure (X.attr y z)) else none) = some x := h
    split at h
    · rename_i hb
      obtain ⟨y,hy,at',ha,rfl⟩ := b2 h
      exact toGood rfl (se_attr gd hb ha (ih c _ _ hy).se) fun _ _=>rfl
    · cases h
  | List es p =>
    replace h:(if es.length < 100 then (mapO (r c) es >>= fun y=>pure (X.list y)) else none) = some x := h
    split at h
    · rename_i hl
      obtain ⟨ys,hy,rfl⟩ := b1 h
      exact toGood rfl (se_list (mapO_sound (ih c) hy).1 hl) fun _ _=>rfl
    · cases h
  | Tuple es k p =>
    replace h:(if es.length < 100 then (mapO (r c) es >>= fun y=>pure (X.tuple y)) else none) = some x := h
    split at h
    · rename_i hl
      obtain ⟨ys,hy,rfl⟩ := b1 h
      exact toGood rfl (se_tuple (mapO_sound (ih c) hy).1 hl) fun _ _=>rfl
    · cases h
  | Dict ks vs p =>
    rcases ks with _ | ⟨k,_ | ⟨k',ks⟩⟩
    · rcases vs with _ | ⟨v,vs⟩
      · obtain rfl := Option.some.inj (show some (X.dict [] []) = some x from h)
        exact toGood rfl se_dict0 fun _ _=>rfl
      · exact @nn _ _ _ h
    · rcases k with _ | k
      · exact @nn _ _ _ h
      · rcases vs with _ | ⟨v,_ | ⟨v',vs⟩⟩
        · exact @nn _ _ _ h
        · exact nomatch (show (none:Option X) = some x from h)
        · exact @nn _ _ _ h
    · rcases k with _ | k <;> exact @nn _ _ _ h
  | Subscript o i p =>
    cases hi:notSlice i with
    | true =>
      have e:erStep r c (.Subscript o i p) = (do return .sub (← r c o) (← r c i)) := by cases i <;> first | rfl | cases hi
      rw [e] at h
      obtain ⟨y,hy,z,hz,rfl⟩ := b2 h
      exact toGood rfl (se_sub hi (ih c _ _ hy).se (ih c _ _ hz).se) fun _ _=>rfl
    | false =>
      cases i with
      | Slice l u st p2 =>
        obtain ⟨y,hy,a,ha,b,hb,d,hd,rfl⟩ := b4 (o := r c o) (o' := optO (r c) l) (p := optO (r c) u) (p' := optO (r c) st) (k := X.slice) h
        exact toGood rfl (se_slice (ih c _ _ hy).se (optO_sound (ih c) ha) (optO_sound (ih c) hb) (optO_sound (ih c) hd)) fun _ _=>rfl
      | _=>cases hi
  | Call f args kws p=>exact sound_call_step gd hc (fun c e x h=>ih c e x h) hm h
  | ListComp elt gens sc p =>
    rcases gens with _ | ⟨⟨t,it,ifs,a⟩,_ | ⟨g2,gs⟩⟩
    · exact @nn _ _ _ h
    · obtain ⟨x',ts,K,src,body,ht,hsrc,hset,hb,he,rfl,rfl⟩ := comp_sound gd (hm.resolve_right nofun) ih h
      exact toGood rfl (se_comp_any K (hm.resolve_right nofun) ht hsrc hb hset he) fun _ _=>rfl
    · exact @nn _ _ _ h
  | _=>exact @nn _ _ _ h
theorem calm_or {a b:Bool} (q:¬ (a && !b) = true):a = false ∨ b = true := by cases a <;> cases b <;> simp_all
theorem sound_E (gd:Gnd W G) (hc:SC W G n):∀ (k:Nat) (c:Cx) (e:Expr) (x:X),erE k c e = some x → Good W G n c e x
  | 0,_,_,_,h=>by cases h
  | k + 1,c,e,x,h=>by
    replace h:(if (c.hnd && !calmE e) = true then none else erStep (erE k) c e) = some x := h
    split at h
    · cases h
    · rename_i q
      exact sound_step gd hc (sound_E gd hc k) (calm_or q) h
theorem mapS_sound {f:Stmt → Option S} (ih:∀ e x,f e = some x → SSt W G n c e x) {es:List Stmt}:∀ {xs:List S},mapS f es = some xs → SSts W G n c es xs := by
  induction es with
  | nil=>intro xs h; cases h; exact ssts_nil
  | cons e es ih2 =>
    intro xs h
    cases es with
    | nil =>
      obtain ⟨x,hx,rfl⟩ := b1 (o := f e) (k := fun x=>[x]) h
      exact ssts_one (ih e x hx)
    | cons e' es =>
      obtain ⟨x,hx,ys,hy,rfl⟩ := b2 (o := f e) (o' := mapS f (e' :: es)) (k := List.cons) h
      cases ys with
      | nil=>obtain ⟨_,_,_,_,q⟩ := b2 (o := f e') (o' := mapS f es) (k := List.cons) hy; cases q
      | cons y ys=>exact ssts_cons (ih e x hx) (ih2 hy)
end Mine
namespace Mine
open PySem PySem.W PyProof.Rows
variable {W:Wd} {G:GEnv} {c:Cx} {n:Nat} {Er:EP}
theorem sound_assign (gd:Gnd W G) (hf:c.hnd = false) (hc:SC W G n) {k:Nat} {y:Str} {py pos:Pos} {e:Expr} {i:Nat} {x:X} (hi:c.own y = some i) (h:erE k c e = some x):SSt W G n c (.Assign [.Name y py] e pos) (.assign i x) := by
  cases hn:notComp e with
  | true=>intro A env h₀ H ρ s N Rt E ok Y R q; exact st_assign (sound_E gd hc k c e x h).se hn hi ok Y R q
  | false =>
    cases k with
    | zero=>cases h
    | succ k =>
      have h':erStep (erE k) c e = some x := by
        have z:(if (c.hnd && !calmE e) = true then none else erStep (erE k) c e) = some x := h
        rw [if_neg (by rw [hf]; exact nofun)] at z
        exact z
      cases e with
      | ListComp elt gens sc p =>
        rcases gens with _ | ⟨⟨t,it,ifs,a⟩,_ | ⟨g2,gs⟩⟩
        · exact @nn _ _ _ h'
        · obtain ⟨x',ts,K,src,body,ht,hsrc,hset,hb,he,rfl,rfl⟩ := comp_sound gd hf (sound_E gd hc k) h'
          intro A env h₀ H ρ s N Rt E ok Y R q; exact st_assign_comp K hf ht hsrc hb hset he hi ok Y R q
        · exact @nn _ _ _ h'
      | SetComp _ _ _ _=>exact @nn _ _ _ h'
      | DictComp _ _ _ _ _=>exact @nn _ _ _ h'
      | _=>cases hn
/-! raise and try -/
theorem st_raise (gd:Gnd W G) (hf:c.hnd = false) {e:Option Expr} {cc:Cls} {pos:Pos} (h:raiseCls c e = some cc):SSt W G n c (.Raise e none pos) (.raise cc) := by
  intro A env h₀ H ρ s N Rt E ok Y R q
  rw [t_raise] at q
  exact False.elim q
theorem sound_Sstep (gd:Gnd W G) (hc:SC W G n) {k:Nat} {r:Cx → Stmt → Option S} (ih:∀ c s x,r c s = some x → SSt W G n c s x) {s:Stmt} {x:S} (hm:c.hnd = false ∨ calmS s = true) (hcm:c.cmp = false) (h:erSStep k r c s = some x):SSt W G n c s x := by
  have sE := sound_E gd hc k c
  cases s <;> try exact @nn _ _ _ h
  case Return e p =>
    cases e with
    | none=>exact @nn _ _ _ h
    | some e =>
      delta erSStep at h
      (try dsimp only at h)
      obtain ⟨y,hy,rfl⟩ := b1 h
      intro A env h₀ H ρ s N Rt E ok Y R q; exact st_ret (sE _ _ hy).se ok Y R q
  case Assign ts e p =>
    cases ts with
    | nil=>exact @nn _ _ _ h
    | cons t ts =>
      cases ts with
      | cons t' ts=>exact @nn _ _ _ h
      | nil =>
        delta erSStep at h
        dsimp only at h
        delta erAssign at h
        cases t <;> try exact @nn _ _ _ h
        case Attribute o a p =>
          (try dsimp only at h)
          obtain ⟨y,hy,a,ha,z,hz,rfl⟩ := b3 h
          intro A env h₀ H ρ s N Rt E ok Y R q; exact st_setattr gd (sE _ _ hz).se (sE _ _ hy).se ha ok Y R q
        case Subscript o i p =>
          dsimp only at h
          split at h
          · cases h
          · obtain ⟨y,hy,a,ha,z,hz,rfl⟩ := b3 h
            intro A env h₀ H ρ s N Rt E ok Y R q; exact st_setitem (sE _ _ hz).se (sE _ _ hy).se (sE _ _ ha).se ok Y R q
        case Name y p =>
          (try dsimp only at h)
          obtain ⟨i,hi,y,hy,rfl⟩ := b2 h
          intro A env h₀ H ρ s N Rt E ok Y R q; exact sound_assign gd (hm.resolve_right nofun) hc hi hy ok Y R q
  case For t it body els p =>
    cases els with
    | cons a b=>exact @nn _ _ _ h
    | nil =>
      delta erSStep at h
      (try dsimp only at h)
      obtain ⟨t,ht,y,hy,z,hz,rfl⟩ := b3 h
      obtain ⟨h1,h2⟩ := srcO_sound gd (hm.resolve_right nofun) sE hy
      intro A env h₀ H ρ s N Rt E ok Y R q; exact st_for (hm.resolve_right nofun) h1 ht (mapS_sound (ih c) hz) h2 ok Y R q
  case While t body els p =>
    cases els with
    | cons a b=>exact @nn _ _ _ h
    | nil =>
      delta erSStep at h
      (try dsimp only at h)
      obtain ⟨y,hy,z,hz,rfl⟩ := b2 h
      intro A env h₀ H ρ s N Rt E ok Y R q; exact st_while (sE _ _ hy).st (mapS_sound (ih c) hz) ok Y R q
  case If t a b p =>
    delta erSStep at h
    (try dsimp only at h)
    obtain ⟨y,hy,a,ha,z,hz,rfl⟩ := b3 h
    intro A env h₀ H ρ s N Rt E ok Y R q; exact st_if (sE _ _ hy).st (mapS_sound (ih c) ha) (mapS_sound (ih c) hz) ok Y R q
  case Raise e z p =>
    cases z with
    | some z=>exact @nn _ _ _ h
    | none =>
      delta erSStep at h
      (try dsimp only at h)
      obtain ⟨y,hy,rfl⟩ := b1 h
      intro A env h₀ H ρ s N Rt E ok Y R q; exact st_raise gd (hm.resolve_right nofun) hy ok Y R q
  case Expr e p =>
    delta erSStep at h
    dsimp only at h
    split at h
    · rename_i hn
      obtain ⟨y,hy,rfl⟩ := b1 h
      intro A env h₀ H ρ s N Rt E ok Y R q; exact st_expr (sE _ _ hy).se hn ok Y R q
    · cases h
  case Pass p =>
    cases h; intro A env h₀ H ρ s N Rt E ok Y R q; exact st_pass ok Y R q
theorem sound_S (gd:Gnd W G) (hc:SC W G n):∀ (k:Nat) (c:Cx) (s:Stmt) (x:S),erS k c s = some x → SSt W G n c s x
  | 0,_,_,_,h=>by cases h
  | k + 1,c,s,x,h=>by
    replace h:(if ((c.hnd && !calmS s) || c.cmp) = true then none else erSStep (k + 1) (erS k) c s) = some x := h
    split at h
    · cases h
    · rename_i q
      have q2:¬ (c.hnd && !calmS s) = true ∧ c.cmp = false := by simpa using q
      exact sound_Sstep (k := k + 1) gd hc (sound_S gd hc k) (calm_or q2.1) q2.2 h
/-! calls of functions -/
theorem bindL_out {kindOf:Str → Option NameKind} {x:Str}:∀ {ns:List Str} {vs:List Value} {m:Str → Option Value},x ∉ ns → bindL kindOf (ns.zip vs) m x = m x
  | [],_,_,_=>rfl
  | a :: ns,[],_,_=>rfl
  | a :: ns,u :: vs,m,h=>by
    rw [List.zip_cons_cons]
    unfold bindL
    rw [bindL_out (fun q=>h (.tail _ q))]
    split
    · simp only [show x ≠ a from fun q=>h (by simp [q]),if_false]
    · rfl
theorem bindC_out {kindOf:Str → Option NameKind} {x:Str}:∀ {ns:List Str} {vs:List Value} {m:Str → Option Value},x ∉ ns → bindC kindOf (ns.zip vs) m x = m x
  | [],_,_,_=>rfl
  | a :: ns,[],_,_=>rfl
  | a :: ns,u :: vs,m,h=>by
    rw [List.zip_cons_cons]
    unfold bindC
    rw [bindC_out (fun q=>h (.tail _ q))]
    split
    · rfl
    · simp only [show x ≠ a from fun q=>h (by simp [q]),if_false]
theorem bindL_zip {kindOf:Str → Option NameKind} {x:Str} {v:Value}:∀ {ns:List Str} {vs:List Value} {m:Str → Option Value},ns.Nodup → kindOf x = some .local →
    (∀ i,ns.idxOf? x = some i → vs[i]? = some v → bindL kindOf (ns.zip vs) m x = some v) := by
  intro ns
  induction ns with
  | nil=>intro vs m hn hk i h; simp at h
  | cons a ns ih =>
    intro vs m hn hk i h1 h2
    obtain ⟨hn1,hn2⟩ := List.nodup_cons.mp hn
    cases vs with
    | nil=>simp at h2
    | cons u vs =>
      rw [List.zip_cons_cons]
      unfold bindL
      rw [List.idxOf?_cons] at h1
      cases q:a == x with
      | true =>
        rw [q] at h1
        simp only [if_true,Option.some.injEq] at h1
        subst h1
        have hx := beq_iff_eq.mp q
        subst hx
        simp only [List.getElem?_cons_zero,Option.some.injEq] at h2
        subst h2
        rw [if_pos hk,bindL_out hn1]
        simp
      | false =>
        rw [q] at h1
        simp only [Bool.false_eq_true,if_false] at h1
        obtain ⟨j,hj,rfl⟩ := Option.map_eq_some_iff.mp h1
        simp only [List.getElem?_cons_succ] at h2
        exact ih hn2 hk j hj h2
theorem bindC_zip {kindOf:Str → Option NameKind} {x:Str} {v:Value}:∀ {ns:List Str} {vs:List Value} {m:Str → Option Value},ns.Nodup → kindOf x ≠ some .local →
    (∀ i,ns.idxOf? x = some i → vs[i]? = some v → bindC kindOf (ns.zip vs) m x = some v) := by
  intro ns
  induction ns with
  | nil=>intro vs m hn hk i h; simp at h
  | cons a ns ih =>
    intro vs m hn hk i h1 h2
    obtain ⟨hn1,hn2⟩ := List.nodup_cons.mp hn
    cases vs with
    | nil=>simp at h2
    | cons u vs =>
      rw [List.zip_cons_cons]
      unfold bindC
      rw [List.idxOf?_cons] at h1
      cases q:a == x with
      | true =>
        rw [q] at h1
        simp only [if_true,Option.some.injEq] at h1
        subst h1
        have hx := beq_iff_eq.mp q
        subst hx
        simp only [List.getElem?_cons_zero,Option.some.injEq] at h2
        subst h2
        rw [if_neg hk,bindC_out hn1]
        simp
      | false =>
        rw [q] at h1
        simp only [Bool.false_eq_true,if_false] at h1
        obtain ⟨j,hj,rfl⟩ := Option.map_eq_some_iff.mp h1
        simp only [List.getElem?_cons_succ] at h2
        exact ih hn2 hk j hj h2
theorem nodup_lookup {β:Type}:∀ {l:List (Str × β)},(l.map (·.1)).Nodup → ∀ p ∈ l,l.lookup p.1 = some p.2
  | [],_,p,hp=>by cases hp
  | (y,z) :: r,h,p,hp=>by
    rw [List.map_cons,List.nodup_cons] at h
    rw [List.lookup_cons]
    rcases List.mem_cons.mp hp with rfl | hp'
    · simp
    · have:(p.1 == y) = false := by
        simpa using fun q:p.1 = y=>h.1 (by rw [← q]; exact List.mem_map.mpr ⟨p,hp',rfl⟩)
      rw [this]
      exact nodup_lookup h.2 p hp'
theorem pairwise_inj {l:List (Str × Addr)} (h:l.Pairwise fun x y=>x.2 ≠ y.2) {p q:Str × Addr} (hp:p ∈ l) (hq:q ∈ l) (e:p.2 = q.2):p = q := by
  induction l with
  | nil=>cases hp
  | cons a l ih =>
    obtain ⟨h1,h2⟩ := List.pairwise_cons.mp h
    rcases List.mem_cons.mp hp with e1 | hp'
    · rcases List.mem_cons.mp hq with e2 | hq'
      · rw [e1,e2]
      · exact absurd (e1 ▸ e) (h1 q hq')
    · rcases List.mem_cons.mp hq with e2 | hq'
      · exact absurd (e2 ▸ e).symm (h1 p hp')
      · exact ih h2 hp' hq'
theorem er_facts {hb:Bool} {params:Arguments} {body:List Stmt} {sc:Scope} {d:Fn} (h:erFn hb params body sc = some d):plainParams params = true ∧ sc.kind = .function ∧ sc.isGenerator = false ∧ sc.isCoroutine = false ∧ d.slots = (slotNames params sc).length ∧ d.arity = params.args.length ∧ mapS (erS 40 ⟨slotNames params sc,sc,hb,false⟩) body = some d.body := by
  unfold erFn at h
  split at h
  · rename_i q
    simp only [Bool.and_eq_true,beq_iff_eq,Bool.not_eq_true'] at q
    obtain ⟨b,hb,rfl⟩ := b1 h
    exact ⟨q.1.1.1,q.1.1.2,q.1.2,q.2,rfl,rfl,hb⟩
  · cases h
theorem Rel.back {h₀:HB} {env env':Env} {c:Cx} {names':List Str} {H H':AH} {ρ ρ':Loc} {s s':Shared} (Y:EnvOk W env c h₀) (R:Rel W h₀ env c.names H ρ s) {h₁:HB} (hk:∀ b o,s.heap.get? b = some o → H b = none → h₁.get? b = some o) (hf:∀ b ∈ h₁.fs,b ≠ env.locals → b ∈ h₀.fs) (R':Rel W h₁ env' names' H' ρ' s'):Rel W h₀ env c.names H' ρ s' := by
  have noneL:H env.locals = none := by
    cases q:H env.locals with
    | none=>rfl
    | some x=>exact absurd rfl (R.sep _ _ q).2.1
  have noneC:∀ x a,env.cells.lookup x = some a → H a = none := fun x a e=>by
    cases q:H a with
    | none=>rfl
    | some z=>exact absurd e ((R.sep _ _ q).2.2 x)
  have none0:∀ b o,h₀.get? b = some o → H b = none := fun b o e=>by
    cases q:H b with
    | none=>rfl
    | some z=>have := (R.sep b z q).1; rw [e] at this; cases this
  refine ⟨?_,?_,fun b o e=>(let ⟨o1,e1,z1⟩ := R.keep b o e; let ⟨o2,e2,z2⟩ := R'.keep b o1 (hk b o1 e1 (none0 b o e)); ⟨o2,e2,z1.trans (z2.imp id fun ⟨⟨m,n⟩,z⟩=>⟨⟨hf b m (fun q=>by rw [q,Y.new] at e; cases e),n⟩,z⟩)⟩),R'.objs,?_,R'.gens,R'.os,R.above,R'.low⟩
  · refine by_c fun no=>?_
    obtain ⟨m,⟨o,es,ep,h1,h2⟩,h3⟩ := R.ns
    refine no ?_;clear no
    exact ⟨m,R'.keep.ns ⟨o,es,ep,hk _ _ h1 noneL,h2⟩,h3⟩
  · intro x a e
    refine by_c fun no=>?_
    obtain ⟨w,⟨o,ho,hd⟩,hr⟩ := R.cell x a e
    refine no ?_;clear no
    exact ⟨w,⟨o,R'.keep.exact (hk _ _ ho (noneC x a e)) (.inl fun m=>(by obtain ⟨p,hp,hp2⟩ := lookup_mem e; exact Y.fsok a (hf a m (Y.apart x a e)) (hp2 ▸ Y.newc p hp))),hd⟩,hr⟩
  · intro a o e
    refine by_c fun no=>?_
    obtain ⟨q1,q2,q3⟩ := R'.sep a o e
    refine no ?_;clear no
    refine ⟨?_,?_,?_⟩
    · cases q:h₀.get? a with
      | none=>rfl
      | some z=>obtain ⟨z',e1,_⟩ := R.keep a z q; have := hk a z' e1 (none0 a z q); rw [q1] at this; cases this
    · rintro rfl
      refine by_c fun no=>?_
      obtain ⟨m,⟨o,es,ep,h1,h2⟩,h3⟩ := R.ns
      refine no ?_;clear no
      have := hk _ _ h1 noneL; rw [q1] at this; cases this
    · intro x hx
      refine by_c fun no=>?_
      obtain ⟨w,⟨o,ho,hd⟩,hr⟩ := R.cell x a hx
      refine no ?_;clear no
      have := hk _ _ ho (noneC x a hx); rw [q1] at this; cases this
end Mine
namespace Mine
open PySem PySem.W PyProof.Rows
variable {W:Wd} {G:GEnv} {n:Nat} {Er:EP}
theorem slot_param {params:Arguments} {sc:Scope} {x:Str} {i:Nat} (h:(slotNames params sc).idxOf? x = some i) (hi:i < params.args.length):(params.args.map (·.arg)).idxOf? x = some i := by
  unfold slotNames at h
  cases Classical.em (x ∈ params.args.map (·.arg)) with
  | inl q=>rw [(idxOf_append_mem q).1] at h; exact h
  | inr q =>
    rw [idxOf_append q] at h
    obtain ⟨j,_,rfl⟩ := Option.map_eq_some_iff.mp h
    simp at hi
    (first | lia | omega)
structure Base (W:Wd) (H:AH) (s:Shared):Prop where
  base:∀ b o,W.b₀.get? b = some o → s.heap.get? b = some o
  objs:∀ a o,H a = some o → ∃ ob,s.heap.get? a = some ob ∧ OR W o ob
  low:∀ a es,H a = some (.dict es) → W.b₀.objs.size ≤ a
  bn:∀ a o,H a = some o → W.b₀.get? a = none
  gens:s.gens = #[]
  os:s.os = W.os
  up:W.b₀.objs.size ≤ s.heap.objs.size
  lo:sysModules < W.b₀.objs.size
noncomputable def CoreR (W:Wd) (FS:List Addr) (H:AH) (s:Shared) (Q:Post) (v:Value) (s':Shared):Prop :=
  (Ex6 fun (a:V) (H':AH) (env':Env) (names':List Str) (ρ':Loc) (h₁:HB)=>An5 (h₁.fs = FS) (VR W a v) (Rel W h₁ env' names' H' ρ' s') (Q a H') (∀ b o,s.heap.get? b = some o → H b = none → h₁.get? b = some o))
noncomputable def CoreE (_:Wd) (_:List Addr) (_:AH) (_:Shared) (_:EP) (_:Value) (_:Shared):Prop := False
theorem call_core (g:Gnd W G) (hc:SC W G n) {A:Around} {H:AH} {s:Shared} {Q:Post} {E:EP} {f:Str} {fa:Addr} {vs:List V} {us:List Value} (hh:bang f = false → A.handled = none) (hroom:A.depth + 4 * (n + 1) + 2 < recursionLimit) (hunits:A.units + 30 * (n + 1) + 40 < cLine)
    (FS:List Addr) (hFS:∀ L ∈ FS,H L = none ∧ W.b₀.get? L = none ∧ ∃ o,s.heap.get? L = some o ∧ ∀ vs,o.data ≠ .fields vs) (stk:Stk A FS) (B:Base W H s) (hfa:fnAddr W f = some fa) (hv:VRs W vs us) (q:callN G (n + 1) f vs H Q E) :
    codeAny W.M A (.call (.ref fa) ⟨us,[]⟩) (fun r s'=>match r with | .ok (.ret v)=>CoreR W FS H s Q v s' | .ok _=>False | .error e=>CoreE W FS H s E e s') s := by
  unfold callN at q
  split at q
  · rename_i d hd
    refine by_c fun no=>?_
    obtain ⟨fa',h1,name,qual,params,body,scope,doc,pm,cdv,ct,oc,an,od,osl,F⟩ := g.fn f d hd
    refine no ?_;clear no
    rw [hfa] at h1
    cases h1
    refine by_c fun no=>?_
    obtain ⟨p1,p2,p3,p4,p5,p6,p7⟩ := er_facts F.er
    refine no ?_;clear no
    obtain ⟨har,q⟩ := q
    have X:W.K.In s.heap := fun a o e=>B.base a o (g.X a o e)
    have hlen:params.args.length = us.length := by rw [← p6,har,hv.length]
    refine codeAny_call_function (fd := fnOf name qual params body scope .none .none doc pm an cdv ct) (body := body) (by (first | lia | omega)) (X _ _ F.at_) rfl p4 p3 rfl (codeRec_of X F.code) ?_
    rw [bind_plain (fd := fnOf name qual params body scope .none .none doc pm an cdv ct) p1 rfl hlen F.nodup]
    refine wpAny_pure ?_
    refine wpAny_newFunctionEnv_cells p2 (fun x hx=>?_) fun env' he' s₂ I=>?_
    · have hx':x.1 ∈ params.args.map (·.arg) := (List.of_mem_zip (a := x.1) (b := x.2) hx).1
      rcases F.kinds x.1 hx' with h | h
      · exact .inl h
      · exact .inr ⟨h,cellsFrom_some _ _ _ (.inl h)⟩
    · refine by_c fun no=>?_
      obtain ⟨pp,loose,mg,mb,T⟩ := g.top
      refine no ?_;clear no
      refine by_c fun no=>?_
      obtain ⟨h2,tk2,es2⟩ := I.toInCall.same
      refine no ?_;clear no
      have keep2 := I.toInCall.keep
      have hL:env'.locals = s.heap.objs.size := by rw [he']; rfl
      have hcells:env'.cells = cellsFrom (s.heap.objs.size + 1) scope.names [] := by rw [he']; rfl
      have hkindOf:∀ x,env'.kindOf x = scope.names.lookup x := fun x=>by rw [he']; rfl
      have hkeysnd:(env'.cells.map (·.1)).Nodup := by
        rw [hcells,cellsFrom_names scope.names (s.heap.objs.size + 1) 0 [] [] rfl]; exact F.cells
      refine ⟨T.nolimit.keeps fun b o e=>keep2 b o (B.base b o e),codeAny_func ?_⟩
      have hlow:∀ b o,s.heap.get? b = some o → b ≠ env'.locals ∧ ∀ p ∈ env'.cells,p.2 ≠ b := fun b o e=>by
        have hlt := Heap.lt_size e
        refine ⟨by rw [hL]; exact Nat.ne_of_lt hlt,fun p hp q=>?_⟩
        have := I.above p.1 p.2 hp
        rw [hL,q] at this
        exact Nat.lt_asymm this hlt
      have hprot:∀ b o,s.heap.get? b = some o → H b = none → (Mine.prot env' FS H s₂.heap).get? b = some o := fun b o e hb=>prot_get (keep2 b o e) hb (hlow b o e).1 (hlow b o e).2
      have Y':EnvOk W env' ⟨slotNames params scope,scope,bang f,false⟩ (Mine.prot env' FS H s₂.heap) := by
        refine ⟨by rw [he']; exact p2,by rw [he']; rfl,by rw [he']; rfl,fun x k e _=>(hkindOf x).trans e,fun x e=>absurd rfl (F.nofree _ (lookup_some_mem e)),?_,?_,?_,?_,prot_none (.inr (.inl rfl)),(fun L m q=>by obtain ⟨z,_,o,e,_⟩ := hFS L m; rw [hprot L o e z] at q; cases q),(fun L m=>by obtain ⟨z,z2,o,e,z3⟩ := hFS L m; refine ⟨z2,fun o' e'=>?_⟩; have e2 := prot_of e'; rw [keep2 L o e] at e2; cases e2; exact z3),fun p hp=>prot_none (.inr (.inr ⟨p,hp,rfl⟩)),nodup_lookup hkeysnd,B.lo⟩
        · intro x e
          rw [hkindOf] at e
          rcases e with e | e
          · have := cellsFrom_some (x := x) scope.names (s.heap.objs.size + 1) [] (.inl e)
            rw [← hcells] at this
            exact Option.isSome_iff_exists.mp this
          · exact absurd rfl (F.nofree _ (lookup_some_mem e))
        · intro x a e q
          have := I.above x a (lookup_some_mem e)
          rw [q] at this
          exact Nat.lt_irrefl _ this
        · intro x y a e1 e2
          have := pairwise_inj I.apart (lookup_some_mem e1) (lookup_some_mem e2) rfl
          exact congrArg Prod.fst this
        · intro b o e
          refine hprot b o (B.base b o e) ?_
          cases q:H b with
          | none=>rfl
          | some z=>have := B.bn b z q; rw [e] at this; cases this
      have R':Rel W (Mine.prot env' FS H s₂.heap) env' (slotNames params scope) H (vs.map some ++ List.replicate (d.slots - d.arity) none) s₂ := by
        have key:∀ x i v,(slotNames params scope).idxOf? x = some i → (vs.map some ++ List.replicate (d.slots - d.arity) none)[i]? = some (some v) → (Ex1 fun u=>An3 ((params.args.map (·.arg)).idxOf? x = some i) (us[i]? = some u) (VR W v u)):= by
          intro x i v e1 e2
          have hi:i < vs.length := by
            cases Nat.lt_or_ge i vs.length with
            | inl h=>exact h
            | inr h =>
              rw [List.getElem?_append_right (by simpa using h)] at e2
              obtain ⟨_,z⟩ := List.getElem?_eq_some_iff.mp e2
              simp at z
          rw [List.getElem?_append_left (by simpa using hi),List.getElem?_map] at e2
          refine by_c fun no=>?_
          obtain ⟨v',h1,h2⟩ := Option.map_eq_some_iff.mp e2
          refine no ?_;clear no
          cases h2
          refine by_c fun no=>?_
          obtain ⟨u,h3,h4⟩ := hv.get i h1
          refine no ?_;clear no
          exact ⟨u,slot_param e1 (by (first | lia | omega)),h3,h4⟩
        refine ⟨⟨_,I.toInCall.ns,?_⟩,?_,.of fun _ _ e=>prot_of e,?_,?_,?_,?_,by rw [hL]; exact B.up,B.low⟩
        · intro x i v e1 e2 e3
          refine by_c fun no=>?_
          obtain ⟨u,h1,h2,h3⟩ := key x i v e1 e3
          refine no ?_;clear no
          exact ⟨u,bindL_zip F.nodup e2 i h1 h2,h3⟩
        · intro x a e
          refine ⟨_,I.cell x a e,fun i v e1 e2 e3=>?_⟩
          refine by_c fun no=>?_
          obtain ⟨u,h1,h2,h3⟩ := key x i v e1 e3
          refine no ?_;clear no
          exact ⟨u,bindC_zip F.nodup (by rcases e2 with e2 | e2 <;> rw [e2] <;> simp) i h1 h2,h3⟩
        · intro a o e
          refine by_c fun no=>?_
          obtain ⟨ob,g1,g2⟩ := B.objs a o e
          refine no ?_;clear no
          exact ⟨ob,keep2 _ _ g1,g2⟩
        · intro a o e
          refine by_c fun no=>?_
          obtain ⟨ob,g1,g2⟩ := B.objs a o e
          refine no ?_;clear no
          exact ⟨prot_none (.inl ⟨o,e⟩),(hlow a ob g1).1,fun x q=>by obtain ⟨p,hp,hp2⟩ := lookup_mem q; exact (hlow a ob g1).2 p hp hp2⟩
        · rw [es2]; exact B.gens
        · rw [es2]; exact B.os
      have hframe:env'.frame = some env'.locals := by rw [he']; rfl
      have hkind:env'.scope.kind ≠ .module := by rw [he']; show scope.kind ≠ _; rw [p2]; nofun
      have ok':AOk (A.deeper env') ⟨slotNames params scope,scope,bang f,false⟩ (Mine.prot env' FS H s₂.heap) env' E n := by
        refine by_c fun no=>?_
        obtain ⟨l,hl,hl2⟩ := stk
        refine no ?_;clear no
        refine ⟨hh,by show A.depth + 1 + 4 * n + 4 < _; (first | lia | omega),by show A.units + 3 + 30 * n + 60 < _; (first | lia | omega),⟨env' :: l,Around.frames_deeper hl,fun x m=>?_⟩,fun _=>⟨l,Around.frames_deeper hl,hframe⟩,nofun⟩
        rcases List.mem_cons.mp m with rfl | m
        · exact ⟨hkind,_,hframe,.head _⟩
        · refine by_c fun no=>?_
          obtain ⟨a,L,b,d⟩ := hl2 x m
          refine no ?_;clear no
          exact ⟨a,L,b,.tail _ d⟩
      have hb:SSts W G n ⟨slotNames params scope,scope,bang f,false⟩ body d.body := mapS_sound (fun s x h=>sound_S g hc 40 _ s x h) p7
      refine wpAny_mono (hb ok' Y' R' q) (fun fl s' r=>?_) fun v s' x=>?_
      rotate_left
      · exact False.elim x
      cases fl with
      | next =>
        refine by_c fun no=>?_
        obtain ⟨ρ',H',R3,q3⟩ := r
        refine no ?_;clear no
        exact ⟨.none,H',env',_,ρ',_,rfl,.none,R3,q3,hprot⟩
      | ret v =>
        refine by_c fun no=>?_
        obtain ⟨a,H',ρ',hv',R3,q3⟩ := r
        refine no ?_;clear no
        exact ⟨a,H',env',_,ρ',_,rfl,hv',R3,q3,hprot⟩
      | brk=>exact r.elim
      | cont=>exact r.elim
  · exact q.elim
theorem Rel.frames {env:Env} {c:Cx} {h₀:HB} {names:List Str} {H:AH} {ρ:Loc} {s:Shared} (R:Rel W h₀ env names H ρ s) (Y:EnvOk W env c h₀):∀ L ∈ env.locals :: h₀.fs,H L = none ∧ W.b₀.get? L = none ∧ ∃ o,s.heap.get? L = some o ∧ ∀ vs,o.data ≠ .fields vs := fun L m=>by
  rcases List.mem_cons.mp m with rfl | m
  · refine ⟨?_,newAt R.above,?_⟩
    · cases q:H env.locals with
      | none=>rfl
      | some x=>exact absurd rfl (R.sep _ _ q).2.1
    · refine by_c fun no=>?_
      obtain ⟨_,⟨o,_,_,h,h2,_⟩,_⟩ := R.ns
      refine no ?_;clear no
      exact ⟨o,h,fun vs q=>by rw [h2] at q; cases q⟩
  · refine ⟨?_,(Y.fsd L m).1,R.fsd Y m⟩
    cases z:H L with
    | none=>rfl
    | some x=>exact absurd (R.sep L x z).1 (Y.fsok L m)
theorem sound_call (g:Gnd W G) (hc:SC W G n):SC W G (n + 1) := by
  intro A env c h₀ H ρ s Q E f fa vs us hh hroom hunits stk Y R hfa hv q
  refine codeAny_mono (call_core (E := E) g hc hh hroom hunits (env.locals :: h₀.fs) (R.frames Y) stk ⟨R.keepB Y,R.objs,R.low,(fun a o e=>by cases z:W.b₀.get? a with | none=>rfl | some y=>have := (R.sep a o e).1; rw [Y.base a y z] at this; cases this),R.gens,R.os,R.up,Y.lo⟩ hfa hv q) fun r s' z=>?_
  have hff:∀ {h₁:HB},h₁.fs = env.locals :: h₀.fs → ∀ b ∈ h₁.fs,b ≠ env.locals → b ∈ h₀.fs := fun hfs b m hb=>by rw [hfs] at m; exact (List.mem_cons.mp m).resolve_left hb
  rcases r with e | (v | _ | _ | _) <;> first | exact False.elim z | skip
  refine by_c fun no=>?_
  obtain ⟨a,H',env',names',ρ',h₁,hfs,hv',R3,q3,hp⟩ := z
  refine no ?_;clear no
  exact ⟨a,H',hv',R.back Y hp (hff hfs) R3,q3⟩
theorem sound_C (g:Gnd W G):∀ n,SC W G n := by
  intro n
  induction n with
  | zero =>
    intro A env c h₀ H ρ s Q E f fa vs us hh hroom hunits stk Y R hfa hv q
    exact False.elim q
  | succ n ih=>exact sound_call g ih
theorem run_law (g:Gnd W G) {A:Around} {s:Shared} {Q:Post} {E:Value → Shared → Prop} {f:Str} {fa:Addr} (hh:A.handled = none) (hfr:A.frames = some []) (hroom:A.depth + 4 * (n + 1) + 2 < recursionLimit) (hunits:A.units + 30 * (n + 1) + 40 < cLine)
    (hb:s.heap = W.b₀) (hg:s.gens = #[]) (ho:s.os = W.os) (lo:sysModules < W.b₀.objs.size) (hfa:fnAddr W f = some fa) (q:callN G (n + 1) f [.script W.sn] (fun _=>none) Q EF) :
    codeAny W.M A (.call (.ref fa) ⟨[.ref W.sa],[]⟩) (fun r s'=>match r with
      | .ok (.ret v)=>((Ex2 fun a H'=>VR W a v ∧ Q a H')) ∧ (∀ b o,s.heap.get? b = some o → s'.heap.get? b = some o) ∧ s'.os = s.os ∧ s'.gens = #[]
      | .ok _=>False | .error e=>E e s') s := by
  refine codeAny_mono (call_core (E := EF) (H := fun _=>none) (vs := [.script W.sn]) (us := [.ref W.sa]) g (sound_C g n) (fun _=>hh) hroom hunits [] (fun _ m=>nomatch m) ⟨[],hfr,fun _ m=>absurd m List.not_mem_nil⟩ ⟨fun b o e=>hb ▸ e,(fun _ _ e=>nomatch e),(fun _ _ e=>nomatch e),(fun _ _ e=>nomatch e),hg,ho,(by rw [hb]; exact Nat.le_refl _),lo⟩ hfa (.cons .script .nil) q) fun r s' z=>?_
  rcases r with e | (v | _ | _ | _) <;> first | exact False.elim z | skip
  refine by_c fun no=>?_
  obtain ⟨a,H',env',names',ρ',h₁,hfs,hv',R3,q3,hp⟩ := z
  refine no ?_;clear no
  exact ⟨⟨a,H',hv',q3⟩,fun b o e=>R3.keep.exact (hp b o e rfl) (.inr (by rw [← hb,e]; nofun)),R3.os.trans ho.symm,R3.gens⟩
end Mine
namespace Mine
open PySem PySem.W PyProof.Rows
/-! the ground of a program,by a check -/
noncomputable def clsName:Cls → Str
  | .web=>"Web"
  | .verdict=>"Verdict"
  | c=>excName c
noncomputable def clOf (K:Frag) (cc:Cls):Addr := match nsIn K mainGlobals (clsName cc) with
  | some (some (.ref a))=>a
  | _=>(match nsIn K mainGlobals "Web" with | some (some (.ref a))=>a | _=>0)
noncomputable def fnIs (K:Frag) (hb:Bool) (fa:Addr):Option Fn := match K.lookup fa with
  | some ⟨.type "function",_,.func fd,_⟩=>(match fd.body with
    | .stmts body=>if codeIn K fd.code fd.qualname && decide ((fd.params.args.map (·.arg)).Nodup) && (fd.params.args.map (·.arg)).all (fun x=>fd.scope.names.lookup x == some .local || fd.scope.names.lookup x == some .cell)
        && decide (((cellsFrom 0 fd.scope.names []).map (·.1)).Nodup) && decide ((slotNames fd.params fd.scope).Nodup) && fd.scope.names.all (fun p=>p.2 != .free) && fd.globals == mainGlobals && fd.closure.isEmpty
        && fd.defaults == .none && fd.kwdefaults == .none && fd.builtins == builtinsNs then erFn hb fd.params body fd.scope else none
    | _=>none)
  | _=>none
noncomputable def gAddr (K:Frag) (cl:Cls → Addr) (f:Str):Option Addr :=
  match ownFn f with
  | some (cc,m)=>if nsIn K mainGlobals (clsName cc) == some (some (.ref (cl cc))) && makesIn K (cl cc) then (match findIn K (.ref (cl cc)) m with | some (some (.ref a))=>some a | _=>none) else none
  | none=>(match nsIn K mainGlobals (unbang f) with | some (some (.ref a))=>some a | _=>none)
noncomputable def gFn (K:Frag) (cl:Cls → Addr) (f:Str):Option Fn := (gAddr K cl f).bind (fnIs K (bang f))
noncomputable def gConst (K:Frag) (x:Str):Option V := match nsIn K mainGlobals x with
  | some (some (.int i _))=>some (.int i)
  | some (some (.str s _))=>some (.str s)
  | _=>none
noncomputable def gExc (K:Frag) (cc:Cls):Bool := nsIn K mainGlobals (excName cc) == some (some (.ref (clOf K cc))) && excIn K (clOf K cc) VE "ValueError.__new__" && tailNIn K (mroIn K (clOf K cc))
noncomputable def gEnv (K:Frag):GEnv := ⟨gFn K (clOf K),gConst K,gExc K⟩
noncomputable def allCls:List Cls := [.web,.verdict,.webError,.badWeb,.noPoint,.badText,.badOrder,.hasGap]
noncomputable def subsOk (K:Frag):Bool := allCls.all fun a=>!gExc K a || allCls.all fun b=>!gExc K b || (mroIn K (clOf K a)).contains (.ref (clOf K b)) == (a == b || b == .webError)
theorem fnIs_at {W:Wd} {hb:Bool} {fa:Addr} {d:Fn} (h:fnIs W.K hb fa = some d):∃ name qual params body scope doc pm cdv ct oc an od osl,FnAt W hb fa d name qual params body scope doc pm cdv ct oc an od osl := by
  delta fnIs at h
  split at h
  · rename_i od fd osl e
    split at h
    · rename_i body hb
      split at h
      · rename_i q
        simp only [Bool.and_eq_true,decide_eq_true_eq,List.all_eq_true,Bool.or_eq_true,beq_iff_eq,bne_iff_ne,List.isEmpty_iff] at q
        refine by_c fun no=>?_
        obtain ⟨⟨⟨⟨⟨⟨⟨⟨⟨⟨q1,q2⟩,q3⟩,q4⟩,q5⟩,q6⟩,q7⟩,q8⟩,q9⟩,q10⟩,q11⟩ := q
        refine no ?_;clear no
        refine by_c fun no=>?_
        obtain ⟨f1,f2,f3,f4,f5,f6,f7,f8,f9,f10,f11,f12,f13,f14,f15⟩ := fd
        refine no ?_;clear no
        simp only at hb q1 q2 q3 q4 q5 q6 q7 q8 q9 q10 q11 h
        subst hb q7 q8 q9 q10 q11
        exact ⟨f1,f2,f3,body,f5,_,_,_,_,_,_,_,_,⟨e,rfl,q1,h,q2,q3,q4,q5,q6⟩⟩
      · cases h
    · cases h
  · cases h
theorem gAddr_is {W:Wd} (hcl:W.cl = clOf W.K) {f:Str} {fa:Addr} (h:gAddr W.K (clOf W.K) f = some fa):fnAddr W f = some fa := by
  delta gAddr at h
  delta fnAddr
  rw [hcl]
  split at h
  · rename_i cc m e
    try rw [e]
    split at h
    · exact h
    · cases h
  · rename_i e
    try rw [e]
    exact h
noncomputable def grounded (K:Frag):Bool :=
  instOk K (clOf K .web) && instOk K (clOf K .verdict) && biNames.all (fun x=>nsIn K mainGlobals x == some none) && subsOk K
theorem gnd_of {W:Wd} (hcl:W.cl = clOf W.K) (hX:W.K.In W.b₀) (hT:(Ex4 fun p loose mg mb=>TopRead p loose mg mb W.b₀)) (hg:grounded W.K = true):Gnd W (gEnv W.K) := by
  unfold grounded at hg
  simp only [Bool.and_eq_true,List.all_eq_true,beq_iff_eq] at hg
  refine by_c fun no=>?_
  obtain ⟨⟨⟨h1,h2⟩,h3⟩,h4⟩ := hg
  refine no ?_;clear no
  have exq:∀ cc,gExc W.K cc = true ↔ ExcOk W cc := fun cc=>by
    unfold gExc
    rw [Bool.and_eq_true,Bool.and_eq_true,beq_iff_eq,← hcl]
    exact ⟨fun h=>⟨h.1.1,h.1.2,h.2⟩,fun h=>⟨⟨h.1,h.2⟩,h.3⟩⟩
  have mem:∀ cc:Cls,cc ∈ allCls := fun cc=>by cases cc <;> decide
  refine ⟨hX,hT,?_,h3,?_,?_,?_,fun cc h=>(exq cc).mp h,fun cc cc' x y=>?_,?_⟩
  rotate_left 4
  · unfold subsOk at h4
    have z1 := List.all_eq_true.mp h4 cc (mem cc)
    rw [(exq cc).mpr x] at z1
    have z2 := List.all_eq_true.mp z1 cc' (mem cc')
    rw [(exq cc').mpr y] at z2
    rw [hcl]
    simpa using z2
  rotate_right 4
  · rintro cc (rfl | rfl)
    · rw [hcl]; exact instOk_of h1
    · rw [hcl]; exact instOk_of h2
  · intro x v e
    have e':gConst W.K x = some v := e
    delta gConst at e'
    split at e'
    · rename_i i t q; cases e'; exact ⟨_,q,.int _ _⟩
    · rename_i i t q; cases e'; exact ⟨_,q,.str _ _⟩
    · cases e'
  · intro f d e
    have e':gFn W.K (clOf W.K) f = some d := e
    unfold gFn at e'
    refine by_c fun no=>?_
    obtain ⟨fa,h4,h5⟩ := Option.bind_eq_some_iff.mp e'
    refine no ?_;clear no
    exact ⟨fa,gAddr_is hcl h4,fnIs_at h5⟩
  · intro cc hcc hs
    have hs':(gFn W.K (clOf W.K) (initOf cc)).isSome = true := hs
    obtain ⟨d,hd⟩ := Option.isSome_iff_exists.mp hs'
    unfold gFn at hd
    refine by_c fun no=>?_
    obtain ⟨fa,h4,h5⟩ := Option.bind_eq_some_iff.mp hd
    refine no ?_;clear no
    delta gAddr at h4
    rw [init_is hcc] at h4
    simp only at h4
    split at h4
    · rename_i q
      simp only [Bool.and_eq_true,beq_iff_eq] at q
      rw [hcl]
      rcases hcc with rfl | rfl
      · exact ⟨q.1,q.2⟩
      · exact ⟨q.1,q.2⟩
    · cases h4
  · intro f m fa ho hfa
    refine ⟨?_,?_⟩
    · have := (instOk_of h1).get .many
      rw [hcl]
      exact this
    · intro a q
      have:m ∈ (["__init__","need","beside","tied","ties"]:List Str) := by
        delta ownFn at ho
        repeat' split at ho
        all_goals first
          | (cases ho; decide)
          | (cases ho; done)
      subst q
      cases a <;> revert this <;> decide
theorem gAddr_law {K:Frag} {cl:Cls → Addr} {f:Str} (ho:ownFn f = none) (hb:bang f = false) (h:(gAddr K cl f).isSome = true):∃ a,gAddr K cl f = some a ∧ nsIn K mainGlobals f = some (some (.ref a)) := by
  obtain ⟨a,ha⟩ := Option.isSome_iff_exists.mp h
  refine ⟨a,ha,?_⟩
  delta gAddr at ha
  rw [ho] at ha
  simp only [unbang_id hb] at ha
  split at ha
  · rename_i e; cases ha; exact e
  · cases ha
theorem law_end {prog:Program} {w:World} {K:Frag} {s₁:Shared} {p:Program} {loose:List Str} {mg mb:Str → Option Value} {fa L:Addr} {items:List Value} {nsL:List Int} {c:ClaimW} {cl:Str → Option Addr} {mean:ExcName → Option Value} {args:List WData}
    (KX:K.In s₁.heap) (T:TopRead p loose mg mb s₁.heap) (hgr:grounded K = true) (hf:(gAddr K (clOf K) "law").isSome = true) (hmg:mg "law" = some (.ref fa)) (hg:s₁.gens = #[])
    (hL:s₁.heap.IsList L items.toArray) (hI:IntsAre items nsL) (hn:nsL.length ≤ 63) (main:callN (gEnv K) 40 "law" [.script nsL] (fun _=>none) (fun v _=>v = .bool true) EF)
    (hr:∀ cls,c.raises args cls = false) (hp:c.post args (.bool true) args = true) :
    wpAny (model prog w) callerA (call (.ref fa) [.ref L]) (fun v s'=>GoodWG c cl mean args s₁ (.ok (.ret v)) s') (fun e s'=>GoodWG c cl mean args s₁ (.error e) s') s₁ := by
  have hlen:items.length ≤ big := by
    have := (vrs_ints (W := ⟨prog,w,K,clOf K,s₁.heap,s₁.os,L,nsL,⟨items,hL,hI,by
      have:∀ {vs:List Value} {ns:List Int},IntsAre vs ns → vs.length = ns.length := by
        intro vs ns h; induction h with
        | nil=>rfl
        | cons _ _ _ ih=>simp [ih]
      rw [this hI]; simp only [big]; (first | lia | omega)⟩⟩) hI).length
    simp only [List.length_map] at this
    rw [← this]; simp only [big]; (first | lia | omega)
  let W:Wd := ⟨prog,w,K,clOf K,s₁.heap,s₁.os,L,nsL,⟨items,hL,hI,hlen⟩⟩
  refine by_c fun no=>?_
  obtain ⟨a,h1,h2⟩ := gAddr_law (K := K) (cl := clOf K) (f := "law") (by decide) (by decide) hf
  refine no ?_;clear no
  have h3 := mg_of KX T.g h2
  rw [hmg] at h3
  cases h3
  have gd:Gnd W (gEnv K) := gnd_of (W := W) rfl KX ⟨p,loose,mg,mb,T⟩ hgr
  refine wpAny_call (codeAny_mono (run_law (W := W) (G := gEnv K) (n := 39) (E := fun _ _=>False) (f := "law") gd rfl rfl (by decide) (by decide) rfl hg rfl (modules_low T.nolimit) (gAddr_is (W := W) rfl h1) main) fun r s' z=>?_)
  rcases r with e | (v | _ | _ | _) <;> first | exact z.elim | skip
  refine by_c fun no=>?_
  obtain ⟨⟨av,H',hv,q⟩,hk,ho,hgn⟩ := z
  refine no ?_;clear no
  subst q
  cases hv
  exact GoodW.toG ⟨.inl ⟨.bool true,.bool true,[],rfl,hr,.bool true,hp,fun _=>⟨List.nodup_nil,fun _ h=>by cases h⟩⟩,hk,ho,hgn⟩
end Mine
namespace Mine.Cl
open PySem
set_option linter.all false
variable {G:GEnv} {n:Nat} {H:AH} {Q:Post} {E:EP} {C:CS} {ρ:Loc} {N:Loc → AH → Prop} {R:Post}
theorem Jbm {b:Bool} {Q:Bool → Prop}:truthy (.bool b) Q = Q b := rfl
theorem Jba {i j:Int}:cmpOp .Lt (.int i) (.int j) H Q = Q (.bool (decide (i < j))) H := rfl
theorem Jbb {i j:Int}:cmpOp .LtE (.int i) (.int j) H Q = Q (.bool (decide (i ≤ j))) H := rfl
theorem Jbc {i j:Int}:cmpOp .Gt (.int i) (.int j) H Q = Q (.bool (decide (j < i))) H := rfl
theorem Jbd {i j:Int}:cmpOp .GtE (.int i) (.int j) H Q = Q (.bool (decide (j ≤ i))) H := rfl
theorem Jbe {i j:Int}:cmpOp .Eq (.int i) (.int j) H Q = Q (.bool (decide (i = j))) H := rfl
theorem Jbf {i j:Int}:cmpOp .NotEq (.int i) (.int j) H Q = Q (.bool (!decide (i = j))) H := rfl
theorem Jbg {i j:Bool}:cmpOp .Eq (.bool i) (.bool j) H Q = Q (.bool (i == j)) H := rfl
theorem Jbh {i j:Bool}:cmpOp .NotEq (.bool i) (.bool j) H Q = Q (.bool (!(i == j))) H := rfl
theorem Jbi:cmpOp .Is .none .none H Q = Q (.bool true) H := rfl
theorem Jbj {a}:cmpOp .Is (.ref a) .none H Q = Q (.bool false) H := rfl
theorem Jbk:cmpOp .IsNot .none .none H Q = Q (.bool false) H := rfl
theorem Jbl {a}:cmpOp .IsNot (.ref a) .none H Q = Q (.bool true) H := rfl
theorem J8 {i j:Int}:binOp .Add (.int i) (.int j) H Q = Q (.int (i + j)) H := rfl
theorem J9 {i j:Int}:binOp .Sub (.int i) (.int j) H Q = Q (.int (i - j)) H := rfl
theorem r_mul {i j:Int}:binOp .Mult (.int i) (.int j) H Q = ((i.natAbs < 2 ^ 64 ∨ j.natAbs < 2 ^ 64) ∧ Q (.int (i * j)) H) := rfl
theorem J6 {i j:Int} (h:0 < j) (h':j ≤ 10 ^ 30):binOp .Mod (.int i) (.int j) H Q = Q (.int (i % j)) H := by
  show ((j ≠ 0 ∧ j.natAbs ≤ 10 ^ 30) ∧ Q (.int (i.fmod j)) H) = _
  rw [Int.fmod_eq_emod_of_nonneg _ (by (first | lia | omega))]
  exact propext ⟨fun h=>h.2,fun q=>⟨⟨by (first | lia | omega),by (first | lia | omega)⟩,q⟩⟩
theorem J7 {i j:Int} (h:0 < j) (h':j ≤ 10 ^ 30):binOp .FloorDiv (.int i) (.int j) H Q = Q (.int (i / j)) H := by
  show ((j ≠ 0 ∧ j.natAbs ≤ 10 ^ 30) ∧ Q (.int (i.fdiv j)) H) = _
  rw [Int.fdiv_eq_ediv_of_nonneg _ (by (first | lia | omega))]
  exact propext ⟨fun h=>h.2,fun q=>⟨⟨by (first | lia | omega),by (first | lia | omega)⟩,q⟩⟩
theorem Jbp {ns:List Int}:biOp .len [.script ns] H Q = Q (.int ns.length) H := rfl
theorem Jbn {i j:Int}:biOp .max [.int i,.int j] H Q = Q (.int (max i j)) H := rfl
theorem Jbo {i j:Int}:biOp .min [.int i,.int j] H Q = Q (.int (min i j)) H := rfl
theorem J4:tgtOf 1 = .one 0 := rfl
theorem J5:tgtOf 2 = .two 0 1 := rfl
theorem Jbs {i:Int} (h0:-1048576 ≤ i) (h1:i ≤ 1048576):biOp .listRange [.int i] H Q = alloc (.list ((List.range i.toNat).map fun (i:Nat)=>V.int i)) H Q :=
  propext ⟨fun h=>h.2,fun h=>⟨⟨h0,h1⟩,h⟩⟩
theorem Jbt {i j:Int} (h0:0 ≤ i) (h1:i ≤ 1048576) (h2:-1048576 ≤ j) (h3:j ≤ 1048576):biOp .listRange [.int i,.int j] H Q = alloc (.list ((List.range (j - i).toNat).map fun (k:Nat)=>V.int (i + k))) H Q :=
  propext ⟨fun h=>h.2,fun h=>⟨⟨h0,h1,h2,h3⟩,h⟩⟩
theorem Jbq {i:Int} {K:List It → (AH → Prop) → AH → Prop} (h0:-1048576 ≤ i) (h1:i ≤ 1048576):rangeOf [.int i] H K = K ((List.range i.toNat).map fun (i:Nat)=>.v (.int i)) (fun _=>True) H :=
  propext ⟨fun h=>h.2,fun h=>⟨⟨h0,h1⟩,h⟩⟩
theorem Jbr {i j:Int} {K:List It → (AH → Prop) → AH → Prop} (h0:0 ≤ i) (h1:i ≤ 1048576) (h2:-1048576 ≤ j) (h3:j ≤ 1048576):rangeOf [.int i,.int j] H K = K ((List.range (j - i).toNat).map fun (k:Nat)=>.v (.int (i + k))) (fun _=>True) H :=
  propext ⟨fun h=>h.2,fun h=>⟨⟨h0,h1,h2,h3⟩,h⟩⟩
theorem r_lenL {a:Nat} {xs:List V} (h:H a = some (.list xs)):biOp .len [.ref a] H Q = Q (.int xs.length) H := by delta biOp; dsimp only; (first | delta lenOp | delta listOp | delta sortOp | delta allOp | delta anyOp); dsimp only; rw [h]; (try dsimp only)
theorem r_lenT {a:Nat} {xs:List V} (h:H a = some (.tuple xs)):biOp .len [.ref a] H Q = Q (.int xs.length) H := by delta biOp; dsimp only; (first | delta lenOp | delta listOp | delta sortOp | delta allOp | delta anyOp); dsimp only; rw [h]; (try dsimp only)
theorem r_subL {a:Nat} {xs:List V} {k:Int} {x:V} (h:H a = some (.list xs)) (h0:0 ≤ k) (hx:xs[k.toNat]? = some x):subOp (.ref a) (.int k) H Q = Q x H := by
  have hlt := (List.getElem?_eq_some_iff.mp hx).1
  have:place k xs.length = some k.toNat := by delta place; rw [if_pos h0,if_pos (by (first | lia | omega))]
  delta subOp; (try dsimp only); rw [h]; (try dsimp only); rw [this]; (try dsimp only); rw [hx]; (try dsimp only)
theorem r_subT {a:Nat} {xs:List V} {k:Int} {x:V} (h:H a = some (.tuple xs)) (h0:0 ≤ k) (hx:xs[k.toNat]? = some x):subOp (.ref a) (.int k) H Q = Q x H := by
  have hlt := (List.getElem?_eq_some_iff.mp hx).1
  have:place k xs.length = some k.toNat := by delta place; rw [if_pos h0,if_pos (by (first | lia | omega))]
  delta subOp; (try dsimp only); rw [h]; (try dsimp only); rw [this]; (try dsimp only); rw [hx]; (try dsimp only)
theorem r_append {a:Nat} {xs:List V} {v:V} (h:H a = some (.list xs)) (hl:xs.length < 1048576):lmOp .append (.ref a) [v] H Q = Q .none (upd H a (.list (xs ++ [v]))) := by
  delta lmOp; dsimp only; (first | delta appendM | delta clearM | delta extendM | delta indexM | delta removeM); dsimp only; rw [h]; (try dsimp only); exact propext ⟨fun h=>h.2,fun q=>⟨hl,q⟩⟩
theorem r_kindL {a:Nat} {xs:List V} {m:LM} (h:H a = some (.list xs)) (hm:m ≠ .setdefault ∧ m ≠ .split ∧ m ≠ .join):lmKind m (.ref a) H = True := by
  cases m <;> first | exact absurd rfl hm.1 | exact absurd rfl hm.2.1 | exact absurd rfl hm.2.2 | (delta lmKind; dsimp only; rw [h])
theorem r_srcL {a:Nat} {xs:List V} {K:List It → (AH → Prop) → AH → Prop} (h:H a = some (.list xs)):srcOf (.ref a) H K = K (xs.map .v) (fun H'=>H' a = some (.list xs)) H := by delta srcOf; (try dsimp only); rw [h]; (try dsimp only)
theorem r_enumL {a:Nat} {xs:List V} {K:List It → (AH → Prop) → AH → Prop} (h:H a = some (.list xs)):enumOf (.ref a) H K = K (xs.mapIdx fun i x=>.pair (.int i) x) (fun H'=>H' a = some (.list xs)) H := by delta enumOf; (try dsimp only); rw [h]; (try dsimp only)
theorem r_revL {a:Nat} {xs:List V} {K:List It → (AH → Prop) → AH → Prop} (h:H a = some (.list xs)):revOf (.ref a) H K = K (xs.reverse.map .v) (fun H'=>H' a = some (.list xs)) H := by delta revOf; (try dsimp only); rw [h]; (try dsimp only)
theorem Gag {α:Type} {a:α} {l:List α}:(a :: l)[0]? = some a := rfl
theorem Gbg {α:Type} {a:α} {l:List α} {i:Nat}:(a :: l)[i + 1]? = l[i]? := rfl
theorem Gcg {α:Type} {a:α} {l m:List α}:(a :: l) ++ m = a :: (l ++ m) := rfl
theorem Gdg {α:Type} {l:List α}:[] ++ l = l := rfl
theorem Geg {α:Type} {a b:α} {l:List α} {i:Nat}:(a :: l).set (i + 1) b = a :: l.set i b := rfl
theorem Gfg {α:Type} {a b:α} {l:List α}:(a :: l).set 0 b = b :: l := rfl
theorem Ggg {α:Type} {a:α}:(some a).isSome = true := rfl
theorem call_of {f:Str} {d:Fn} {args:List V} (h:G.fn f = some d) (ha:d.arity = args.length)
    (q:wpSs G (callN G n) d.body (args.map some ++ List.replicate (d.slots - d.arity) none) H (fun _ H=>Q .none H) Q E):callN G (n + 1) f args H Q E := by
  show (match G.fn f with | some d=>_ | none=>False)
  rw [h]
  exact ⟨ha,q⟩
theorem i_ite {t:X} {a b:List S} (c:Bool) (h:∀ Q':Post,Q' (.bool c) H → wpE G C t ρ H Q' E) (q:if c then wpSs G C a ρ H N R E else wpSs G C b ρ H N R E):wpS G C (.ite t a b) ρ H N R E := by
  rw [Ja]
  exact h _ q
set_option linter.all false
variable {G:GEnv} {n:Nat} {H H':AH} {Q:Post} {E:EP} {C:CS} {ρ:Loc}
noncomputable def Ext (H H':AH):Prop := ∀ a o,H a = some o → H' a = some o
theorem Ext.refl:Ext H H := fun _ _ e=>e
theorem Ext.trans {H'':AH} (h:Ext H H') (h':Ext H' H''):Ext H H'' := fun a o e=>h' a o (h a o e)
theorem upd_self {a:Nat} {o:O}:upd H a o a = some o := by simp [upd]
theorem upd_ne {a b:Nat} {o:O} (h:b ≠ a):upd H a o b = H b := by simp [upd,h]
theorem Ext.upd {a:Nat} {o:O} (h:H a = none):Ext H (upd H a o) := fun b o' e=>by
  rw [upd_ne]; exact e
  rintro rfl; rw [h] at e; cases e
theorem Ext.isNone (h:Ext H H') {a:Nat} (e:H' a = none):H a = none := by
  cases q:H a with
  | none=>rfl
  | some o=>rw [h a o q] at e; cases e
theorem Ext.upd' {a:Nat} {o:O} (h:Ext H H') (e:H a = none):Ext H (Mine.upd H' a o) := fun b o' q=>by
  rw [upd_ne]; exact h b o' q
  rintro rfl; rw [e] at q; cases q
noncomputable def LI (H:AH) (a:Nat) (l:List Int):Prop := H a = some (.list (l.map V.int))
theorem LI.ext {a:Nat} {l:List Int} (h:LI H a l) (e:Ext H H'):LI H' a l := e _ _ h
noncomputable def RowsL (H:AH) (as:List Nat) (rows:List (List Int)):Prop := as.length = rows.length ∧ ∀ (i x:Nat) (r:List Int),as[i]? = some x → rows[i]? = some r → LI H x r
theorem RowsL.ext {as:List Nat} {rows:List (List Int)} (h:RowsL H as rows) (e:Ext H H'):RowsL H' as rows := ⟨h.1,fun i x r h1 h2=>(h.2 i x r h1 h2).ext e⟩
theorem RowsL.snoc {as:List Nat} {rows:List (List Int)} {x:Nat} {r:List Int} (h:RowsL H as rows) (hx:LI H x r):RowsL H (as ++ [x]) (rows ++ [r]) := by
  refine ⟨by simp [h.1],fun i y r' h1 h2=>?_⟩
  cases Nat.lt_or_ge i as.length with
  | inl q =>
    rw [List.getElem?_append_left q] at h1
    rw [List.getElem?_append_left (by rw [← h.1]; exact q)] at h2
    exact h.2 i y r' h1 h2
  | inr q =>
    rw [List.getElem?_append_right q] at h1
    rw [List.getElem?_append_right (by rw [← h.1]; exact q)] at h2
    have:i - as.length = 0 := by
      obtain ⟨z,_⟩ := List.getElem?_eq_some_iff.mp h1
      simp at z; omega
    rw [this] at h1
    rw [← h.1,this] at h2
    simp at h1 h2
    subst h1 h2
    exact hx
theorem loop_ind {g:AH → Prop} {t:Tgt} {body:Loc → AH → (Loc → AH → Prop) → Prop} {N:Loc → AH → Prop} (I:Nat → Loc → AH → Prop):∀ {its:List It} {k:Nat} {ρ:Loc} {H:AH},I k ρ H →
    (∀ i x ρ H K,its[i]? = some x → I (k + i) ρ H → (∀ ρ'' H'',I (k + i + 1) ρ'' H'' → K ρ'' H'') → g H ∧ bindT t x ρ H fun ρ'=>body ρ' H K) → (∀ ρ H,I (k + its.length) ρ H → g H ∧ N ρ H) → loop g t body N its ρ H := by
  intro its
  induction its with
  | nil=>intro k ρ H h0 _ fin; exact fin ρ H h0
  | cons x r ih =>
    intro k ρ H h0 step fin
    refine step 0 x ρ H _ rfl h0 fun ρ'' H'' h1=>?_
    refine ih (k := k + 1) h1 (fun i y ρ H K hy hI hK=>?_) fun ρ H hI=>?_
    · refine step (i + 1) y ρ H K (by simpa using hy) (by rwa [show k + (i + 1) = k + 1 + i by (first | lia | omega)]) fun ρ'' H'' h=>hK ρ'' H'' ?_
      rwa [show k + 1 + i + 1 = k + (i + 1) + 1 by (first | lia | omega)]
    · exact fin ρ H (by rwa [List.length_cons,show k + (r.length + 1) = k + 1 + r.length by (first | lia | omega)])
theorem loop_range {m:Nat} {a:Int} {t:Nat} {body:Loc → AH → (Loc → AH → Prop) → Prop} {N:Loc → AH → Prop} (I:Nat → Loc → AH → Prop) (h0:I 0 ρ H)
    (step:∀ i ρ H K,i < m → I i ρ H → (∀ ρ'' H'',I (i + 1) ρ'' H'' → K ρ'' H'') → body (ρ.set t (some (.int (a + i)))) H K) (fin:∀ ρ H,I m ρ H → N ρ H) :
    loop (fun _=>True) (.one t) body N ((List.range m).map fun (i:Nat)=>.v (.int (a + i))) ρ H := by
  refine loop_ind (k := 0) I h0 (fun i x ρ H K hx hI hK=>⟨trivial,?_⟩) fun ρ H hI=>⟨trivial,fin ρ H (by simpa using hI)⟩
  rw [List.getElem?_map] at hx
  obtain ⟨j,hj,rfl⟩ := Option.map_eq_some_iff.mp hx
  obtain ⟨hlt,he⟩ := List.getElem?_eq_some_iff.mp hj
  simp at hlt he
  subst he
  exact step i ρ H K hlt (by simpa using hI) fun ρ'' H'' h=>hK ρ'' H'' (by simpa using h)
theorem loop_range0 {m:Nat} {t:Nat} {body:Loc → AH → (Loc → AH → Prop) → Prop} {N:Loc → AH → Prop} (I:Nat → Loc → AH → Prop) (h0:I 0 ρ H)
    (step:∀ i ρ H K,i < m → I i ρ H → (∀ ρ'' H'',I (i + 1) ρ'' H'' → K ρ'' H'') → body (ρ.set t (some (.int i))) H K) (fin:∀ ρ H,I m ρ H → N ρ H) :
    loop (fun _=>True) (.one t) body N ((List.range m).map fun (i:Nat)=>.v (.int i)) ρ H := by
  have := loop_range (a := 0) (t := t) (body := body) (N := N) I h0 (fun i ρ H K hi hI hK=>by simpa using step i ρ H K hi hI hK) fin
  simpa using this
theorem loop_list {a:Nat} {xs:List V} {t:Nat} {body:Loc → AH → (Loc → AH → Prop) → Prop} {N:Loc → AH → Prop} (I:Nat → Loc → AH → Prop) (h0:I 0 ρ H) (hg:∀ i ρ H,I i ρ H → H a = some (.list xs))
    (step:∀ i x ρ H K,xs[i]? = some x → I i ρ H → (∀ ρ'' H'',I (i + 1) ρ'' H'' → K ρ'' H'') → body (ρ.set t (some x)) H K) (fin:∀ ρ H,I xs.length ρ H → N ρ H) :
    loop (fun H=>H a = some (.list xs)) (.one t) body N (xs.map .v) ρ H := by
  refine loop_ind (k := 0) I h0 (fun i x ρ H K hx hI hK=>⟨hg _ _ _ hI,?_⟩) fun ρ H hI=>⟨hg _ _ _ hI,fin ρ H (by simpa using hI)⟩
  rw [List.getElem?_map] at hx
  obtain ⟨j,hj,rfl⟩ := Option.map_eq_some_iff.mp hx
  exact step i j ρ H K hj (by simpa using hI) fun ρ'' H'' h=>hK ρ'' H'' (by simpa using h)
theorem gather_ind {g:AH → Prop} {elt:Loc → AH → (Option V → AH → Prop) → Prop} {Q:List V → AH → Prop} (I:Nat → List V → AH → Prop):∀ {its:List It} {k:Nat} {acc:List V} {y:Option V} {H:AH},I k acc H →
    (∀ i x acc H K,its[i]? = some x → I (k + i) acc H → (∀ o H'',I (k + i + 1) (match o with | some v=>acc ++ [v] | none=>acc) H'' → K o H'') → g H ∧ ∃ v,x = .v v ∧ elt (some v :: ρ) H K) →
    (∀ acc H,I (k + its.length) acc H → g H ∧ Q acc H) → gather g (.one 0) elt Q its acc (y :: ρ) H := by
  intro its
  induction its with
  | nil=>intro k acc y H h0 _ fin; exact fin acc H h0
  | cons x r ih =>
    intro k acc y H h0 step fin
    obtain ⟨g1,v,rfl,h⟩ := step 0 x acc H (fun o H''=>gather g (.one 0) elt Q r (match o with | some v=>acc ++ [v] | none=>acc) (some (match x with | .v v=>v | _=>.none) :: ρ) H'') rfl h0 fun o H'' h1=>by
      refine ih (k := k + 1) h1 (fun i y acc H K hy hI hK=>?_) fun acc H hI=>?_
      · refine step (i + 1) y acc H K (by simpa using hy) (by rwa [show k + (i + 1) = k + 1 + i by (first | lia | omega)]) fun o H'' h=>hK o H'' ?_
        rwa [show k + 1 + i + 1 = k + (i + 1) + 1 by (first | lia | omega)]
      · exact fin acc H (by rwa [List.length_cons,show k + (r.length + 1) = k + 1 + r.length by (first | lia | omega)])
    exact ⟨g1,h⟩
theorem gather_rows {m:Nat} {elt:Loc → AH → (Option V → AH → Prop) → Prop} {P:Nat → List Int → Prop} {Q:List V → AH → Prop} {y:Option V}
    (step:∀ i H' K,i < m → Ext H H' → (∀ x r H'',Ext H' H'' → LI H'' x r → P i r → K (some (.ref x)) H'') → elt (some (.int i) :: ρ) H' K)
    (fin:∀ as rows H',Ext H H' → RowsL H' as rows → rows.length = m → (∀ (i:Nat) r,rows[i]? = some r → P i r) → Q (as.map V.ref) H') :
    gather (fun _=>True) (.one 0) elt Q ((List.range m).map fun (i:Nat)=>.v (.int i)) [] (y :: ρ) H := by
  refine gather_ind (k := 0) (fun i acc H'=>(Ex2 fun as rows=>An5 (acc = as.map V.ref) (Ext H H') (RowsL H' as rows) (rows.length = i) (∀ (i:Nat) r,rows[i]? = some r → P i r))) ⟨[],[],rfl,Ext.refl,⟨rfl,fun i x r h=>by simp at h⟩,rfl,fun i r h=>by simp at h⟩ ?_ ?_
  · rintro i x acc H' K hx ⟨as,rows,rfl,h1,h2,h3,h4⟩ hK
    rw [List.getElem?_map] at hx
    obtain ⟨j,hj,rfl⟩ := Option.map_eq_some_iff.mp hx
    obtain ⟨hlt,he⟩ := List.getElem?_eq_some_iff.mp hj
    simp at hlt he
    subst he
    refine ⟨trivial,_,rfl,step i H' K hlt h1 fun x r H'' e1 e2 e3=>hK _ _ ⟨as ++ [x],rows ++ [r],by simp,h1.trans e1,(h2.ext e1).snoc e2,by simp [h3],fun k r' hr=>?_⟩⟩
    cases Nat.lt_or_ge k rows.length with
    | inl q=>rw [List.getElem?_append_left q] at hr; exact h4 k r' hr
    | inr q =>
      rw [List.getElem?_append_right q] at hr
      have:k - rows.length = 0 := by
        obtain ⟨z,_⟩ := List.getElem?_eq_some_iff.mp hr
        simp at z; (first | lia | omega)
      rw [this] at hr
      simp at hr
      subst hr
      have:k = i := by (first | lia | omega)
      subst this
      exact e3
  · rintro acc H' ⟨as,rows,rfl,h1,h2,h3,h4⟩
    exact ⟨trivial,fin as rows H' h1 h2 (by simpa using h3) h4⟩
noncomputable def RowOk (k:Nat) (r:List Int):Prop := r.length ≤ k ∧ ∀ x ∈ r,0 ≤ x ∧ x < k
noncomputable def Wf (m:Nat) (rows:List (List Int)):Prop := rows.length = m ∧ ∀ (k:Nat) r,rows[k]? = some r → RowOk k r
noncomputable def RowsK (H:AH) (m:Nat) (Q:Post):Prop := ∀ a as rows H',Ext H H' → H a = none → H' a = some (.list (as.map V.ref)) → RowsL H' as rows → Wf m rows → Q (.ref a) H'
theorem rowOk_range {k:Nat} {a:Int} {c:Nat} (h0:0 ≤ a) (h:a + c ≤ k):RowOk k ((List.range c).map fun (i:Nat)=>a + i) := by
  refine ⟨by simp; (first | lia | omega),fun x hx=>?_⟩
  obtain ⟨i,hi,rfl⟩ := List.mem_map.mp hx
  simp at hi
  (first | lia | omega)
theorem range_int (c:Nat):(List.range c).map (fun (i:Nat)=>V.int i) = ((List.range c).map fun (i:Nat)=>(0:Int) + i).map V.int := by simp
theorem range_int2 (a:Int) (c:Nat):(List.range c).map (fun (i:Nat)=>V.int (a + i)) = ((List.range c).map fun (i:Nat)=>a + i).map V.int := by simp
noncomputable def cell (ns:List Int) (k:Nat):Int := ns.getD k 0
theorem s_cellAt (hG:G.fn "_law_cell_at" = some f_law_cell_at) {ns:List Int} {k:Int} (hk:0 ≤ k) (q:Q (.int (cell ns k.toNat)) H):callN G (n + 1) "_law_cell_at" [.script ns,.int k] H Q E := by
  refine call_of hG rfl ?_
  simp (disch := first | decide | omega) only [Ja,Jb,Jc,Jd,Je,Jf,Jg,Jh,Ji,Jj,Jk,Jl,Jm,Jn,Jo,Jp,Jq,Jr,Js,Jt,Ju,Jv,Jw,Jx,Jy,Jz,J0,J1,J2,J3,J4,J5,J6,J7,J8,J9,Jba,Jbb,Jbc,Jbd,Jbe,Jbf,Jbg,Jbh,Jbi,Jbj,Jbk,Jbl,Jbm,Jbn,Jbo,Jbp,Jbq,Jbr,Jbs,Jbt,List.map,Gcg,Gdg,Gag,Gbg,List.replicate,Geg,Gfg,Ggg,true_and,f_law_cell_at]
  split
  · rename_i h
    simp only [decide_eq_true_eq] at h
    have hlt:k.toNat < ns.length := by omega
    have h1:place k ns.length = some k.toNat := by delta place; rw [if_pos hk,if_pos h]
    have h2:ns[k.toNat]? = some (cell ns k.toNat) := by
      unfold cell; rw [List.getD_eq_getElem?_getD,List.getElem?_eq_getElem hlt]; rfl
    delta subOp; (try dsimp only); rw [h1]; (try dsimp only); rw [h2]; (try dsimp only)
    exact q
  · rename_i h
    simp only [decide_eq_true_eq] at h
    have:cell ns k.toNat = 0 := by
      unfold cell; rw [List.getD_eq_getElem?_getD,List.getElem?_eq_none (by omega)]; rfl
    rw [this] at q
    exact q
theorem s_mixed (hG:G.fn "_law_mixed" = some f_law_mixed) {c k:Int} (q:∀ m,0 ≤ m → m < 1000003 → Q (.int m) H):callN G (n + 1) "_law_mixed" [.int c,.int k] H Q E := by
  refine call_of hG rfl ?_
  simp (disch := first | decide | omega) only [Ja,Jb,Jc,Jd,Je,Jf,Jg,Jh,Ji,Jj,Jk,Jl,Jm,Jn,Jo,Jp,Jq,Jr,Js,Jt,Ju,Jv,Jw,Jx,Jy,Jz,J0,J1,J2,J3,J4,J5,J6,J7,J8,J9,Jba,Jbb,Jbc,Jbd,Jbe,Jbf,Jbg,Jbh,Jbi,Jbj,Jbk,Jbl,Jbm,Jbn,Jbo,Jbp,Jbq,Jbr,Jbs,Jbt,List.map,Gcg,Gdg,Gag,Gbg,List.replicate,Geg,Gfg,Ggg,true_and,f_law_mixed,r_mul]
  refine ⟨.inl (by decide),.inr (by decide),?_⟩
  exact q _ (by (first | lia | omega)) (by (first | lia | omega))
theorem s_many (hc:G.fn "_law_cell_at" = some f_law_cell_at) (hG:G.fn "_law_many" = some f_law_many_02) {ns:List Int} (q:∀ m:Nat,m ≤ 60 → Q (.int m) H):callN G (n + 2) "_law_many" [.script ns] H Q E := by
  refine call_of hG rfl ?_
  have q':∀ m:Int,0 ≤ m → m ≤ 60 → Q (.int m) H := fun m h1 h2=>by
    have := q m.toNat (by (first | lia | omega))
    rwa [show ((m.toNat:Nat):Int) = m by (first | lia | omega)] at this
  simp (disch := first | decide | omega) only [Ja,Jb,Jc,Jd,Je,Jf,Jg,Jh,Ji,Jj,Jk,Jl,Jm,Jn,Jo,Jp,Jq,Jr,Js,Jt,Ju,Jv,Jw,Jx,Jy,Jz,J0,J1,J2,J3,J4,J5,J6,J7,J8,J9,Jba,Jbb,Jbc,Jbd,Jbe,Jbf,Jbg,Jbh,Jbi,Jbj,Jbk,Jbl,Jbm,Jbn,Jbo,Jbp,Jbq,Jbr,Jbs,Jbt,List.map,Gcg,Gdg,Gag,Gbg,List.replicate,Geg,Gfg,Ggg,true_and,f_law_many_02,hc]
  refine s_cellAt hc (by decide) ?_
  simp (disch := first | decide | omega) only [Ja,Jb,Jc,Jd,Je,Jf,Jg,Jh,Ji,Jj,Jk,Jl,Jm,Jn,Jo,Jp,Jq,Jr,Js,Jt,Ju,Jv,Jw,Jx,Jy,Jz,J0,J1,J2,J3,J4,J5,J6,J7,J8,J9,Jba,Jbb,Jbc,Jbd,Jbe,Jbf,Jbg,Jbh,Jbi,Jbj,Jbk,Jbl,Jbm,Jbn,Jbo,Jbp,Jbq,Jbr,Jbs,Jbt,List.map,Gcg,Gdg,Gag,Gbg,List.replicate,Geg,Gfg,Ggg,true_and]
  split
  · exact q' _ (by (first | lia | omega)) (by (first | lia | omega))
  · split
    · exact q' _ (by (first | lia | omega)) (by (first | lia | omega))
    · exact q' _ (by (first | lia | omega)) (by (first | lia | omega))
noncomputable def nameOf (ns:List Int) (m k:Int):Int := if cell ns 1 % 2 = 1 then (cell ns 1 / 2 - k) % m else (cell ns 1 / 2 + k) % m
theorem nameOf_in {ns:List Int} {m k:Int} (h:0 < m):0 ≤ nameOf ns m k ∧ nameOf ns m k < m := by
  unfold nameOf
  split
  · exact ⟨Int.emod_nonneg _ (by (first | lia | omega)),Int.emod_lt_of_pos _ h⟩
  · exact ⟨Int.emod_nonneg _ (by (first | lia | omega)),Int.emod_lt_of_pos _ h⟩
theorem emod_inj {x y m:Int} (hm:0 < m) (h:x % m = y % m) (h1:x - y < m) (h2:y - x < m):x = y := by
  have e := Int.emod_emod_of_dvd x (Int.dvd_refl m)
  have h3:(x - y) % m = 0 := by rw [Int.sub_emod,h,Int.sub_self,Int.zero_emod]
  obtain ⟨k,hk⟩ := Int.dvd_of_emod_eq_zero h3
  have:k = 0 := by
    rcases Int.lt_trichotomy k 0 with q | q | q
    · have:m * k ≤ m * (-1) := Int.mul_le_mul_of_nonneg_left (by (first | lia | omega)) (by (first | lia | omega))
      (first | lia | omega)
    · exact q
    · have:m * 1 ≤ m * k := Int.mul_le_mul_of_nonneg_left (by (first | lia | omega)) (by (first | lia | omega))
      (first | lia | omega)
  subst this
  (first | lia | omega)
theorem nameOf_inj {ns:List Int} {m j k:Int} (hm:0 < m) (hj:0 ≤ j ∧ j < m) (hk:0 ≤ k ∧ k < m) (h:nameOf ns m j = nameOf ns m k):j = k := by
  unfold nameOf at h
  split at h
  · have := emod_inj hm h (by (first | lia | omega)) (by (first | lia | omega)); (first | lia | omega)
  · have := emod_inj hm h (by (first | lia | omega)) (by (first | lia | omega)); (first | lia | omega)
theorem s_name (hc:G.fn "_law_cell_at" = some f_law_cell_at) (hG:G.fn "_law_name" = some f_law_name) {ns:List Int} {m k:Int} (hm:0 < m) (hm':m ≤ 60) (q:Q (.int (nameOf ns m k)) H):callN G (n + 2) "_law_name" [.script ns,.int m,.int k] H Q E := by
  refine call_of hG rfl ?_
  simp (disch := first | decide | omega) only [Ja,Jb,Jc,Jd,Je,Jf,Jg,Jh,Ji,Jj,Jk,Jl,Jm,Jn,Jo,Jp,Jq,Jr,Js,Jt,Ju,Jv,Jw,Jx,Jy,Jz,J0,J1,J2,J3,J4,J5,J6,J7,J8,J9,Jba,Jbb,Jbc,Jbd,Jbe,Jbf,Jbg,Jbh,Jbi,Jbj,Jbk,Jbl,Jbm,Jbn,Jbo,Jbp,Jbq,Jbr,Jbs,Jbt,List.map,Gcg,Gdg,Gag,Gbg,List.replicate,Geg,Gfg,Ggg,true_and,f_law_name,hc]
  refine s_cellAt hc (by decide) ?_
  simp (disch := first | decide | omega) only [Ja,Jb,Jc,Jd,Je,Jf,Jg,Jh,Ji,Jj,Jk,Jl,Jm,Jn,Jo,Jp,Jq,Jr,Js,Jt,Ju,Jv,Jw,Jx,Jy,Jz,J0,J1,J2,J3,J4,J5,J6,J7,J8,J9,Jba,Jbb,Jbc,Jbd,Jbe,Jbf,Jbg,Jbh,Jbi,Jbj,Jbk,Jbl,Jbm,Jbn,Jbo,Jbp,Jbq,Jbr,Jbs,Jbt,List.map,Gcg,Gdg,Gag,Gbg,List.replicate,Geg,Gfg,Ggg,true_and]
  unfold nameOf at q
  split
  · rename_i h
    simp only [decide_eq_true_eq] at h
    have h':cell ns 1 % 2 = 1 := h
    rw [if_pos h'] at q
    exact q
  · rename_i h
    simp only [decide_eq_true_eq] at h
    have h':¬ cell ns 1 % 2 = 1 := h
    rw [if_neg h'] at q
    exact q
theorem s_banded (hG:G.fn "_law_banded" = some f_law_banded) {m:Nat} {c:Int} (hm:m ≤ 60) (q:RowsK H m Q):callN G (n + 1) "_law_banded" [.int m,.int c] H Q E := by
  refine call_of hG rfl ?_
  have core:∀ z:Int,0 ≤ z → wpE G (callN G n) (.comp 1 (.range [(.var 0)]) f_law_banded_e1) [some (.int m),some (.int c),some (.int z)] H Q E := by
    intro z hz
    rw [e_comp,c_range]
    simp (disch := first | decide | omega) only [Ja,Jb,Jc,Jd,Je,Jf,Jg,Jh,Ji,Jj,Jk,Jl,Jm,Jn,Jo,Jp,Jq,Jr,Js,Jt,Ju,Jv,Jw,Jx,Jy,Jz,J0,J1,J2,J3,J4,J5,J6,J7,J8,J9,Jba,Jbb,Jbc,Jbd,Jbe,Jbf,Jbg,Jbh,Jbi,Jbj,Jbk,Jbl,Jbm,Jbn,Jbo,Jbp,Jbq,Jbr,Jbs,Jbt,List.map,Gcg,Gdg,Gag,Gbg,List.replicate,Geg,Gfg,Ggg,true_and]
    refine ⟨by simp [big]; omega,gather_rows (P := RowOk) (fun i H' K hi e1 hK=>?_) fun as rows H' e1 h1 h2 h3=>?_⟩
    · simp (disch := first | decide | omega) only [Ja,Jb,Jc,Jd,Je,Jf,Jg,Jh,Ji,Jj,Jk,Jl,Jm,Jn,Jo,Jp,Jq,Jr,Js,Jt,Ju,Jv,Jw,Jx,Jy,Jz,J0,J1,J2,J3,J4,J5,J6,J7,J8,J9,Jba,Jbb,Jbc,Jbd,Jbe,Jbf,Jbg,Jbh,Jbi,Jbj,Jbk,Jbl,Jbm,Jbn,Jbo,Jbp,Jbq,Jbr,Jbs,Jbt,List.map,Gcg,Gdg,Gag,Gbg,List.replicate,Geg,Gfg,Ggg,true_and,f_law_banded_e1]
      intro a ha
      rw [range_int2]
      exact hK a _ _ (Ext.upd ha) upd_self (rowOk_range (by omega) (by omega))
    · intro a ha
      exact q a as rows _ (e1.trans (Ext.upd ha)) (e1.isNone ha) upd_self (h1.ext (Ext.upd ha)) ⟨by simpa using h2,h3⟩
  simp (disch := first | decide | omega) only [Ja,Jb,Jc,Jd,Je,Jf,Jg,Jh,Ji,Jj,Jk,Jl,Jm,Jn,Jo,Jp,Jq,Jr,Js,Jt,Ju,Jv,Jw,Jx,Jy,Jz,J0,J1,J2,J3,J4,J5,J6,J7,J8,J9,Jba,Jbb,Jbc,Jbd,Jbe,Jbf,Jbg,Jbh,Jbi,Jbj,Jbk,Jbl,Jbm,Jbn,Jbo,Jbp,Jbq,Jbr,Jbs,Jbt,List.map,Gcg,Gdg,Gag,Gbg,List.replicate,Geg,Gfg,Ggg,true_and,f_law_banded]
  split
  · exact core _ (by omega)
  · exact core _ (by omega)
set_option linter.all false
variable {G:GEnv} {n:Nat} {H H':AH} {Q:Post} {E:EP} {C:CS} {ρ:Loc}
theorem RowsK.mono {m:Nat} (q:RowsK H m Q) (e:Ext H H'):RowsK H' m Q := fun a as rows H'' e1 h1 h2 h3 h4=>q a as rows H'' (e.trans e1) (e.isNone h1) h2 h3 h4
theorem s_hubbed (hG:G.fn "_law_hubbed" = some f_law_hubbed) {m:Nat} {c:Int} (hm:m ≤ 60) (q:RowsK H m Q):callN G (n + 1) "_law_hubbed" [.int m,.int c] H Q E := by
  refine call_of hG rfl ?_
  have core:∀ (z:Int) (H':AH),0 ≤ z → z ≤ 1000 → Ext H H' → wpE G (callN G n) (.comp 1 (.range [(.var 0)]) f_law_hubbed_e1) [some (.int m),some (.int c),some (.int z)] H' Q E := by
    intro z H' hz hz' e
    rw [e_comp,c_range]
    simp (disch := first | decide | omega) only [Ja,Jb,Jc,Jd,Je,Jf,Jg,Jh,Ji,Jj,Jk,Jl,Jm,Jn,Jo,Jp,Jq,Jr,Js,Jt,Ju,Jv,Jw,Jx,Jy,Jz,J0,J1,J2,J3,J4,J5,J6,J7,J8,J9,Jba,Jbb,Jbc,Jbd,Jbe,Jbf,Jbg,Jbh,Jbi,Jbj,Jbk,Jbl,Jbm,Jbn,Jbo,Jbp,Jbq,Jbr,Jbs,Jbt,List.map,Gcg,Gdg,Gag,Gbg,List.replicate,Geg,Gfg,Ggg,true_and]
    refine ⟨by simp [big]; (first | lia | omega),gather_rows (P := RowOk) (fun i H' K hi e1 hK=>?_) fun as rows H' e1 h1 h2 h3=>?_⟩
    · simp (disch := first | decide | omega) only [Ja,Jb,Jc,Jd,Je,Jf,Jg,Jh,Ji,Jj,Jk,Jl,Jm,Jn,Jo,Jp,Jq,Jr,Js,Jt,Ju,Jv,Jw,Jx,Jy,Jz,J0,J1,J2,J3,J4,J5,J6,J7,J8,J9,Jba,Jbb,Jbc,Jbd,Jbe,Jbf,Jbg,Jbh,Jbi,Jbj,Jbk,Jbl,Jbm,Jbn,Jbo,Jbp,Jbq,Jbr,Jbs,Jbt,List.map,Gcg,Gdg,Gag,Gbg,List.replicate,Geg,Gfg,Ggg,true_and,f_law_hubbed_e1]
      intro a ha
      rw [range_int]
      exact hK a _ _ (Ext.upd ha) upd_self (rowOk_range (by (first | lia | omega)) (by (first | lia | omega)))
    · intro a ha
      exact q.mono e a as rows _ (e1.trans (Ext.upd ha)) (e1.isNone ha) upd_self (h1.ext (Ext.upd ha)) ⟨by simpa using h2,h3⟩
  simp (disch := first | decide | omega) only [Ja,Jb,Jc,Jd,Je,Jf,Jg,Jh,Ji,Jj,Jk,Jl,Jm,Jn,Jo,Jp,Jq,Jr,Js,Jt,Ju,Jv,Jw,Jx,Jy,Jz,J0,J1,J2,J3,J4,J5,J6,J7,J8,J9,Jba,Jbb,Jbc,Jbd,Jbe,Jbf,Jbg,Jbh,Jbi,Jbj,Jbk,Jbl,Jbm,Jbn,Jbo,Jbp,Jbq,Jbr,Jbs,Jbt,List.map,Gcg,Gdg,Gag,Gbg,List.replicate,Geg,Gfg,Ggg,true_and,f_law_hubbed]
  intro a ha
  have key:∀ z:Int,0 ≤ z → z ≤ 1000 → (if decide (30 < (m:Int)) = true then wpE G (callN G n) (.comp 1 (.range [(.var 0)]) f_law_hubbed_e1) [some (.int m),some (.int c),some (.int (z % 8))] (upd H a (.list [.int 1,.int 2,.int 3,.int (c / 4 % 30)])) Q E
      else wpE G (callN G n) (.comp 1 (.range [(.var 0)]) f_law_hubbed_e1) [some (.int m),some (.int c),some (.int z)] (upd H a (.list [.int 1,.int 2,.int 3,.int (c / 4 % 30)])) Q E) := by
    intro z h1 h2
    split
    · exact core _ _ (by (first | lia | omega)) (by (first | lia | omega)) (Ext.upd ha)
    · exact core _ _ (by (first | lia | omega)) (by (first | lia | omega)) (Ext.upd ha)
  have h4:c % 4 = 0 ∨ c % 4 = 1 ∨ c % 4 = 2 ∨ c % 4 = 3 := by (first | lia | omega)
  rcases h4 with h | h | h | h <;> rw [h]
  · rw [r_subL (x := .int 1) upd_self (by decide) rfl]; simp (disch := first | decide | omega) only [Ja,Jb,Jc,Jd,Je,Jf,Jg,Jh,Ji,Jj,Jk,Jl,Jm,Jn,Jo,Jp,Jq,Jr,Js,Jt,Ju,Jv,Jw,Jx,Jy,Jz,J0,J1,J2,J3,J4,J5,J6,J7,J8,J9,Jba,Jbb,Jbc,Jbd,Jbe,Jbf,Jbg,Jbh,Jbi,Jbj,Jbk,Jbl,Jbm,Jbn,Jbo,Jbp,Jbq,Jbr,Jbs,Jbt,List.map,Gcg,Gdg,Gag,Gbg,List.replicate,Geg,Gfg,Ggg,true_and]; exact key _ (by (first | lia | omega)) (by (first | lia | omega))
  · rw [r_subL (x := .int 2) upd_self (by decide) rfl]; simp (disch := first | decide | omega) only [Ja,Jb,Jc,Jd,Je,Jf,Jg,Jh,Ji,Jj,Jk,Jl,Jm,Jn,Jo,Jp,Jq,Jr,Js,Jt,Ju,Jv,Jw,Jx,Jy,Jz,J0,J1,J2,J3,J4,J5,J6,J7,J8,J9,Jba,Jbb,Jbc,Jbd,Jbe,Jbf,Jbg,Jbh,Jbi,Jbj,Jbk,Jbl,Jbm,Jbn,Jbo,Jbp,Jbq,Jbr,Jbs,Jbt,List.map,Gcg,Gdg,Gag,Gbg,List.replicate,Geg,Gfg,Ggg,true_and]; exact key _ (by (first | lia | omega)) (by (first | lia | omega))
  · rw [r_subL (x := .int 3) upd_self (by decide) rfl]; simp (disch := first | decide | omega) only [Ja,Jb,Jc,Jd,Je,Jf,Jg,Jh,Ji,Jj,Jk,Jl,Jm,Jn,Jo,Jp,Jq,Jr,Js,Jt,Ju,Jv,Jw,Jx,Jy,Jz,J0,J1,J2,J3,J4,J5,J6,J7,J8,J9,Jba,Jbb,Jbc,Jbd,Jbe,Jbf,Jbg,Jbh,Jbi,Jbj,Jbk,Jbl,Jbm,Jbn,Jbo,Jbp,Jbq,Jbr,Jbs,Jbt,List.map,Gcg,Gdg,Gag,Gbg,List.replicate,Geg,Gfg,Ggg,true_and]; exact key _ (by (first | lia | omega)) (by (first | lia | omega))
  · rw [r_subL (x := .int (c / 4 % 30)) upd_self (by decide) rfl]; simp (disch := first | decide | omega) only [Ja,Jb,Jc,Jd,Je,Jf,Jg,Jh,Ji,Jj,Jk,Jl,Jm,Jn,Jo,Jp,Jq,Jr,Js,Jt,Ju,Jv,Jw,Jx,Jy,Jz,J0,J1,J2,J3,J4,J5,J6,J7,J8,J9,Jba,Jbb,Jbc,Jbd,Jbe,Jbf,Jbg,Jbh,Jbi,Jbj,Jbk,Jbl,Jbm,Jbn,Jbo,Jbp,Jbq,Jbr,Jbs,Jbt,List.map,Gcg,Gdg,Gag,Gbg,List.replicate,Geg,Gfg,Ggg,true_and]; exact key _ (by (first | lia | omega)) (by (first | lia | omega))
structure Built (H H':AH) (a:Nat) (as:List Nat) (rows:List (List Int)):Prop where
  ext:Ext H H'
  new:H a = none
  at_:H' a = some (.list (as.map V.ref))
  lists:RowsL H' as rows
  ne:∀ x ∈ as,x ≠ a
  ok:∀ (k:Nat) r,rows[k]? = some r → RowOk k r
theorem Built.start {a:Nat} (h:H a = none):Built H (upd H a (.list [])) a [] [] := ⟨Ext.upd h,h,upd_self,⟨rfl,fun i x r q=>by simp at q⟩,fun x hx=>by simp at hx,fun k r q=>by simp at q⟩
theorem RowsL.upd {as:List Nat} {rows:List (List Int)} {a:Nat} {o:O} (h:RowsL H as rows) (hn:∀ x ∈ as,x ≠ a):RowsL (Mine.upd H a o) as rows := ⟨h.1,fun i x r h1 h2=>by
  unfold LI
  rw [upd_ne (hn x (List.mem_of_getElem? h1))]; exact h.2 i x r h1 h2⟩
theorem Built.snoc {H₁:AH} {a x:Nat} {as:List Nat} {rows:List (List Int)} {r:List Int} (b:Built H H' a as rows) (hx:H' x = none) (e:∀ y o,y ≠ x → H' y = some o → H₁ y = some o) (h:LI H₁ x r) (hr:RowOk rows.length r) :
    Built H (upd H₁ a (.list ((as.map V.ref) ++ [.ref x]))) a (as ++ [x]) (rows ++ [r]) := by
  have hxa:x ≠ a := fun q=>by rw [q,b.at_] at hx; cases hx
  have hxs:∀ y ∈ as,y ≠ x := fun y hy q=>by
    obtain ⟨i,hi⟩ := List.mem_iff_getElem?.mp hy
    have hlt := (List.getElem?_eq_some_iff.mp hi).1
    have:LI H' y (rows[i]'(by rw [← b.lists.1]; exact hlt)) := b.lists.2 i y _ hi (List.getElem?_eq_getElem _)
    rw [q] at this
    unfold LI at this
    rw [hx] at this; cases this
  have hHx:H x = none := b.ext.isNone hx
  have e1:Ext H H₁ := fun y o q=>e y o (fun z=>by rw [z,hHx] at q; cases q) (b.ext y o q)
  have hr1:RowsL H₁ as rows := ⟨b.lists.1,fun i y r' h1 h2=>e y _ (hxs y (List.mem_of_getElem? h1)) (b.lists.2 i y r' h1 h2)⟩
  refine ⟨e1.upd' b.new,b.new,by rw [upd_self]; simp,?_,?_,?_⟩
  · refine (hr1.snoc h).upd fun y hy=>?_
    rcases List.mem_append.mp hy with hy | hy
    · exact b.ne y hy
    · simp at hy; rw [hy]; exact hxa
  · intro y hy
    rcases List.mem_append.mp hy with hy | hy
    · exact b.ne y hy
    · simp at hy; rw [hy]; exact hxa
  · intro k r' hk
    cases Nat.lt_or_ge k rows.length with
    | inl q=>rw [List.getElem?_append_left q] at hk; exact b.ok k r' hk
    | inr q =>
      rw [List.getElem?_append_right q] at hk
      have:k - rows.length = 0 := by
        obtain ⟨z,_⟩ := List.getElem?_eq_some_iff.mp hk
        simp at z; (first | lia | omega)
      rw [this] at hk
      simp at hk
      subst hk
      have:k = rows.length := by (first | lia | omega)
      rw [this]; exact hr
theorem s_earlier (hc:G.fn "_law_cell_at" = some f_law_cell_at) (hx:G.fn "_law_mixed" = some f_law_mixed) (hG:G.fn "_law_earlier" = some f_law_earlier) {ns:List Int} {m:Nat} {ring:Int} (hm:m ≤ 60) (hr:ring = 0 ∨ 4 ≤ ring) (q:RowsK H m Q) :
    callN G (n + 2) "_law_earlier" [.script ns,.int m,.int ring] H Q E := by
  refine call_of hG rfl ?_
  simp (disch := first | decide | omega) only [Ja,Jb,Jc,Jd,Je,Jf,Jg,Jh,Ji,Jj,Jk,Jl,Jm,Jn,Jo,Jp,Jq,Jr,Js,Jt,Ju,Jv,Jw,Jx,Jy,Jz,J0,J1,J2,J3,J4,J5,J6,J7,J8,J9,Jba,Jbb,Jbc,Jbd,Jbe,Jbf,Jbg,Jbh,Jbi,Jbj,Jbk,Jbl,Jbm,Jbn,Jbo,Jbp,Jbq,Jbr,Jbs,Jbt,List.map,Gcg,Gdg,Gag,Gbg,List.replicate,Geg,Gfg,Ggg,true_and,f_law_earlier]
  intro a ha
  rw [t_for,c_range]
  simp (disch := first | decide | omega) only [Ja,Jb,Jc,Jd,Je,Jf,Jg,Jh,Ji,Jj,Jk,Jl,Jm,Jn,Jo,Jp,Jq,Jr,Js,Jt,Ju,Jv,Jw,Jx,Jy,Jz,J0,J1,J2,J3,J4,J5,J6,J7,J8,J9,Jba,Jbb,Jbc,Jbd,Jbe,Jbf,Jbg,Jbh,Jbi,Jbj,Jbk,Jbl,Jbm,Jbn,Jbo,Jbp,Jbq,Jbr,Jbs,Jbt,List.map,Gcg,Gdg,Gag,Gbg,List.replicate,Geg,Gfg,Ggg,true_and]
  refine loop_range0 (fun i ρ H'=>(Ex8 fun r4 r5 r6 r7 r8 r9 as rows=>An3 (ρ = [some (.script ns),some (.int m),some (.int ring),some (.ref a),r4,r5,r6,r7,r8,r9]) (Built H H' a as rows) (rows.length = i)))
    ⟨none,none,none,none,none,none,[],[],rfl,Built.start ha,rfl⟩ ?_ ?_
  · rintro i ρ H' K hi hPt5 hK
    refine by_c fun no=>?_
    obtain ⟨r4,r5,r6,r7,r8,r9,as,rows,rfl,b,hlen⟩ := hPt5
    refine no ?_;clear no
    have hi':i < m := by simpa using hi
    have fin:∀ (c:Int) (x:Nat) (r:List Int) (H₁:AH) (r7 r8 r9:Option V),H' x = none → (∀ y o,y ≠ x → H' y = some o → H₁ y = some o) → LI H₁ x r → RowOk i r →
        wpSs G (callN G (n + 1)) [.expr (.lm .append (.var 3) [(.var 6)])] [some (.script ns),some (.int m),some (.int ring),some (.ref a),some (.int i),some (.int c),some (.ref x),r7,r8,r9] H₁ K Q E := by
      intro c x r H₁ r7 r8 r9 h1 h2 h3 h4
      have hxa:x ≠ a := fun q=>by rw [q,b.at_] at h1; cases h1
      have ha1:H₁ a = some (.list (as.map V.ref)) := h2 a _ (Ne.symm hxa) b.at_
      have hal:(as.map V.ref).length < 1048576 := by rw [List.length_map,b.lists.1]; (first | lia | omega)
      simp (disch := first | decide | omega) only [Ja,Jb,Jc,Jd,Je,Jf,Jg,Jh,Ji,Jj,Jk,Jl,Jm,Jn,Jo,Jp,Jq,Jr,Js,Jt,Ju,Jv,Jw,Jx,Jy,Jz,J0,J1,J2,J3,J4,J5,J6,J7,J8,J9,Jba,Jbb,Jbc,Jbd,Jbe,Jbf,Jbg,Jbh,Jbi,Jbj,Jbk,Jbl,Jbm,Jbn,Jbo,Jbp,Jbq,Jbr,Jbs,Jbt,List.map,Gcg,Gdg,Gag,Gbg,List.replicate,Geg,Gfg,Ggg,true_and,e_lm,r_kindL ha1,r_append ha1 hal]
      exact hK _ _ ⟨_,_,_,_,_,_,_,_,rfl,b.snoc h1 h2 h3 (by rw [hlen]; exact h4),by simp [hlen]⟩
    simp (disch := first | decide | omega) only [Jb,Jc,Jd,Je,Jf,Jg,Jh,Ji,Jj,Jk,Jl,Jm,Jn,Jo,Jp,Jq,Jr,Js,Jt,Ju,Jv,Jw,Jx,Jy,Jz,J0,J1,J2,J3,J4,J5,J6,J7,J8,J9,Jba,Jbb,Jbc,Jbd,Jbe,Jbf,Jbg,Jbh,Jbi,Jbj,Jbk,Jbl,Jbm,Jbn,Jbo,Jbp,Jbq,Jbr,Jbs,Jbt,List.map,Gcg,Gdg,Gag,Gbg,List.replicate,Geg,Gfg,Ggg,true_and,f_law_earlier_b2,hc,hx]
    refine s_cellAt hc (by (first | lia | omega)) ?_
    try simp (disch := first | decide | omega) only [Jb,Jc,Jd,Je,Jf,Jg,Jh,Ji,Jj,Jk,Jl,Jm,Jn,Jo,Jp,Jq,Jr,Js,Jt,Ju,Jv,Jw,Jx,Jy,Jz,J0,J1,J2,J3,J4,J5,J6,J7,J8,J9,Jba,Jbb,Jbc,Jbd,Jbe,Jbf,Jbg,Jbh,Jbi,Jbj,Jbk,Jbl,Jbm,Jbn,Jbo,Jbp,Jbq,Jbr,Jbs,Jbt,List.map,Gcg,Gdg,Gag,Gbg,List.replicate,Geg,Gfg,Ggg,true_and]
    refine s_mixed hx fun c c0 c1=>?_
    try simp (disch := first | decide | omega) only [Jb,Jc,Jd,Je,Jf,Jg,Jh,Ji,Jj,Jk,Jl,Jm,Jn,Jo,Jp,Jq,Jr,Js,Jt,Ju,Jv,Jw,Jx,Jy,Jz,J0,J1,J2,J3,J4,J5,J6,J7,J8,J9,Jba,Jbb,Jbc,Jbd,Jbe,Jbf,Jbg,Jbh,Jbi,Jbj,Jbk,Jbl,Jbm,Jbn,Jbo,Jbp,Jbq,Jbr,Jbs,Jbt,List.map,Gcg,Gdg,Gag,Gbg,List.replicate,Geg,Gfg,Ggg,true_and]
    intro x hx0
    have e0:∀ y o,y ≠ x → H' y = some o → upd H' x (.list []) y = some o := fun y o h1 h2=>by rw [upd_ne h1]; exact h2
    refine i_ite (decide ((0:Int) < i) && decide ((i:Int) < ring)) (fun Q' h'=>?_) ?_
    · simp (disch := first | decide | omega) only [Jb,Jc,Jd,Je,Jf,Jg,Jh,Ji,Jj,Jk,Jl,Jm,Jn,Jo,Jp,Jq,Jr,Js,Jt,Ju,Jv,Jw,Jx,Jy,Jz,J0,J1,J2,J3,J4,J5,J6,J7,J8,J9,Jba,Jbb,Jbc,Jbd,Jbe,Jbf,Jbg,Jbh,Jbi,Jbj,Jbk,Jbl,Jbm,Jbn,Jbo,Jbp,Jbq,Jbr,Jbs,Jbt,List.map,Gcg,Gdg,Gag,Gbg,List.replicate,Geg,Gfg,Ggg,true_and]; split <;> simp_all
    · split
      · rename_i hh
        simp only [Bool.and_eq_true,decide_eq_true_eq] at hh
        simp (disch := first | decide | omega) only [Jb,Jc,Jd,Je,Jf,Jg,Jh,Ji,Jj,Jk,Jl,Jm,Jn,Jo,Jp,Jq,Jr,Js,Jt,Ju,Jv,Jw,Jx,Jy,Jz,J0,J1,J2,J3,J4,J5,J6,J7,J8,J9,Jba,Jbb,Jbc,Jbd,Jbe,Jbf,Jbg,Jbh,Jbi,Jbj,Jbk,Jbl,Jbm,Jbn,Jbo,Jbp,Jbq,Jbr,Jbs,Jbt,List.map,Gcg,Gdg,Gag,Gbg,List.replicate,Geg,Gfg,Ggg,true_and]
        intro x1 hx1
        refine i_ite (decide ((i:Int) = ring - 1)) (fun Q' h'=>?_) ?_
        · simp (disch := first | decide | omega) only [Jb,Jc,Jd,Je,Jf,Jg,Jh,Ji,Jj,Jk,Jl,Jm,Jn,Jo,Jp,Jq,Jr,Js,Jt,Ju,Jv,Jw,Jx,Jy,Jz,J0,J1,J2,J3,J4,J5,J6,J7,J8,J9,Jba,Jbb,Jbc,Jbd,Jbe,Jbf,Jbg,Jbh,Jbi,Jbj,Jbk,Jbl,Jbm,Jbn,Jbo,Jbp,Jbq,Jbr,Jbs,Jbt,List.map,Gcg,Gdg,Gag,Gbg,List.replicate,Geg,Gfg,Ggg,true_and]; exact h'
        have hx1':H' x1 = none := (Ext.upd hx0).isNone hx1
        have e1:Ext H' (upd H' x (.list [])) := Ext.upd hx0
        split
        · rename_i h3
          simp only [decide_eq_true_eq] at h3
          simp (disch := first | decide | omega) only [Jb,Jc,Jd,Je,Jf,Jg,Jh,Ji,Jj,Jk,Jl,Jm,Jn,Jo,Jp,Jq,Jr,Js,Jt,Ju,Jv,Jw,Jx,Jy,Jz,J0,J1,J2,J3,J4,J5,J6,J7,J8,J9,Jba,Jbb,Jbc,Jbd,Jbe,Jbf,Jbg,Jbh,Jbi,Jbj,Jbk,Jbl,Jbm,Jbn,Jbo,Jbp,Jbq,Jbr,Jbs,Jbt,List.map,Gcg,Gdg,Gag,Gbg,List.replicate,Geg,Gfg,Ggg,true_and]
          intro x2 hx2
          have hx2':H' x2 = none := (Ext.upd hx0).isNone ((Ext.upd hx1).isNone hx2)
          refine fin c x2 [0,(i:Int) - 1] _ _ _ _ hx2' (fun y o h1 h2=>?_) upd_self ⟨by simp; (first | lia | omega),by simp; (first | lia | omega)⟩
          exact (Ext.upd hx2) y o ((Ext.upd hx1) y o (e1 y o h2))
        · simp (disch := first | decide | omega) only [Jb,Jc,Jd,Je,Jf,Jg,Jh,Ji,Jj,Jk,Jl,Jm,Jn,Jo,Jp,Jq,Jr,Js,Jt,Ju,Jv,Jw,Jx,Jy,Jz,J0,J1,J2,J3,J4,J5,J6,J7,J8,J9,Jba,Jbb,Jbc,Jbd,Jbe,Jbf,Jbg,Jbh,Jbi,Jbj,Jbk,Jbl,Jbm,Jbn,Jbo,Jbp,Jbq,Jbr,Jbs,Jbt,List.map,Gcg,Gdg,Gag,Gbg,List.replicate,Geg,Gfg,Ggg,true_and]
          refine fin c x1 [(i:Int) - 1] _ _ _ _ hx1' (fun y o h1 h2=>?_) upd_self ⟨by simp; (first | lia | omega),by simp; (first | lia | omega)⟩
          exact (Ext.upd hx1) y o (e1 y o h2)
      · rename_i hh
        simp (disch := first | decide | omega) only [Jb,Jc,Jd,Je,Jf,Jg,Jh,Ji,Jj,Jk,Jl,Jm,Jn,Jo,Jp,Jq,Jr,Js,Jt,Ju,Jv,Jw,Jx,Jy,Jz,J0,J1,J2,J3,J4,J5,J6,J7,J8,J9,Jba,Jbb,Jbc,Jbd,Jbe,Jbf,Jbg,Jbh,Jbi,Jbj,Jbk,Jbl,Jbm,Jbn,Jbo,Jbp,Jbq,Jbr,Jbs,Jbt,List.map,Gcg,Gdg,Gag,Gbg,List.replicate,Geg,Gfg,Ggg,true_and]
        refine i_ite (decide ((0:Int) < i) && !decide (c % 9 = 8)) (fun Q' h'=>?_) ?_
        · simp (disch := first | decide | omega) only [Jb,Jc,Jd,Je,Jf,Jg,Jh,Ji,Jj,Jk,Jl,Jm,Jn,Jo,Jp,Jq,Jr,Js,Jt,Ju,Jv,Jw,Jx,Jy,Jz,J0,J1,J2,J3,J4,J5,J6,J7,J8,J9,Jba,Jbb,Jbc,Jbd,Jbe,Jbf,Jbg,Jbh,Jbi,Jbj,Jbk,Jbl,Jbm,Jbn,Jbo,Jbp,Jbq,Jbr,Jbs,Jbt,List.map,Gcg,Gdg,Gag,Gbg,List.replicate,Geg,Gfg,Ggg,true_and]; split <;> simp_all
        split
        · rename_i h2
          simp only [Bool.and_eq_true,decide_eq_true_eq] at h2
          have hi0:0 < (i:Int) := h2.1
          have hmate:0 ≤ c / 9 % (i:Int) ∧ c / 9 % (i:Int) < i := ⟨Int.emod_nonneg _ (by (first | lia | omega)),Int.emod_lt_of_pos _ hi0⟩
          generalize hmt:c / 9 % (i:Int) = mate at hmate
          simp (disch := first | decide | omega) only [Jb,Jc,Jd,Je,Jf,Jg,Jh,Ji,Jj,Jk,Jl,Jm,Jn,Jo,Jp,Jq,Jr,Js,Jt,Ju,Jv,Jw,Jx,Jy,Jz,J0,J1,J2,J3,J4,J5,J6,J7,J8,J9,Jba,Jbb,Jbc,Jbd,Jbe,Jbf,Jbg,Jbh,Jbi,Jbj,Jbk,Jbl,Jbm,Jbn,Jbo,Jbp,Jbq,Jbr,Jbs,Jbt,List.map,Gcg,Gdg,Gag,Gbg,List.replicate,Geg,Gfg,Ggg,true_and,hmt]
          intro x1 hx1
          have hx1':H' x1 = none := (Ext.upd hx0).isNone hx1
          have e1:Ext H' (upd H' x (.list [])) := Ext.upd hx0
          have e2:Ext H' (upd (upd H' x (.list [])) x1 (.list [.int mate])) := e1.trans (Ext.upd hx1)
          have hml:mate.toNat < rows.length := by (first | lia | omega)
          have hml':mate.toNat < as.length := by rw [b.lists.1]; exact hml
          have hxm:as[mate.toNat]? = some (as[mate.toNat]) := List.getElem?_eq_getElem hml'
          have hrm:rows[mate.toNat]? = some (rows[mate.toNat]) := List.getElem?_eq_getElem hml
          generalize as[mate.toNat] = xm at hxm
          generalize rows[mate.toNat] = rm at hrm
          have hrok := b.ok _ _ hrm
          have hLm:LI H' xm rm := b.lists.2 _ _ _ hxm hrm
          have hsub:(as.map V.ref)[mate.toNat]? = some (.ref xm) := by rw [List.getElem?_map,hxm]; rfl
          rw [t_for,c_val]
          simp (disch := first | decide | omega) only [Jb,Jc,Jd,Je,Jf,Jg,Jh,Ji,Jj,Jk,Jl,Jm,Jn,Jo,Jp,Jq,Jr,Js,Jt,Ju,Jv,Jw,Jx,Jy,Jz,J0,J1,J2,J3,J4,J5,J6,J7,J8,J9,Jba,Jbb,Jbc,Jbd,Jbe,Jbf,Jbg,Jbh,Jbi,Jbj,Jbk,Jbl,Jbm,Jbn,Jbo,Jbp,Jbq,Jbr,Jbs,Jbt,List.map,Gcg,Gdg,Gag,Gbg,List.replicate,Geg,Gfg,Ggg,true_and]
          rw [r_subL (e2 _ _ b.at_) hmate.1 hsub,r_srcL (e2 _ _ hLm)]
          have hxm1:xm ≠ x1 := fun q=>by rw [q] at hLm; unfold LI at hLm; rw [hx1'] at hLm; cases hLm
          refine loop_list (fun j ρ H₁=>(Ex3 fun l9 lf r=>An5 (ρ = [some (.script ns),some (.int m),some (.int ring),some (.ref a),some (.int i),some (.int c),some (.ref x1),some (.int mate),some (.int lf),l9]) ((∀ y o,y ≠ x1 → H' y = some o → H₁ y = some o)) (LI H₁ x1 r) (r.length ≤ 1 + j) (∀ z ∈ r,0 ≤ z ∧ z < (i:Int)))) ?_ ?_ ?_ ?_
          · exact ⟨_,_,[mate],rfl,fun y o _ h=>e2 y o h,upd_self,by simp,by simpa using hmate⟩
          · rintro j ρ H₁ hPt6
            refine by_c fun no=>?_
            obtain ⟨l9,lf,r,rfl,h1,h2,h3,h4⟩ := hPt6
            refine no ?_;clear no
            exact h1 _ _ hxm1 hLm
          · rintro j v ρ H₁ K' hv hPt7 hK'
            refine by_c fun no=>?_
            obtain ⟨l9,lf,r,rfl,h1,h2,h3,h4⟩ := hPt7
            refine no ?_;clear no
            rw [List.getElem?_map] at hv
            refine by_c fun no=>?_
            obtain ⟨z,hz,rfl⟩ := Option.map_eq_some_iff.mp hv
            refine no ?_;clear no
            have hzr := hrok.2 z (List.mem_of_getElem? hz)
            have hjl := (List.getElem?_eq_some_iff.mp hz).1
            have hlen2:rm.length ≤ 60 := by have := hrok.1; (first | lia | omega)
            simp (disch := first | decide | omega) only [Jb,Jc,Jd,Je,Jf,Jg,Jh,Ji,Jj,Jk,Jl,Jm,Jn,Jo,Jp,Jq,Jr,Js,Jt,Ju,Jv,Jw,Jx,Jy,Jz,J0,J1,J2,J3,J4,J5,J6,J7,J8,J9,Jba,Jbb,Jbc,Jbd,Jbe,Jbf,Jbg,Jbh,Jbi,Jbj,Jbk,Jbl,Jbm,Jbn,Jbo,Jbp,Jbq,Jbr,Jbs,Jbt,List.map,Gcg,Gdg,Gag,Gbg,List.replicate,Geg,Gfg,Ggg,true_and,f_law_earlier_b1]
            have step2:∀ r',r'.length ≤ 1 + (j + 1) → (∀ z ∈ r',0 ≤ z ∧ z < (i:Int)) → ∀ H₂,(∀ y o,y ≠ x1 → H' y = some o → H₂ y = some o) → LI H₂ x1 r' →
               K' [some (.script ns),some (.int m),some (.int ring),some (.ref a),some (.int i),some (.int c),some (.ref x1),some (.int mate),some (.int (lf / 3)),some (.int z)] H₂ :=
              fun r' a1 a2 H₂ a3 a4=>hK' _ _ ⟨_,_,r',rfl,a3,a4,a1,a2⟩
            have hlen:(r.map V.int).length < 1048576 := by rw [List.length_map]; (first | lia | omega)
            have key:∃ cc:Bool,∀ Q':Post,Q' (.bool cc) H₁ → wpE G (callN G (n + 1)) (.and (.cmp .Gt (.bin .Mod (.var 8) (.cint 3)) (.cint 0)) (.or (.cmp .GtE (.var 7) (.var 2)) (.cmp .Lt (.bi .len [(.var 6)]) (.cint 2)))) [some (.script ns),some (.int m),some (.int ring),some (.ref a),some (.int i),some (.int c),some (.ref x1),some (.int mate),some (.int lf),some (.int z)] H₁ Q' E := by
              refine ⟨decide (0 < lf % 3) && (decide (ring ≤ mate) || decide (((r.map V.int).length:Int) < 2)),fun Q' h'=>?_⟩
              simp (disch := first | decide | omega) only [Jb,Jc,Jd,Je,Jf,Jg,Jh,Ji,Jj,Jk,Jl,Jm,Jn,Jo,Jp,Jq,Jr,Js,Jt,Ju,Jv,Jw,Jx,Jy,Jz,J0,J1,J2,J3,J4,J5,J6,J7,J8,J9,Jba,Jbb,Jbc,Jbd,Jbe,Jbf,Jbg,Jbh,Jbi,Jbj,Jbk,Jbl,Jbm,Jbn,Jbo,Jbp,Jbq,Jbr,Jbs,Jbt,List.map,Gcg,Gdg,Gag,Gbg,List.replicate,Geg,Gfg,Ggg,true_and,r_lenL h2]
              split
              · split <;> simp_all
              · simp_all
            obtain ⟨cc,hcc⟩ := key
            refine i_ite cc hcc ?_
            split
            · simp (disch := first | decide | omega) only [Jb,Jc,Jd,Je,Jf,Jg,Jh,Ji,Jj,Jk,Jl,Jm,Jn,Jo,Jp,Jq,Jr,Js,Jt,Ju,Jv,Jw,Jx,Jy,Jz,J0,J1,J2,J3,J4,J5,J6,J7,J8,J9,Jba,Jbb,Jbc,Jbd,Jbe,Jbf,Jbg,Jbh,Jbi,Jbj,Jbk,Jbl,Jbm,Jbn,Jbo,Jbp,Jbq,Jbr,Jbs,Jbt,List.map,Gcg,Gdg,Gag,Gbg,List.replicate,Geg,Gfg,Ggg,true_and,e_lm,r_kindL h2,r_append h2 hlen]
              refine step2 (r ++ [z]) (by simp; (first | lia | omega)) (fun w hw=>?_) _ (fun y o a1 a2=>by rw [upd_ne a1]; exact h1 y o a1 a2) (by unfold LI; rw [upd_self]; simp)
              rcases List.mem_append.mp hw with hw | hw
              · exact h4 w hw
              · simp at hw; subst hw; (first | lia | omega)
            · simp (disch := first | decide | omega) only [Jb,Jc,Jd,Je,Jf,Jg,Jh,Ji,Jj,Jk,Jl,Jm,Jn,Jo,Jp,Jq,Jr,Js,Jt,Ju,Jv,Jw,Jx,Jy,Jz,J0,J1,J2,J3,J4,J5,J6,J7,J8,J9,Jba,Jbb,Jbc,Jbd,Jbe,Jbf,Jbg,Jbh,Jbi,Jbj,Jbk,Jbl,Jbm,Jbn,Jbo,Jbp,Jbq,Jbr,Jbs,Jbt,List.map,Gcg,Gdg,Gag,Gbg,List.replicate,Geg,Gfg,Ggg,true_and]
              exact step2 r (by (first | lia | omega)) h4 _ h1 h2
          · rintro ρ H₁ hPt8
            refine by_c fun no=>?_
            obtain ⟨l9,lf,r,rfl,h1,h2,h3,h4⟩ := hPt8
            refine no ?_;clear no
            refine fin c x1 r H₁ _ _ _ hx1' h1 h2 ⟨?_,h4⟩
            rw [List.length_map] at h3
            have := hrok.1
            (first | lia | omega)
        · simp (disch := first | decide | omega) only [Jb,Jc,Jd,Je,Jf,Jg,Jh,Ji,Jj,Jk,Jl,Jm,Jn,Jo,Jp,Jq,Jr,Js,Jt,Ju,Jv,Jw,Jx,Jy,Jz,J0,J1,J2,J3,J4,J5,J6,J7,J8,J9,Jba,Jbb,Jbc,Jbd,Jbe,Jbf,Jbg,Jbh,Jbi,Jbj,Jbk,Jbl,Jbm,Jbn,Jbo,Jbp,Jbq,Jbr,Jbs,Jbt,List.map,Gcg,Gdg,Gag,Gbg,List.replicate,Geg,Gfg,Ggg,true_and]
          exact fin c x [] _ _ _ _ hx0 e0 upd_self ⟨by simp,by simp⟩
  · rintro ρ H' hPt9
    refine by_c fun no=>?_
    obtain ⟨r4,r5,r6,r7,r8,r9,as,rows,rfl,b,hlen⟩ := hPt9
    refine no ?_;clear no
    simp (disch := first | decide | omega) only [Jb,Jc,Jd,Je,Jf,Jg,Jh,Ji,Jj,Jk,Jl,Jm,Jn,Jo,Jp,Jq,Jr,Js,Jt,Ju,Jv,Jw,Jx,Jy,Jz,J0,J1,J2,J3,J4,J5,J6,J7,J8,J9,Jba,Jbb,Jbc,Jbd,Jbe,Jbf,Jbg,Jbh,Jbi,Jbj,Jbk,Jbl,Jbm,Jbn,Jbo,Jbp,Jbq,Jbr,Jbs,Jbt,List.map,Gcg,Gdg,Gag,Gbg,List.replicate,Geg,Gfg,Ggg,true_and]
    exact q a as rows H' b.ext b.new b.at_ b.lists ⟨by simpa using hlen,b.ok⟩
set_option linter.all false
variable {G:GEnv} {n:Nat} {H H':AH} {Q:Post} {E:EP} {C:CS} {ρ:Loc}
theorem gather_det {g:AH → Prop} {elt:Loc → AH → (Option V → AH → Prop) → Prop} {Q:List V → AH → Prop} {xs:List V} {f:V → Option V} {y:Option V} (hg:g H)
    (step:∀ x ∈ xs,∀ K:Option V → AH → Prop,K (f x) H → elt (some x :: ρ) H K) (fin:Q (xs.filterMap f) H):gather g (.one 0) elt Q (xs.map .v) [] (y :: ρ) H := by
  refine gather_ind (k := 0) (fun i acc H'=>H' = H ∧ acc = (xs.take i).filterMap f) ⟨rfl,by simp⟩ ?_ ?_
  · rintro i x acc H' K hx ⟨rfl,rfl⟩ hK
    rw [List.getElem?_map] at hx
    obtain ⟨j,hj,rfl⟩ := Option.map_eq_some_iff.mp hx
    refine ⟨hg,_,rfl,step j (List.mem_of_getElem? hj) K (hK _ _ ⟨rfl,?_⟩)⟩
    have hlt := (List.getElem?_eq_some_iff.mp hj).1
    rw [Nat.zero_add,List.take_add_one,hj]
    simp only [Option.toList_some,List.filterMap_append]
    rw [List.filterMap_cons]
    cases hfj:f j <;> simp
  · rintro acc H' ⟨rfl,rfl⟩
    refine ⟨hg,?_⟩
    rw [Nat.zero_add,List.take_of_length_le (by simp)]
    exact fin
theorem range_items (m:Nat):((List.range m).map fun (i:Nat)=>It.v (.int i)) = ((List.range m).map fun (i:Nat)=>V.int i).map It.v := by simp
theorem range_filter (m:Nat) (p:Nat → Bool):((List.range m).map fun (i:Nat)=>V.int i).filterMap (fun v=>match v with | .int i=>if p i.toNat then some (.int i) else none | _=>none) = (((List.range m).filter p).map fun (i:Nat)=>(i:Int)).map V.int := by
  rw [List.filterMap_map]
  induction m with
  | zero=>rfl
  | succ m ih =>
    rw [List.range_succ,List.filterMap_append,ih,List.filter_append]
    simp only [List.map_append,List.filterMap_cons,Function.comp,List.filterMap_nil,Int.toNat_natCast,List.filter_cons,List.filter_nil]
    by_cases hp:p m = true <;> simp [hp]
noncomputable def natI (l:List Nat):List Int := l.map fun (i:Nat)=>(i:Int)
theorem gather_filter {m:Nat} {p:Nat → Bool} {elt:Loc → AH → (Option V → AH → Prop) → Prop} {Q:List V → AH → Prop} {y:Option V}
    (step:∀ j,j < m → ∀ K:Option V → AH → Prop,K (if p j then some (.int j) else none) H → elt (some (.int j) :: ρ) H K) (fin:Q ((natI ((List.range m).filter p)).map V.int) H) :
    gather (fun _=>True) (.one 0) elt Q ((List.range m).map fun (i:Nat)=>.v (.int i)) [] (y :: ρ) H := by
  rw [range_items]
  refine gather_det (f := fun v=>match v with | .int i=>if p i.toNat then some (.int i) else none | _=>none) trivial (fun v hv K hK=>?_) ?_
  · obtain ⟨j,hj,rfl⟩ := List.mem_map.mp hv
    exact step j (List.mem_range.mp hj) K (by simpa using hK)
  · rw [range_filter]; exact fin
theorem s_any_rows (hc:G.fn "_law_cell_at" = some f_law_cell_at) (hx:G.fn "_law_mixed" = some f_law_mixed) (hG:G.fn "_law_any_rows" = some f_law_any_rows) {ns:List Int} {m:Nat} (hm:m ≤ 60) (q:RowsK H m Q) :
    callN G (n + 2) "_law_any_rows" [.script ns,.int m] H Q E := by
  refine call_of hG rfl ?_
  simp (disch := first | decide | omega) only [Jb,Jc,Jd,Je,Jf,Jg,Jh,Ji,Jj,Jk,Jl,Jm,Jn,Jo,Jp,Jq,Jr,Js,Jt,Ju,Jv,Jw,Jx,Jy,Jz,J0,J1,J2,J3,J4,J5,J6,J7,J8,J9,Jba,Jbb,Jbc,Jbd,Jbe,Jbf,Jbg,Jbh,Jbi,Jbj,Jbk,Jbl,Jbm,Jbn,Jbo,Jbp,Jbq,Jbr,Jbs,Jbt,List.map,Gcg,Gdg,Gag,Gbg,List.replicate,Geg,Gfg,Ggg,true_and,f_law_any_rows,hc]
  refine s_cellAt hc (by decide) ?_
  try simp (disch := first | decide | omega) only [Jb,Jc,Jd,Je,Jf,Jg,Jh,Ji,Jj,Jk,Jl,Jm,Jn,Jo,Jp,Jq,Jr,Js,Jt,Ju,Jv,Jw,Jx,Jy,Jz,J0,J1,J2,J3,J4,J5,J6,J7,J8,J9,Jba,Jbb,Jbc,Jbd,Jbe,Jbf,Jbg,Jbh,Jbi,Jbj,Jbk,Jbl,Jbm,Jbn,Jbo,Jbp,Jbq,Jbr,Jbs,Jbt,List.map,Gcg,Gdg,Gag,Gbg,List.replicate,Geg,Gfg,Ggg,true_and]
  generalize hsh:1 + cell ns (2:Int).toNat / 8 % 4 = share
  have core:∀ parts:Int,0 < parts → parts ≤ 40 → wpSs G (callN G (n + 1)) [.assign 4 (.list []),.for (.one 5) (.range [(.var 1)]) f_law_any_rows_b1,.ret (.var 4)] [some (.script ns),some (.int m),some (.int share),some (.int parts),none,none,none] H (fun _ H=>Q .none H) Q E := by
    intro parts hp0 hp1
    simp (disch := first | decide | omega) only [Jb,Jc,Jd,Je,Jf,Jg,Jh,Ji,Jj,Jk,Jl,Jm,Jn,Jo,Jp,Jq,Jr,Js,Jt,Ju,Jv,Jw,Jx,Jy,Jz,J0,J1,J2,J3,J4,J5,J6,J7,J8,J9,Jba,Jbb,Jbc,Jbd,Jbe,Jbf,Jbg,Jbh,Jbi,Jbj,Jbk,Jbl,Jbm,Jbn,Jbo,Jbp,Jbq,Jbr,Jbs,Jbt,List.map,Gcg,Gdg,Gag,Gbg,List.replicate,Geg,Gfg,Ggg,true_and]
    intro a ha
    rw [t_for,c_range]
    simp (disch := first | decide | omega) only [Jb,Jc,Jd,Je,Jf,Jg,Jh,Ji,Jj,Jk,Jl,Jm,Jn,Jo,Jp,Jq,Jr,Js,Jt,Ju,Jv,Jw,Jx,Jy,Jz,J0,J1,J2,J3,J4,J5,J6,J7,J8,J9,Jba,Jbb,Jbc,Jbd,Jbe,Jbf,Jbg,Jbh,Jbi,Jbj,Jbk,Jbl,Jbm,Jbn,Jbo,Jbp,Jbq,Jbr,Jbs,Jbt,List.map,Gcg,Gdg,Gag,Gbg,List.replicate,Geg,Gfg,Ggg,true_and]
    refine loop_range0 (fun i ρ H'=>(Ex4 fun r5 r6 as rows=>An3 (ρ = [some (.script ns),some (.int m),some (.int share),some (.int parts),some (.ref a),r5,r6]) (Built H H' a as rows) (rows.length = i)))
      ⟨none,none,[],[],rfl,Built.start ha,rfl⟩ ?_ ?_
    · rintro i ρ H' K hi ⟨r5,r6,as,rows,rfl,b,hlen⟩ hK
      have hi':i < m := by simpa using hi
      simp (disch := first | decide | omega) only [Jb,Jc,Jd,Je,Jf,Jg,Jh,Ji,Jj,Jk,Jl,Jm,Jn,Jo,Jp,Jq,Jr,Js,Jt,Ju,Jv,Jw,Jx,Jy,Jz,J0,J1,J2,J3,J4,J5,J6,J7,J8,J9,Jba,Jbb,Jbc,Jbd,Jbe,Jbf,Jbg,Jbh,Jbi,Jbj,Jbk,Jbl,Jbm,Jbn,Jbo,Jbp,Jbq,Jbr,Jbs,Jbt,List.map,Gcg,Gdg,Gag,Gbg,List.replicate,Geg,Gfg,Ggg,true_and,f_law_any_rows_b1]
      rw [e_comp,c_range]
      simp (disch := first | decide | omega) only [Jb,Jc,Jd,Je,Jf,Jg,Jh,Ji,Jj,Jk,Jl,Jm,Jn,Jo,Jp,Jq,Jr,Js,Jt,Ju,Jv,Jw,Jx,Jy,Jz,J0,J1,J2,J3,J4,J5,J6,J7,J8,J9,Jba,Jbb,Jbc,Jbd,Jbe,Jbf,Jbg,Jbh,Jbi,Jbj,Jbk,Jbl,Jbm,Jbn,Jbo,Jbp,Jbq,Jbr,Jbs,Jbt,List.map,Gcg,Gdg,Gag,Gbg,List.replicate,Geg,Gfg,Ggg,true_and]
      refine ⟨by simp [big]; (first | lia | omega),?_⟩
      refine gather_ind (k := 0) (fun j acc H₁=>H₁ = H' ∧ ∃ l:List Int,acc = l.map V.int ∧ l.length = j) ⟨rfl,[],rfl,rfl⟩ ?_ ?_
      · rintro j x acc H₁ K' hx' ⟨rfl,l,rfl,hl⟩ hK'
        rw [List.getElem?_map] at hx'
        obtain ⟨j',hj,rfl⟩ := Option.map_eq_some_iff.mp hx'
        obtain ⟨hlt,he⟩ := List.getElem?_eq_some_iff.mp hj
        simp at hlt he
        subst he
        refine ⟨trivial,_,rfl,?_⟩
        simp (disch := first | decide | omega) only [Jb,Jc,Jd,Je,Jf,Jg,Jh,Ji,Jj,Jk,Jl,Jm,Jn,Jo,Jp,Jq,Jr,Js,Jt,Ju,Jv,Jw,Jx,Jy,Jz,J0,J1,J2,J3,J4,J5,J6,J7,J8,J9,Jba,Jbb,Jbc,Jbd,Jbe,Jbf,Jbg,Jbh,Jbi,Jbj,Jbk,Jbl,Jbm,Jbn,Jbo,Jbp,Jbq,Jbr,Jbs,Jbt,List.map,Gcg,Gdg,Gag,Gbg,List.replicate,Geg,Gfg,Ggg,true_and,f_law_any_rows_e1,r_mul,hc,hx]
        refine ⟨.inl (by decide),.inl (by decide),?_⟩
        try simp (disch := first | decide | omega) only [Jb,Jc,Jd,Je,Jf,Jg,Jh,Ji,Jj,Jk,Jl,Jm,Jn,Jo,Jp,Jq,Jr,Js,Jt,Ju,Jv,Jw,Jx,Jy,Jz,J0,J1,J2,J3,J4,J5,J6,J7,J8,J9,Jba,Jbb,Jbc,Jbd,Jbe,Jbf,Jbg,Jbh,Jbi,Jbj,Jbk,Jbl,Jbm,Jbn,Jbo,Jbp,Jbq,Jbr,Jbs,Jbt,List.map,Gcg,Gdg,Gag,Gbg,List.replicate,Geg,Gfg,Ggg,true_and]
        refine s_cellAt hc (by (first | lia | omega)) ?_
        try simp (disch := first | decide | omega) only [Jb,Jc,Jd,Je,Jf,Jg,Jh,Ji,Jj,Jk,Jl,Jm,Jn,Jo,Jp,Jq,Jr,Js,Jt,Ju,Jv,Jw,Jx,Jy,Jz,J0,J1,J2,J3,J4,J5,J6,J7,J8,J9,Jba,Jbb,Jbc,Jbd,Jbe,Jbf,Jbg,Jbh,Jbi,Jbj,Jbk,Jbl,Jbm,Jbn,Jbo,Jbp,Jbq,Jbr,Jbs,Jbt,List.map,Gcg,Gdg,Gag,Gbg,List.replicate,Geg,Gfg,Ggg,true_and]
        refine ⟨.inl (by decide),?_⟩
        refine s_mixed hx fun c c0 c1=>?_
        exact hK' _ _ ⟨rfl,l ++ [c],by simp,by simp [hl]⟩
      · rintro acc H₁ ⟨rfl,cells,rfl,hl⟩
        refine ⟨trivial,fun x hx0=>?_⟩
        have hcl:cells.length = i := by simpa using hl
        have hal:(as.map V.ref).length < 1048576 := by rw [List.length_map,b.lists.1]; (first | lia | omega)
        have ha1:upd H₁ x (.list (cells.map V.int)) a = some (.list (as.map V.ref)) := (Ext.upd hx0) _ _ b.at_
        simp (disch := first | decide | omega) only [Jb,Jc,Jd,Je,Jf,Jg,Jh,Ji,Jj,Jk,Jl,Jm,Jn,Jo,Jp,Jq,Jr,Js,Jt,Ju,Jv,Jw,Jx,Jy,Jz,J0,J1,J2,J3,J4,J5,J6,J7,J8,J9,Jba,Jbb,Jbc,Jbd,Jbe,Jbf,Jbg,Jbh,Jbi,Jbj,Jbk,Jbl,Jbm,Jbn,Jbo,Jbp,Jbq,Jbr,Jbs,Jbt,List.map,Gcg,Gdg,Gag,Gbg,List.replicate,Geg,Gfg,Ggg,true_and,e_lm,r_kindL ha1]
        rw [e_compIf,c_range]
        simp (disch := first | decide | omega) only [Jb,Jc,Jd,Je,Jf,Jg,Jh,Ji,Jj,Jk,Jl,Jm,Jn,Jo,Jp,Jq,Jr,Js,Jt,Ju,Jv,Jw,Jx,Jy,Jz,J0,J1,J2,J3,J4,J5,J6,J7,J8,J9,Jba,Jbb,Jbc,Jbd,Jbe,Jbf,Jbg,Jbh,Jbi,Jbj,Jbk,Jbl,Jbm,Jbn,Jbo,Jbp,Jbq,Jbr,Jbs,Jbt,List.map,Gcg,Gdg,Gag,Gbg,List.replicate,Geg,Gfg,Ggg,true_and]
        refine ⟨by simp [big]; (first | lia | omega),?_⟩
        refine gather_filter (p := fun k=>decide (cells.getD k 0 % parts < share)) (fun j hj K' hK'=>?_) ?_
        · have hj':j < cells.length := by (first | lia | omega)
          have hsub:(cells.map V.int)[(j:Int).toNat]? = some (.int (cells.getD j 0)) := by
            rw [Int.toNat_natCast,List.getElem?_map,List.getElem?_eq_getElem hj',List.getD_eq_getElem?_getD,List.getElem?_eq_getElem hj']; rfl
          simp (disch := first | decide | omega) only [Jb,Jc,Jd,Je,Jf,Jg,Jh,Ji,Jj,Jk,Jl,Jm,Jn,Jo,Jp,Jq,Jr,Js,Jt,Ju,Jv,Jw,Jx,Jy,Jz,J0,J1,J2,J3,J4,J5,J6,J7,J8,J9,Jba,Jbb,Jbc,Jbd,Jbe,Jbf,Jbg,Jbh,Jbi,Jbj,Jbk,Jbl,Jbm,Jbn,Jbo,Jbp,Jbq,Jbr,Jbs,Jbt,List.map,Gcg,Gdg,Gag,Gbg,List.replicate,Geg,Gfg,Ggg,true_and,f_law_any_rows_c1,r_subL (upd_self) (Int.natCast_nonneg j) hsub]
          split
          · rename_i h; rw [if_pos h] at hK'; exact hK'
          · rename_i h; rw [if_neg h] at hK'; exact hK'
        · generalize hR:(List.range ((i:Int)).toNat).filter (fun k=>decide (cells.getD k 0 % parts < share)) = R
          intro x1 hx1
          have hx1':H₁ x1 = none := (Ext.upd hx0).isNone hx1
          have ha2 := (Ext.upd (o := .list ((natI R).map V.int)) hx1) _ _ ha1
          simp (disch := first | decide | omega) only [Jb,Jc,Jd,Je,Jf,Jg,Jh,Ji,Jj,Jk,Jl,Jm,Jn,Jo,Jp,Jq,Jr,Js,Jt,Ju,Jv,Jw,Jx,Jy,Jz,J0,J1,J2,J3,J4,J5,J6,J7,J8,J9,Jba,Jbb,Jbc,Jbd,Jbe,Jbf,Jbg,Jbh,Jbi,Jbj,Jbk,Jbl,Jbm,Jbn,Jbo,Jbp,Jbq,Jbr,Jbs,Jbt,List.map,Gcg,Gdg,Gag,Gbg,List.replicate,Geg,Gfg,Ggg,true_and,r_append ha2 hal]
          refine hK _ _ ⟨_,_,_,_,rfl,b.snoc hx1' (fun y o _ h=>(Ext.upd hx1) y o ((Ext.upd hx0) y o h)) upd_self ⟨?_,?_⟩,by simp [hlen]⟩
          · unfold natI
            rw [List.length_map,← hR]
            have := List.length_filter_le (fun k=>decide (cells.getD k 0 % parts < share)) (List.range ((i:Int)).toNat)
            rw [List.length_range] at this
            (first | lia | omega)
          · intro z hz
            obtain ⟨k,hk,rfl⟩ := List.mem_map.mp hz
            rw [← hR] at hk
            have := List.mem_range.mp (List.mem_filter.mp hk).1
            (first | lia | omega)
    · rintro ρ H' ⟨r5,r6,as,rows,rfl,b,hlen⟩
      simp (disch := first | decide | omega) only [Jb,Jc,Jd,Je,Jf,Jg,Jh,Ji,Jj,Jk,Jl,Jm,Jn,Jo,Jp,Jq,Jr,Js,Jt,Ju,Jv,Jw,Jx,Jy,Jz,J0,J1,J2,J3,J4,J5,J6,J7,J8,J9,Jba,Jbb,Jbc,Jbd,Jbe,Jbf,Jbg,Jbh,Jbi,Jbj,Jbk,Jbl,Jbm,Jbn,Jbo,Jbp,Jbq,Jbr,Jbs,Jbt,List.map,Gcg,Gdg,Gag,Gbg,List.replicate,Geg,Gfg,Ggg,true_and]
      exact q a as rows H' b.ext b.new b.at_ b.lists ⟨by simpa using hlen,b.ok⟩
  refine i_ite (decide ((20:Int) < m)) (fun Q' h'=>?_) ?_
  · simp (disch := first | decide | omega) only [Jb,Jc,Jd,Je,Jf,Jg,Jh,Ji,Jj,Jk,Jl,Jm,Jn,Jo,Jp,Jq,Jr,Js,Jt,Ju,Jv,Jw,Jx,Jy,Jz,J0,J1,J2,J3,J4,J5,J6,J7,J8,J9,Jba,Jbb,Jbc,Jbd,Jbe,Jbf,Jbg,Jbh,Jbi,Jbj,Jbk,Jbl,Jbm,Jbn,Jbo,Jbp,Jbq,Jbr,Jbs,Jbt,List.map,Gcg,Gdg,Gag,Gbg,List.replicate,Geg,Gfg,Ggg,true_and]; exact h'
  · split
    · rw [J3,Jy,Je,J2]; exact core 40 (by decide) (by decide)
    · rw [J2]; exact core 5 (by decide) (by decide)
set_option linter.all false
variable {G:GEnv} {n:Nat} {H H':AH} {Q:Post} {E:EP} {C:CS} {ρ:Loc}
theorem r_setL {a:Nat} {xs:List V} {k:Int} {v:V} {N:AH → Prop} (h:H a = some (.list xs)) (h0:0 ≤ k) (hk:k < xs.length):setItem (.ref a) (.int k) v H N = N (upd H a (.list (xs.set k.toNat v))) := by
  have:place k xs.length = some k.toNat := by delta place; rw [if_pos h0,if_pos hk]
  delta setItem; (try dsimp only); rw [h]; (try dsimp only); rw [this]; (try dsimp only)
theorem s_ringed (hG:G.fn "_law_ringed" = some f_law_ringed) {m:Nat} {c:Int} (hm:m ≤ 60) (q:RowsK H m Q):callN G (n + 1) "_law_ringed" [.int m,.int c] H Q E := by
  refine call_of hG rfl ?_
  simp (disch := first | decide | omega) only [Jb,Jc,Jd,Je,Jf,Jg,Jh,Ji,Jj,Jk,Jl,Jm,Jn,Jo,Jp,Jq,Jr,Js,Jt,Ju,Jv,Jw,Jx,Jy,Jz,J0,J1,J2,J3,J4,J5,J6,J7,J8,J9,Jba,Jbb,Jbc,Jbd,Jbe,Jbf,Jbg,Jbh,Jbi,Jbj,Jbk,Jbl,Jbm,Jbn,Jbo,Jbp,Jbq,Jbr,Jbs,Jbt,List.map,Gcg,Gdg,Gag,Gbg,List.replicate,Geg,Gfg,Ggg,true_and,f_law_ringed]
  generalize hsz:4 + c % 5 = size
  generalize hst:size + c / 5 % 4 = step
  have hsize:4 ≤ size := by (first | lia | omega)
  have hstep:size ≤ step ∧ step < 100 := by (first | lia | omega)
  rw [e_comp,c_range]
  simp (disch := first | decide | omega) only [Jb,Jc,Jd,Je,Jf,Jg,Jh,Ji,Jj,Jk,Jl,Jm,Jn,Jo,Jp,Jq,Jr,Js,Jt,Ju,Jv,Jw,Jx,Jy,Jz,J0,J1,J2,J3,J4,J5,J6,J7,J8,J9,Jba,Jbb,Jbc,Jbd,Jbe,Jbf,Jbg,Jbh,Jbi,Jbj,Jbk,Jbl,Jbm,Jbn,Jbo,Jbp,Jbq,Jbr,Jbs,Jbt,List.map,Gcg,Gdg,Gag,Gbg,List.replicate,Geg,Gfg,Ggg,true_and]
  refine ⟨by simp [big]; (first | lia | omega),gather_rows (P := RowOk) (fun i H' K hi e1 hK=>?_) fun as rows H' e1 h1 h2 h3=>?_⟩
  · simp (disch := first | decide | omega) only [Jb,Jc,Jd,Je,Jf,Jg,Jh,Ji,Jj,Jk,Jl,Jm,Jn,Jo,Jp,Jq,Jr,Js,Jt,Ju,Jv,Jw,Jx,Jy,Jz,J0,J1,J2,J3,J4,J5,J6,J7,J8,J9,Jba,Jbb,Jbc,Jbd,Jbe,Jbf,Jbg,Jbh,Jbi,Jbj,Jbk,Jbl,Jbm,Jbn,Jbo,Jbp,Jbq,Jbr,Jbs,Jbt,List.map,Gcg,Gdg,Gag,Gbg,List.replicate,Geg,Gfg,Ggg,true_and,f_law_ringed_e1]
    intro a ha
    rw [range_int2]
    exact hK a _ _ (Ext.upd ha) upd_self (rowOk_range (by (first | lia | omega)) (by (first | lia | omega)))
  · intro a ha
    rw [t_for,c_range]
    simp (disch := first | decide | omega) only [Jb,Jc,Jd,Je,Jf,Jg,Jh,Ji,Jj,Jk,Jl,Jm,Jn,Jo,Jp,Jq,Jr,Js,Jt,Ju,Jv,Jw,Jx,Jy,Jz,J0,J1,J2,J3,J4,J5,J6,J7,J8,J9,Jba,Jbb,Jbc,Jbd,Jbe,Jbf,Jbg,Jbh,Jbi,Jbj,Jbk,Jbl,Jbm,Jbn,Jbo,Jbp,Jbq,Jbr,Jbs,Jbt,List.map,Gcg,Gdg,Gag,Gbg,List.replicate,Geg,Gfg,Ggg,true_and]
    refine loop_range0 (fun i ρ H₁=>(Ex3 fun r4 as rows=>An6 (ρ = [some (.int m),some (.int c),some (.int size),some (.int step),r4,some (.ref a)]) (Ext H H₁) (H₁ a = some (.list (as.map V.ref))) (RowsL H₁ as rows) ((∀ x ∈ as,x ≠ a)) (Wf m rows))) ?_ ?_ ?_
    · refine ⟨none,as,rows,rfl,e1.trans (Ext.upd ha),upd_self,h1.ext (Ext.upd ha),fun x hx hxa=>?_,⟨by simpa using h2,h3⟩⟩
      subst hxa
      obtain ⟨i,hi⟩ := List.mem_iff_getElem?.mp hx
      have hlt := (List.getElem?_eq_some_iff.mp hi).1
      have := h1.2 i x _ hi (List.getElem?_eq_getElem (by rw [← h1.1]; exact hlt))
      unfold LI at this
      rw [ha] at this; cases this
    · rintro i ρ H₁ K hi hPt10 hK
      refine by_c fun no=>?_
      obtain ⟨r4,as,rows,rfl,e,hA,hR,hne,hW⟩ := hPt10
      refine no ?_;clear no
      have hi':i < m := by simpa using hi
      simp (disch := first | decide | omega) only [Jb,Jc,Jd,Je,Jf,Jg,Jh,Ji,Jj,Jk,Jl,Jm,Jn,Jo,Jp,Jq,Jr,Js,Jt,Ju,Jv,Jw,Jx,Jy,Jz,J0,J1,J2,J3,J4,J5,J6,J7,J8,J9,Jba,Jbb,Jbc,Jbd,Jbe,Jbf,Jbg,Jbh,Jbi,Jbj,Jbk,Jbl,Jbm,Jbn,Jbo,Jbp,Jbq,Jbr,Jbs,Jbt,List.map,Gcg,Gdg,Gag,Gbg,List.replicate,Geg,Gfg,Ggg,true_and,f_law_ringed_b1]
      refine i_ite (decide ((i:Int) % step = size - 1)) (fun Q' h'=>?_) ?_
      · simp (disch := first | decide | omega) only [Jb,Jc,Jd,Je,Jf,Jg,Jh,Ji,Jj,Jk,Jl,Jm,Jn,Jo,Jp,Jq,Jr,Js,Jt,Ju,Jv,Jw,Jx,Jy,Jz,J0,J1,J2,J3,J4,J5,J6,J7,J8,J9,Jba,Jbb,Jbc,Jbd,Jbe,Jbf,Jbg,Jbh,Jbi,Jbj,Jbk,Jbl,Jbm,Jbn,Jbo,Jbp,Jbq,Jbr,Jbs,Jbt,List.map,Gcg,Gdg,Gag,Gbg,List.replicate,Geg,Gfg,Ggg,true_and]; exact h'
      · split
        · rename_i hh
          simp only [decide_eq_true_eq] at hh
          have hle:(i:Int) % step ≤ i := by
            have h1 := Int.mul_ediv_add_emod (i:Int) step
            have h2:0 ≤ step * ((i:Int) / step) := Int.mul_nonneg (by (first | lia | omega)) (Int.ediv_nonneg (by (first | lia | omega)) (by (first | lia | omega)))
            (first | lia | omega)
          simp (disch := first | decide | omega) only [Jb,Jc,Jd,Je,Jf,Jg,Jh,Ji,Jj,Jk,Jl,Jm,Jn,Jo,Jp,Jq,Jr,Js,Jt,Ju,Jv,Jw,Jx,Jy,Jz,J0,J1,J2,J3,J4,J5,J6,J7,J8,J9,Jba,Jbb,Jbc,Jbd,Jbe,Jbf,Jbg,Jbh,Jbi,Jbj,Jbk,Jbl,Jbm,Jbn,Jbo,Jbp,Jbq,Jbr,Jbs,Jbt,List.map,Gcg,Gdg,Gag,Gbg,List.replicate,Geg,Gfg,Ggg,true_and,t_setitem]
          intro x hx
          have hA' := (Ext.upd (o := .list [.int ((i:Int) + 1 - size),.int ((i:Int) - 1)]) hx) _ _ hA
          have hL:i < (as.map V.ref).length := by rw [List.length_map,hR.1,hW.1]; exact hi'
          rw [r_setL hA' (by (first | lia | omega)) (by (first | lia | omega))]
          have hxa:x ≠ a := fun z=>by rw [z,hA] at hx; cases hx
          have hHa:H a = none := e1.isNone ha
          refine hK _ _ ⟨_,as.set i x,rows.set i [(i:Int) + 1 - size,(i:Int) - 1],rfl,(e.trans (Ext.upd hx)).upd' hHa,?_,?_,?_,?_⟩
          · rw [upd_self,Int.toNat_natCast,List.map_set]
          · refine RowsL.upd ?_ ?_
            · refine ⟨by simp [hR.1],fun k y r h1 h2=>?_⟩
              rw [List.getElem?_set] at h1 h2
              by_cases hki:i = k
              · subst hki
                rw [if_pos rfl] at h1 h2
                rw [if_pos (by rw [← hR.1]; simpa using hL)] at h2
                rw [if_pos (by simpa using hL)] at h1
                cases h1; cases h2
                exact upd_self
              · rw [if_neg hki] at h1 h2
                exact (hR.2 k y r h1 h2).ext (Ext.upd hx)
            · intro y hy
              rcases List.mem_or_eq_of_mem_set hy with hy | hy
              · exact hne y hy
              · rw [hy]; exact hxa
          · intro y hy
            rcases List.mem_or_eq_of_mem_set hy with hy | hy
            · exact hne y hy
            · rw [hy]; exact hxa
          · refine ⟨by simp [hW.1],fun k r h2=>?_⟩
            rw [List.getElem?_set] at h2
            by_cases hki:i = k
            · subst hki
              rw [if_pos rfl,if_pos (by rw [hW.1]; exact hi')] at h2
              cases h2
              exact ⟨by simp; (first | lia | omega),by simp; (first | lia | omega)⟩
            · rw [if_neg hki] at h2
              exact hW.2 k r h2
        · simp (disch := first | decide | omega) only [Jb,Jc,Jd,Je,Jf,Jg,Jh,Ji,Jj,Jk,Jl,Jm,Jn,Jo,Jp,Jq,Jr,Js,Jt,Ju,Jv,Jw,Jx,Jy,Jz,J0,J1,J2,J3,J4,J5,J6,J7,J8,J9,Jba,Jbb,Jbc,Jbd,Jbe,Jbf,Jbg,Jbh,Jbi,Jbj,Jbk,Jbl,Jbm,Jbn,Jbo,Jbp,Jbq,Jbr,Jbs,Jbt,List.map,Gcg,Gdg,Gag,Gbg,List.replicate,Geg,Gfg,Ggg,true_and]
          exact hK _ _ ⟨_,as,rows,rfl,e,hA,hR,hne,hW⟩
    · rintro ρ H₁ hPt11
      refine by_c fun no=>?_
      obtain ⟨r4,as,rows,rfl,e,hA,hR,hne,hW⟩ := hPt11
      refine no ?_;clear no
      simp (disch := first | decide | omega) only [Jb,Jc,Jd,Je,Jf,Jg,Jh,Ji,Jj,Jk,Jl,Jm,Jn,Jo,Jp,Jq,Jr,Js,Jt,Ju,Jv,Jw,Jx,Jy,Jz,J0,J1,J2,J3,J4,J5,J6,J7,J8,J9,Jba,Jbb,Jbc,Jbd,Jbe,Jbf,Jbg,Jbh,Jbi,Jbj,Jbk,Jbl,Jbm,Jbn,Jbo,Jbp,Jbq,Jbr,Jbs,Jbt,List.map,Gcg,Gdg,Gag,Gbg,List.replicate,Geg,Gfg,Ggg,true_and]
      exact q a as rows H₁ e (e1.isNone ha) hA hR hW
structure Base (G:GEnv):Prop where
  cellAt:G.fn "_law_cell_at" = some f_law_cell_at
  mixed:G.fn "_law_mixed" = some f_law_mixed
  earlier:G.fn "_law_earlier" = some f_law_earlier
  anyRows:G.fn "_law_any_rows" = some f_law_any_rows
  banded:G.fn "_law_banded" = some f_law_banded
  ringed:G.fn "_law_ringed" = some f_law_ringed
  hubbed:G.fn "_law_hubbed" = some f_law_hubbed
  rows:G.fn "_law_rows" = some f_law_rows
  name:G.fn "_law_name" = some f_law_name
  ties:G.fn "_law_ties" = some f_law_ties
  near:G.fn "_law_near" = some f_law_near
  init:G.fn "Web.__init__" = some f_Web__init_
  need:G.fn "Web.need" = some f_Web_need
  tied:G.fn "Web.tied" = some f_Web_tied
  wties:G.fn "Web.ties" = some f_Web_ties
  webOf:G.fn "web_of" = some f_web_of
  most:G.const "MOST" = some (.int 60)
theorem s_rows (B:Base G) {ns:List Int} {m:Nat} (hm:m ≤ 60) (q:RowsK H m Q):callN G (n + 3) "_law_rows" [.script ns,.int m] H Q E := by
  refine call_of B.rows rfl ?_
  simp (disch := first | decide | omega) only [Jb,Jc,Jd,Je,Jf,Jg,Jh,Ji,Jj,Jk,Jl,Jm,Jn,Jo,Jp,Jq,Jr,Js,Jt,Ju,Jv,Jw,Jx,Jy,Jz,J0,J1,J2,J3,J4,J5,J6,J7,J8,J9,Jba,Jbb,Jbc,Jbd,Jbe,Jbf,Jbg,Jbh,Jbi,Jbj,Jbk,Jbl,Jbm,Jbn,Jbo,Jbp,Jbq,Jbr,Jbs,Jbt,List.map,Gcg,Gdg,Gag,Gbg,List.replicate,Geg,Gfg,Ggg,true_and,f_law_rows,B.cellAt,B.earlier,B.anyRows,B.banded,B.ringed,B.hubbed]
  refine s_cellAt B.cellAt (by decide) ?_
  try simp (disch := first | decide | omega) only [Jb,Jc,Jd,Je,Jf,Jg,Jh,Ji,Jj,Jk,Jl,Jm,Jn,Jo,Jp,Jq,Jr,Js,Jt,Ju,Jv,Jw,Jx,Jy,Jz,J0,J1,J2,J3,J4,J5,J6,J7,J8,J9,Jba,Jbb,Jbc,Jbd,Jbe,Jbf,Jbg,Jbh,Jbi,Jbj,Jbk,Jbl,Jbm,Jbn,Jbo,Jbp,Jbq,Jbr,Jbs,Jbt,List.map,Gcg,Gdg,Gag,Gbg,List.replicate,Geg,Gfg,Ggg,true_and,B.cellAt]
  refine s_cellAt B.cellAt (by decide) ?_
  try simp (disch := first | decide | omega) only [Jb,Jc,Jd,Je,Jf,Jg,Jh,Ji,Jj,Jk,Jl,Jm,Jn,Jo,Jp,Jq,Jr,Js,Jt,Ju,Jv,Jw,Jx,Jy,Jz,J0,J1,J2,J3,J4,J5,J6,J7,J8,J9,Jba,Jbb,Jbc,Jbd,Jbe,Jbf,Jbg,Jbh,Jbi,Jbj,Jbk,Jbl,Jbm,Jbn,Jbo,Jbp,Jbq,Jbr,Jbs,Jbt,List.map,Gcg,Gdg,Gag,Gbg,List.replicate,Geg,Gfg,Ggg,true_and]
  generalize hk:cell ns (2:Int).toNat % 8 = kind
  generalize hc:cell ns (2:Int).toNat / 8 = c
  refine i_ite (decide (kind = 1) && decide (3 < (m:Int))) (fun Q' h'=>?_) ?_
  · simp (disch := first | decide | omega) only [Jb,Jc,Jd,Je,Jf,Jg,Jh,Ji,Jj,Jk,Jl,Jm,Jn,Jo,Jp,Jq,Jr,Js,Jt,Ju,Jv,Jw,Jx,Jy,Jz,J0,J1,J2,J3,J4,J5,J6,J7,J8,J9,Jba,Jbb,Jbc,Jbd,Jbe,Jbf,Jbg,Jbh,Jbi,Jbj,Jbk,Jbl,Jbm,Jbn,Jbo,Jbp,Jbq,Jbr,Jbs,Jbt,List.map,Gcg,Gdg,Gag,Gbg,List.replicate,Geg,Gfg,Ggg,true_and]; split <;> simp_all
  split
  · rename_i hh
    simp only [Bool.and_eq_true,decide_eq_true_eq] at hh
    simp (disch := first | decide | omega) only [Jb,Jc,Jd,Je,Jf,Jg,Jh,Ji,Jj,Jk,Jl,Jm,Jn,Jo,Jp,Jq,Jr,Js,Jt,Ju,Jv,Jw,Jx,Jy,Jz,J0,J1,J2,J3,J4,J5,J6,J7,J8,J9,Jba,Jbb,Jbc,Jbd,Jbe,Jbf,Jbg,Jbh,Jbi,Jbj,Jbk,Jbl,Jbm,Jbn,Jbo,Jbp,Jbq,Jbr,Jbs,Jbt,List.map,Gcg,Gdg,Gag,Gbg,List.replicate,Geg,Gfg,Ggg,true_and]
    refine ⟨by rw [B.earlier]; rfl,?_⟩
    have hc1:0 ≤ c % ((m:Int) - 3) := Int.emod_nonneg _ (by omega)
    exact s_earlier B.cellAt B.mixed B.earlier hm (.inr (by omega)) q
  simp (disch := first | decide | omega) only [Jb,Jc,Jd,Je,Jf,Jg,Jh,Ji,Jj,Jk,Jl,Jm,Jn,Jo,Jp,Jq,Jr,Js,Jt,Ju,Jv,Jw,Jx,Jy,Jz,J0,J1,J2,J3,J4,J5,J6,J7,J8,J9,Jba,Jbb,Jbc,Jbd,Jbe,Jbf,Jbg,Jbh,Jbi,Jbj,Jbk,Jbl,Jbm,Jbn,Jbo,Jbp,Jbq,Jbr,Jbs,Jbt,List.map,Gcg,Gdg,Gag,Gbg,List.replicate,Geg,Gfg,Ggg,true_and]
  refine i_ite ((decide (1 < kind) && decide (kind < 5)) && decide ((m:Int) < 41)) (fun Q' h'=>?_) ?_
  · simp (disch := first | decide | omega) only [Jb,Jc,Jd,Je,Jf,Jg,Jh,Ji,Jj,Jk,Jl,Jm,Jn,Jo,Jp,Jq,Jr,Js,Jt,Ju,Jv,Jw,Jx,Jy,Jz,J0,J1,J2,J3,J4,J5,J6,J7,J8,J9,Jba,Jbb,Jbc,Jbd,Jbe,Jbf,Jbg,Jbh,Jbi,Jbj,Jbk,Jbl,Jbm,Jbn,Jbo,Jbp,Jbq,Jbr,Jbs,Jbt,List.map,Gcg,Gdg,Gag,Gbg,List.replicate,Geg,Gfg,Ggg,true_and]
    split <;> (try split) <;> simp_all
  split
  · simp (disch := first | decide | omega) only [Jb,Jc,Jd,Je,Jf,Jg,Jh,Ji,Jj,Jk,Jl,Jm,Jn,Jo,Jp,Jq,Jr,Js,Jt,Ju,Jv,Jw,Jx,Jy,Jz,J0,J1,J2,J3,J4,J5,J6,J7,J8,J9,Jba,Jbb,Jbc,Jbd,Jbe,Jbf,Jbg,Jbh,Jbi,Jbj,Jbk,Jbl,Jbm,Jbn,Jbo,Jbp,Jbq,Jbr,Jbs,Jbt,List.map,Gcg,Gdg,Gag,Gbg,List.replicate,Geg,Gfg,Ggg,true_and,B.anyRows]
    exact s_any_rows B.cellAt B.mixed B.anyRows hm q
  simp (disch := first | decide | omega) only [Jb,Jc,Jd,Je,Jf,Jg,Jh,Ji,Jj,Jk,Jl,Jm,Jn,Jo,Jp,Jq,Jr,Js,Jt,Ju,Jv,Jw,Jx,Jy,Jz,J0,J1,J2,J3,J4,J5,J6,J7,J8,J9,Jba,Jbb,Jbc,Jbd,Jbe,Jbf,Jbg,Jbh,Jbi,Jbj,Jbk,Jbl,Jbm,Jbn,Jbo,Jbp,Jbq,Jbr,Jbs,Jbt,List.map,Gcg,Gdg,Gag,Gbg,List.replicate,Geg,Gfg,Ggg,true_and]
  refine i_ite (decide (kind = 5)) (fun Q' h'=>?_) ?_
  · simp (disch := first | decide | omega) only [Jb,Jc,Jd,Je,Jf,Jg,Jh,Ji,Jj,Jk,Jl,Jm,Jn,Jo,Jp,Jq,Jr,Js,Jt,Ju,Jv,Jw,Jx,Jy,Jz,J0,J1,J2,J3,J4,J5,J6,J7,J8,J9,Jba,Jbb,Jbc,Jbd,Jbe,Jbf,Jbg,Jbh,Jbi,Jbj,Jbk,Jbl,Jbm,Jbn,Jbo,Jbp,Jbq,Jbr,Jbs,Jbt,List.map,Gcg,Gdg,Gag,Gbg,List.replicate,Geg,Gfg,Ggg,true_and]; exact h'
  split
  · simp (disch := first | decide | omega) only [Jb,Jc,Jd,Je,Jf,Jg,Jh,Ji,Jj,Jk,Jl,Jm,Jn,Jo,Jp,Jq,Jr,Js,Jt,Ju,Jv,Jw,Jx,Jy,Jz,J0,J1,J2,J3,J4,J5,J6,J7,J8,J9,Jba,Jbb,Jbc,Jbd,Jbe,Jbf,Jbg,Jbh,Jbi,Jbj,Jbk,Jbl,Jbm,Jbn,Jbo,Jbp,Jbq,Jbr,Jbs,Jbt,List.map,Gcg,Gdg,Gag,Gbg,List.replicate,Geg,Gfg,Ggg,true_and,B.banded]
    exact s_banded B.banded hm q
  simp (disch := first | decide | omega) only [Jb,Jc,Jd,Je,Jf,Jg,Jh,Ji,Jj,Jk,Jl,Jm,Jn,Jo,Jp,Jq,Jr,Js,Jt,Ju,Jv,Jw,Jx,Jy,Jz,J0,J1,J2,J3,J4,J5,J6,J7,J8,J9,Jba,Jbb,Jbc,Jbd,Jbe,Jbf,Jbg,Jbh,Jbi,Jbj,Jbk,Jbl,Jbm,Jbn,Jbo,Jbp,Jbq,Jbr,Jbs,Jbt,List.map,Gcg,Gdg,Gag,Gbg,List.replicate,Geg,Gfg,Ggg,true_and]
  refine i_ite (decide (kind = 6)) (fun Q' h'=>?_) ?_
  · simp (disch := first | decide | omega) only [Jb,Jc,Jd,Je,Jf,Jg,Jh,Ji,Jj,Jk,Jl,Jm,Jn,Jo,Jp,Jq,Jr,Js,Jt,Ju,Jv,Jw,Jx,Jy,Jz,J0,J1,J2,J3,J4,J5,J6,J7,J8,J9,Jba,Jbb,Jbc,Jbd,Jbe,Jbf,Jbg,Jbh,Jbi,Jbj,Jbk,Jbl,Jbm,Jbn,Jbo,Jbp,Jbq,Jbr,Jbs,Jbt,List.map,Gcg,Gdg,Gag,Gbg,List.replicate,Geg,Gfg,Ggg,true_and]; exact h'
  split
  · simp (disch := first | decide | omega) only [Jb,Jc,Jd,Je,Jf,Jg,Jh,Ji,Jj,Jk,Jl,Jm,Jn,Jo,Jp,Jq,Jr,Js,Jt,Ju,Jv,Jw,Jx,Jy,Jz,J0,J1,J2,J3,J4,J5,J6,J7,J8,J9,Jba,Jbb,Jbc,Jbd,Jbe,Jbf,Jbg,Jbh,Jbi,Jbj,Jbk,Jbl,Jbm,Jbn,Jbo,Jbp,Jbq,Jbr,Jbs,Jbt,List.map,Gcg,Gdg,Gag,Gbg,List.replicate,Geg,Gfg,Ggg,true_and,B.ringed]
    exact s_ringed B.ringed hm q
  simp (disch := first | decide | omega) only [Jb,Jc,Jd,Je,Jf,Jg,Jh,Ji,Jj,Jk,Jl,Jm,Jn,Jo,Jp,Jq,Jr,Js,Jt,Ju,Jv,Jw,Jx,Jy,Jz,J0,J1,J2,J3,J4,J5,J6,J7,J8,J9,Jba,Jbb,Jbc,Jbd,Jbe,Jbf,Jbg,Jbh,Jbi,Jbj,Jbk,Jbl,Jbm,Jbn,Jbo,Jbp,Jbq,Jbr,Jbs,Jbt,List.map,Gcg,Gdg,Gag,Gbg,List.replicate,Geg,Gfg,Ggg,true_and]
  refine i_ite (decide (kind = 7)) (fun Q' h'=>?_) ?_
  · simp (disch := first | decide | omega) only [Jb,Jc,Jd,Je,Jf,Jg,Jh,Ji,Jj,Jk,Jl,Jm,Jn,Jo,Jp,Jq,Jr,Js,Jt,Ju,Jv,Jw,Jx,Jy,Jz,J0,J1,J2,J3,J4,J5,J6,J7,J8,J9,Jba,Jbb,Jbc,Jbd,Jbe,Jbf,Jbg,Jbh,Jbi,Jbj,Jbk,Jbl,Jbm,Jbn,Jbo,Jbp,Jbq,Jbr,Jbs,Jbt,List.map,Gcg,Gdg,Gag,Gbg,List.replicate,Geg,Gfg,Ggg,true_and]; exact h'
  split
  · simp (disch := first | decide | omega) only [Jb,Jc,Jd,Je,Jf,Jg,Jh,Ji,Jj,Jk,Jl,Jm,Jn,Jo,Jp,Jq,Jr,Js,Jt,Ju,Jv,Jw,Jx,Jy,Jz,J0,J1,J2,J3,J4,J5,J6,J7,J8,J9,Jba,Jbb,Jbc,Jbd,Jbe,Jbf,Jbg,Jbh,Jbi,Jbj,Jbk,Jbl,Jbm,Jbn,Jbo,Jbp,Jbq,Jbr,Jbs,Jbt,List.map,Gcg,Gdg,Gag,Gbg,List.replicate,Geg,Gfg,Ggg,true_and,B.hubbed]
    exact s_hubbed B.hubbed hm q
  simp (disch := first | decide | omega) only [Jb,Jc,Jd,Je,Jf,Jg,Jh,Ji,Jj,Jk,Jl,Jm,Jn,Jo,Jp,Jq,Jr,Js,Jt,Ju,Jv,Jw,Jx,Jy,Jz,J0,J1,J2,J3,J4,J5,J6,J7,J8,J9,Jba,Jbb,Jbc,Jbd,Jbe,Jbf,Jbg,Jbh,Jbi,Jbj,Jbk,Jbl,Jbm,Jbn,Jbo,Jbp,Jbq,Jbr,Jbs,Jbt,List.map,Gcg,Gdg,Gag,Gbg,List.replicate,Geg,Gfg,Ggg,true_and]
  exact s_earlier B.cellAt B.mixed B.earlier hm (.inl rfl) q
set_option linter.all false
variable {G:GEnv} {n:Nat} {H H':AH} {Q:Post} {E:EP} {C:CS} {ρ:Loc}
theorem alloc_i {o:O} (q:∀ a H',Ext H H' → H a = none → H' a = some o → Q (.ref a) H'):alloc o H Q := fun a ha=>q a _ (Ext.upd ha) ha upd_self
noncomputable def pairO (p:Int × Int):O := .tuple [.int p.1,.int p.2]
noncomputable def PairsL (H:AH) (as:List Nat) (ps:List (Int × Int)):Prop := as.map H = ps.map fun p=>some (pairO p)
theorem PairsL.len {as:List Nat} {ps:List (Int × Int)} (h:PairsL H as ps):as.length = ps.length := by
  have := congrArg List.length h
  simpa using this
theorem PairsL.at_ {as:List Nat} {ps:List (Int × Int)} {i x:Nat} {p:Int × Int} (h:PairsL H as ps) (h1:as[i]? = some x) (h2:ps[i]? = some p):H x = some (pairO p) := by
  have := congrArg (fun l=>l[i]?) h
  simpa [h1,h2] using this
theorem PairsL.ex {as:List Nat} {ps:List (Int × Int)} {i x:Nat} (h:PairsL H as ps) (h1:as[i]? = some x):∃ p,ps[i]? = some p ∧ H x = some (pairO p) := by
  have hl := (List.getElem?_eq_some_iff.mp h1).1
  rw [h.len] at hl
  exact ⟨_,List.getElem?_eq_getElem hl,h.at_ h1 (List.getElem?_eq_getElem hl)⟩
theorem PairsL.ext' {as:List Nat} {ps:List (Int × Int)} (h:PairsL H as ps) (e:∀ x ∈ as,∀ o,H x = some o → H' x = some o):PairsL H' as ps := by
  unfold PairsL at *
  rw [← h]
  refine List.map_congr_left fun x hx=>?_
  obtain ⟨i,hi⟩ := List.mem_iff_getElem?.mp hx
  obtain ⟨p,_,hp⟩ := PairsL.ex (H := H) (ps := ps) h hi
  rw [hp]
  exact e x hx _ hp
theorem PairsL.ext {as:List Nat} {ps:List (Int × Int)} (h:PairsL H as ps) (e:Ext H H'):PairsL H' as ps := h.ext' fun x _ o q=>e x o q
theorem PairsL.app {as bs:List Nat} {ps qs:List (Int × Int)} (h:PairsL H as ps) (h':PairsL H bs qs):PairsL H (as ++ bs) (ps ++ qs) := by
  unfold PairsL at *
  rw [List.map_append,List.map_append,h,h']
theorem PairsL.take {as:List Nat} {ps:List (Int × Int)} (k:Nat) (h:PairsL H as ps):PairsL H (as.take k) (ps.take k) := by
  unfold PairsL at *
  rw [List.map_take,List.map_take,h]
theorem PairsL.drop {as:List Nat} {ps:List (Int × Int)} (k:Nat) (h:PairsL H as ps):PairsL H (as.drop k) (ps.drop k) := by
  unfold PairsL at *
  rw [List.map_drop,List.map_drop,h]
theorem PairsL.one {x:Nat} {p:Int × Int} (h:H x = some (pairO p)):PairsL H [x] [p] := by
  unfold PairsL; simp [h]
theorem r_slice {a:Nat} {xs:List V} {l u:V} {l' u':Option Int} (h:H a = some (.list xs)) (hl:bound? l = some l') (hu:bound? u = some u'):sliceOp (.ref a) l u .none H Q = alloc (.list (cut xs l' u')) H Q := by
  delta sliceOp; (try dsimp only); rw [hl]; (try dsimp only); rw [hu]; (try dsimp only); rw [h]; (try dsimp only)
theorem b_none:bound? .none = some none := rfl
theorem b_int {k:Int}:bound? (.int k) = some (some k) := rfl
theorem cut_hi {xs:List V} {k:Int} (h:0 ≤ k):cut xs none (some k) = xs.take k.toNat := by
  unfold cut clamp
  simp only [if_neg (show ¬ k < 0 by (first | lia | omega)),List.drop_zero]
  rcases Nat.le_total k.toNat xs.length with q | q
  · rw [Nat.min_eq_left q]
  · rw [Nat.min_eq_right q,List.take_of_length_le q,List.take_of_length_le (Nat.le_refl _)]
theorem cut_lo {xs:List V} {k:Int} (h:0 ≤ k):cut xs (some k) none = xs.drop k.toNat := by
  unfold cut clamp
  simp only [if_neg (show ¬ k < 0 by omega),List.take_length]
  rcases Nat.le_total k.toNat xs.length with q | q
  · rw [Nat.min_eq_left q]
  · rw [Nat.min_eq_right q,List.drop_of_length_le q,List.drop_of_length_le (Nat.le_refl _)]
theorem cut_mid {xs:List V} {k l:Int} (h:0 ≤ k) (h':0 ≤ l):cut xs (some k) (some l) = (xs.take l.toNat).drop k.toNat := by
  unfold cut clamp
  simp only [if_neg (show ¬ k < 0 by omega),if_neg (show ¬ l < 0 by omega)]
  have e:xs.take (min l.toNat xs.length) = xs.take l.toNat := by
    rcases Nat.le_total l.toNat xs.length with q | q
    · rw [Nat.min_eq_left q]
    · rw [Nat.min_eq_right q,List.take_of_length_le q,List.take_of_length_le (Nat.le_refl _)]
  rw [e]
  rcases Nat.le_total k.toNat xs.length with q | q
  · rw [Nat.min_eq_left q]
  · rw [Nat.min_eq_right q,List.drop_of_length_le (by simp; omega),List.drop_of_length_le (by simp; omega)]
theorem r_addL {a b:Nat} {xs ys:List V} (h:H a = some (.list xs)) (h':H b = some (.list ys)) (hl:xs.length + ys.length ≤ 1048576):binOp .Add (.ref a) (.ref b) H Q = alloc (.list (xs ++ ys)) H Q := by
  delta binOp; (try dsimp only); (first | delta addOp | delta mulOp | skip); (try dsimp only); rw [h]; (try dsimp only); rw [h']; (try dsimp only)
  exact propext ⟨fun h=>h.2,fun q=>⟨hl,q⟩⟩
theorem r_mulL {a:Nat} {xs:List V} {k:Int} (h:H a = some (.list xs)) (h0:0 ≤ k) (h1:k ≤ 1000) (hl:xs.length * k.toNat ≤ 1048576):binOp .Mult (.ref a) (.int k) H Q = alloc (.list (List.replicate k.toNat xs).flatten) H Q := by
  delta binOp; (try dsimp only); (first | delta addOp | delta mulOp | skip); (try dsimp only); rw [h]; (try dsimp only)
  exact propext ⟨fun h=>h.2,fun q=>⟨⟨h0,h1,hl⟩,q⟩⟩
noncomputable def TieOf (ns:List Int) (m:Nat) (rows:List (List Int)) (p:Int × Int):Prop :=
  (Ex3 fun (k:Nat) (r:List Int) (one:Int)=>An3 (rows[k]? = some r) (one ∈ r) ((p = (nameOf ns m k,nameOf ns m one) ∨ p = (nameOf ns m one,nameOf ns m k))))
noncomputable def TiesOf (ns:List Int) (m:Nat) (rows:List (List Int)) (ps:List (Int × Int)):Prop :=
  (∀ p ∈ ps,TieOf ns m rows p) ∧ ∀ (k:Nat) (r:List Int) (one:Int),rows[k]? = some r → one ∈ r → (nameOf ns m k,nameOf ns m one) ∈ ps ∨ (nameOf ns m one,nameOf ns m k) ∈ ps
structure TB (H H':AH) (t:Nat) (as:List Nat) (ps:List (Int × Int)):Prop where
  ext:Ext H H'
  new:H t = none
  at_:H' t = some (.list (as.map V.ref))
  prs:PairsL H' as ps
  ne:∀ x ∈ as,x ≠ t
theorem TB.snoc {t x:Nat} {as:List Nat} {ps:List (Int × Int)} {p:Int × Int} {H₁:AH} (b:TB H H' t as ps) (e:Ext H' H₁) (hn:H' x = none) (hx:H₁ x = some (pairO p)):TB H (upd H₁ t (.list (as.map V.ref ++ [.ref x]))) t (as ++ [x]) (ps ++ [p]) := by
  have hxt:x ≠ t := fun q=>by rw [q,b.at_] at hn; cases hn
  have hne:∀ y ∈ as ++ [x],y ≠ t := fun y hy=>by
    rcases List.mem_append.mp hy with hy | hy
    · exact b.ne y hy
    · simp at hy; rw [hy]; exact hxt
  refine ⟨(b.ext.trans e).upd' b.new,b.new,by rw [upd_self]; simp,((b.prs.ext e).app (PairsL.one hx)).ext' fun y hy o q=>by rw [upd_ne (hne y hy)]; exact q,hne⟩
theorem s_ties (B:Base G) {ns:List Int} {m a:Nat} {as:List Nat} {rows:List (List Int)} (hm:m ≤ 60) (hA:H a = some (.list (as.map V.ref))) (hR:RowsL H as rows) (hW:Wf m rows)
    (q:∀ t ts ps H',Ext H H' → H t = none → H' t = some (.list (ts.map V.ref)) → PairsL H' ts ps → TiesOf ns m rows ps → ps.length ≤ 4000 → Q (.ref t) H') :
    callN G (n + 3) "_law_ties" [.script ns,.int m,.ref a] H Q E := by
  refine call_of B.ties rfl ?_
  simp (disch := first | decide | omega) only [Jb,Jc,Jd,Je,Jf,Jg,Jh,Ji,Jj,Jk,Jl,Jm,Jn,Jo,Jp,Jq,Jr,Js,Jt,Ju,Jv,Jw,Jx,Jy,Jz,J0,J1,J2,J3,J4,J5,J6,J7,J8,J9,Jba,Jbb,Jbc,Jbd,Jbe,Jbf,Jbg,Jbh,Jbi,Jbj,Jbk,Jbl,Jbm,Jbn,Jbo,Jbp,Jbq,Jbr,Jbs,Jbt,List.map,Gcg,Gdg,Gag,Gbg,List.replicate,Geg,Gfg,Ggg,true_and,f_law_ties]
  intro t ht
  rw [t_for,c_range]
  simp (disch := first | decide | omega) only [Jb,Jc,Jd,Je,Jf,Jg,Jh,Ji,Jj,Jk,Jl,Jm,Jn,Jo,Jp,Jq,Jr,Js,Jt,Ju,Jv,Jw,Jx,Jy,Jz,J0,J1,J2,J3,J4,J5,J6,J7,J8,J9,Jba,Jbb,Jbc,Jbd,Jbe,Jbf,Jbg,Jbh,Jbi,Jbj,Jbk,Jbl,Jbm,Jbn,Jbo,Jbp,Jbq,Jbr,Jbs,Jbt,List.map,Gcg,Gdg,Gag,Gbg,List.replicate,Geg,Gfg,Ggg,true_and]
  refine loop_range0 (fun i ρ H'=>(Ex5 fun r4 r5 r6 ts ps=>An5 (ρ = [some (.script ns),some (.int m),some (.ref a),some (.ref t),r4,r5,r6]) (TB H H' t ts ps) (ps.length ≤ 60 * i) ((∀ p ∈ ps,TieOf ns m rows p)) (∀ (k:Nat) (r:List Int) (one:Int),k < i → rows[k]? = some r → one ∈ r → (nameOf ns m k,nameOf ns m one) ∈ ps ∨ (nameOf ns m one,nameOf ns m k) ∈ ps)))
    ⟨none,none,none,[],[],rfl,⟨Ext.upd ht,ht,upd_self,rfl,by simp⟩,by simp,by simp,by (first | lia | omega)⟩ ?_ ?_
  · rintro i ρ H' K hi hPt12 hK
    refine by_c fun no=>?_
    obtain ⟨r4,r5,r6,ts,ps,rfl,b,hlen,htie,hall⟩ := hPt12
    refine no ?_;clear no
    have hi':i < m := by simpa using hi
    have hil:i < rows.length := by rw [hW.1]; exact hi'
    have hial:i < as.length := by rw [hR.1]; exact hil
    have hxi:as[i]? = some (as[i]) := List.getElem?_eq_getElem hial
    have hri:rows[i]? = some (rows[i]) := List.getElem?_eq_getElem hil
    generalize as[i] = xi at hxi
    generalize rows[i] = ri at hri
    have hok := hW.2 i ri hri
    have hLi:LI H xi ri := hR.2 i xi ri hxi hri
    have hsub:(as.map V.ref)[(i:Int).toNat]? = some (.ref xi) := by rw [Int.toNat_natCast,List.getElem?_map,hxi]; rfl
    simp (disch := first | decide | omega) only [Jb,Jc,Jd,Je,Jf,Jg,Jh,Ji,Jj,Jk,Jl,Jm,Jn,Jo,Jp,Jq,Jr,Js,Jt,Ju,Jv,Jw,Jx,Jy,Jz,J0,J1,J2,J3,J4,J5,J6,J7,J8,J9,Jba,Jbb,Jbc,Jbd,Jbe,Jbf,Jbg,Jbh,Jbi,Jbj,Jbk,Jbl,Jbm,Jbn,Jbo,Jbp,Jbq,Jbr,Jbs,Jbt,List.map,Gcg,Gdg,Gag,Gbg,List.replicate,Geg,Gfg,Ggg,true_and,f_law_ties_b2]
    rw [t_for,c_val]
    simp (disch := first | decide | omega) only [Jb,Jc,Jd,Je,Jf,Jg,Jh,Ji,Jj,Jk,Jl,Jm,Jn,Jo,Jp,Jq,Jr,Js,Jt,Ju,Jv,Jw,Jx,Jy,Jz,J0,J1,J2,J3,J4,J5,J6,J7,J8,J9,Jba,Jbb,Jbc,Jbd,Jbe,Jbf,Jbg,Jbh,Jbi,Jbj,Jbk,Jbl,Jbm,Jbn,Jbo,Jbp,Jbq,Jbr,Jbs,Jbt,List.map,Gcg,Gdg,Gag,Gbg,List.replicate,Geg,Gfg,Ggg,true_and]
    rw [r_subL (b.ext _ _ hA) (by (first | lia | omega)) hsub,r_srcL (b.ext _ _ hLi)]
    refine loop_list (fun j ρ H'=>(Ex4 fun r5 r6 ts ps=>An6 (ρ = [some (.script ns),some (.int m),some (.ref a),some (.ref t),some (.int i),r5,r6]) (TB H H' t ts ps) (ps.length ≤ 60 * i + j) ((∀ p ∈ ps,TieOf ns m rows p)) ((∀ (k:Nat) (r:List Int) (one:Int),k < i → rows[k]? = some r → one ∈ r → (nameOf ns m k,nameOf ns m one) ∈ ps ∨ (nameOf ns m one,nameOf ns m k) ∈ ps)) (∀ one ∈ ri.take j,(nameOf ns m i,nameOf ns m one) ∈ ps ∨ (nameOf ns m one,nameOf ns m i) ∈ ps)))
      ⟨_,_,ts,ps,rfl,b,hlen,htie,hall,by simp⟩ ?_ ?_ ?_
    · rintro j ρ H' hPt13
      refine by_c fun no=>?_
      obtain ⟨r5,r6,ts,ps,rfl,b,_⟩ := hPt13
      refine no ?_;clear no
      exact b.ext _ _ hLi
    · rintro j v ρ H' K' hv hPt14 hK'
      refine by_c fun no=>?_
      obtain ⟨r5,r6,ts,ps,rfl,b,hlen,htie,hall,hj⟩ := hPt14
      refine no ?_;clear no
      rw [List.getElem?_map] at hv
      refine by_c fun no=>?_
      obtain ⟨one,hone,rfl⟩ := Option.map_eq_some_iff.mp hv
      refine no ?_;clear no
      have hmem := List.mem_of_getElem? hone
      have hone2 := hok.2 one hmem
      have hjl := (List.getElem?_eq_some_iff.mp hone).1
      have hrl := hok.1
      simp (disch := first | decide | omega) only [Jb,Jc,Jd,Je,Jf,Jg,Jh,Ji,Jj,Jk,Jl,Jm,Jn,Jo,Jp,Jq,Jr,Js,Jt,Ju,Jv,Jw,Jx,Jy,Jz,J0,J1,J2,J3,J4,J5,J6,J7,J8,J9,Jba,Jbb,Jbc,Jbd,Jbe,Jbf,Jbg,Jbh,Jbi,Jbj,Jbk,Jbl,Jbm,Jbn,Jbo,Jbp,Jbq,Jbr,Jbs,Jbt,List.map,Gcg,Gdg,Gag,Gbg,List.replicate,Geg,Gfg,Ggg,true_and,f_law_ties_b1,B.name]
      refine s_name B.cellAt B.name (by (first | lia | omega)) (by (first | lia | omega)) ?_
      try simp (disch := first | decide | omega) only [Jb,Jc,Jd,Je,Jf,Jg,Jh,Ji,Jj,Jk,Jl,Jm,Jn,Jo,Jp,Jq,Jr,Js,Jt,Ju,Jv,Jw,Jx,Jy,Jz,J0,J1,J2,J3,J4,J5,J6,J7,J8,J9,Jba,Jbb,Jbc,Jbd,Jbe,Jbf,Jbg,Jbh,Jbi,Jbj,Jbk,Jbl,Jbm,Jbn,Jbo,Jbp,Jbq,Jbr,Jbs,Jbt,List.map,Gcg,Gdg,Gag,Gbg,List.replicate,Geg,Gfg,Ggg,true_and]
      refine s_name B.cellAt B.name (by (first | lia | omega)) (by (first | lia | omega)) ?_
      try simp (disch := first | decide | omega) only [Jb,Jc,Jd,Je,Jf,Jg,Jh,Ji,Jj,Jk,Jl,Jm,Jn,Jo,Jp,Jq,Jr,Js,Jt,Ju,Jv,Jw,Jx,Jy,Jz,J0,J1,J2,J3,J4,J5,J6,J7,J8,J9,Jba,Jbb,Jbc,Jbd,Jbe,Jbf,Jbg,Jbh,Jbi,Jbj,Jbk,Jbl,Jbm,Jbn,Jbo,Jbp,Jbq,Jbr,Jbs,Jbt,List.map,Gcg,Gdg,Gag,Gbg,List.replicate,Geg,Gfg,Ggg,true_and]
      generalize hnk:nameOf ns m i = nk
      generalize hno:nameOf ns m one = no
      intro x hx
      have done:∀ (y:Nat) (p:Int × Int) (H₁:AH),Ext H' H₁ → H' y = none → H₁ y = some (pairO p) → (p = (nk,no) ∨ p = (no,nk)) →
          wpSs G (callN G (n + 2)) [.expr (.lm .append (.var 3) [(.var 6)])] [some (.script ns),some (.int m),some (.ref a),some (.ref t),some (.int i),some (.int one),some (.ref y)] H₁ K' Q E := by
        intro y p H₁ e hy hp hpp
        have ht1 := e _ _ b.at_
        have hl:(ts.map V.ref).length < 1048576 := by rw [List.length_map,b.prs.len]; (first | lia | omega)
        simp (disch := first | decide | omega) only [Jb,Jc,Jd,Je,Jf,Jg,Jh,Ji,Jj,Jk,Jl,Jm,Jn,Jo,Jp,Jq,Jr,Js,Jt,Ju,Jv,Jw,Jx,Jy,Jz,J0,J1,J2,J3,J4,J5,J6,J7,J8,J9,Jba,Jbb,Jbc,Jbd,Jbe,Jbf,Jbg,Jbh,Jbi,Jbj,Jbk,Jbl,Jbm,Jbn,Jbo,Jbp,Jbq,Jbr,Jbs,Jbt,List.map,Gcg,Gdg,Gag,Gbg,List.replicate,Geg,Gfg,Ggg,true_and,e_lm,r_kindL ht1,r_append ht1 hl]
        refine hK' _ _ ⟨_,_,_,_,rfl,b.snoc e hy hp,by simp; (first | lia | omega),?_,?_,?_⟩
        · intro p' hp'
          rcases List.mem_append.mp hp' with h | h
          · exact htie p' h
          · simp at h; subst h
            refine ⟨i,ri,one,hri,hmem,?_⟩
            rw [hnk,hno]; exact hpp
        · intro k r o h1 h2 h3
          rcases hall k r o h1 h2 h3 with h | h
          · exact .inl (List.mem_append_left _ h)
          · exact .inr (List.mem_append_left _ h)
        · intro o ho
          rw [List.take_add_one,hone] at ho
          rcases List.mem_append.mp ho with h | h
          · rcases hj o h with h | h
            · exact .inl (List.mem_append_left _ h)
            · exact .inr (List.mem_append_left _ h)
          · simp at h; subst h
            rw [hnk,hno]
            rcases hpp with rfl | rfl
            · exact .inl (by simp)
            · exact .inr (by simp)
      refine i_ite (decide (((i:Int) + one) % 2 = 1)) (fun Q' h'=>?_) ?_
      · simp (disch := first | decide | omega) only [Jb,Jc,Jd,Je,Jf,Jg,Jh,Ji,Jj,Jk,Jl,Jm,Jn,Jo,Jp,Jq,Jr,Js,Jt,Ju,Jv,Jw,Jx,Jy,Jz,J0,J1,J2,J3,J4,J5,J6,J7,J8,J9,Jba,Jbb,Jbc,Jbd,Jbe,Jbf,Jbg,Jbh,Jbi,Jbj,Jbk,Jbl,Jbm,Jbn,Jbo,Jbp,Jbq,Jbr,Jbs,Jbt,List.map,Gcg,Gdg,Gag,Gbg,List.replicate,Geg,Gfg,Ggg,true_and]; exact h'
      split
      · simp (disch := first | decide | omega) only [Jb,Jc,Jd,Je,Jf,Jg,Jh,Ji,Jj,Jk,Jl,Jm,Jn,Jo,Jp,Jq,Jr,Js,Jt,Ju,Jv,Jw,Jx,Jy,Jz,J0,J1,J2,J3,J4,J5,J6,J7,J8,J9,Jba,Jbb,Jbc,Jbd,Jbe,Jbf,Jbg,Jbh,Jbi,Jbj,Jbk,Jbl,Jbm,Jbn,Jbo,Jbp,Jbq,Jbr,Jbs,Jbt,List.map,Gcg,Gdg,Gag,Gbg,List.replicate,Geg,Gfg,Ggg,true_and]
        rw [r_subT (x := .int no) upd_self (by decide) rfl]
        try simp (disch := first | decide | omega) only [Jb,Jc,Jd,Je,Jf,Jg,Jh,Ji,Jj,Jk,Jl,Jm,Jn,Jo,Jp,Jq,Jr,Js,Jt,Ju,Jv,Jw,Jx,Jy,Jz,J0,J1,J2,J3,J4,J5,J6,J7,J8,J9,Jba,Jbb,Jbc,Jbd,Jbe,Jbf,Jbg,Jbh,Jbi,Jbj,Jbk,Jbl,Jbm,Jbn,Jbo,Jbp,Jbq,Jbr,Jbs,Jbt,List.map,Gcg,Gdg,Gag,Gbg,List.replicate,Geg,Gfg,Ggg,true_and]
        rw [r_subT (x := .int nk) upd_self (by decide) rfl]
        intro y hy
        exact done y (no,nk) _ ((Ext.upd hx).trans (Ext.upd hy)) ((Ext.upd hx).isNone hy) upd_self (.inr rfl)
      · simp (disch := first | decide | omega) only [Jb,Jc,Jd,Je,Jf,Jg,Jh,Ji,Jj,Jk,Jl,Jm,Jn,Jo,Jp,Jq,Jr,Js,Jt,Ju,Jv,Jw,Jx,Jy,Jz,J0,J1,J2,J3,J4,J5,J6,J7,J8,J9,Jba,Jbb,Jbc,Jbd,Jbe,Jbf,Jbg,Jbh,Jbi,Jbj,Jbk,Jbl,Jbm,Jbn,Jbo,Jbp,Jbq,Jbr,Jbs,Jbt,List.map,Gcg,Gdg,Gag,Gbg,List.replicate,Geg,Gfg,Ggg,true_and]
        exact done x (nk,no) _ (Ext.upd hx) hx upd_self (.inl rfl)
    · rintro ρ H' hPt15
      refine by_c fun no=>?_
      obtain ⟨r5,r6,ts,ps,rfl,b,hlen,htie,hall,hj⟩ := hPt15
      refine no ?_;clear no
      refine hK _ _ ⟨_,_,_,ts,ps,rfl,b,?_,htie,?_⟩
      · rw [List.length_map] at hlen
        have := hok.1
        (first | lia | omega)
      · intro k r one h1 h2 h3
        by_cases hki:k = i
        · subst hki
          rw [hri] at h2
          cases h2
          refine hj one ?_
          rw [List.length_map,List.take_of_length_le (Nat.le_refl _)]; exact h3
        · exact hall k r one (by (first | lia | omega)) h2 h3
  · rintro ρ H' hPt16
    refine by_c fun no=>?_
    obtain ⟨r4,r5,r6,ts,ps,rfl,b,hlen,htie,hall⟩ := hPt16
    refine no ?_;clear no
    simp (disch := first | decide | omega) only [Jb,Jc,Jd,Je,Jf,Jg,Jh,Ji,Jj,Jk,Jl,Jm,Jn,Jo,Jp,Jq,Jr,Js,Jt,Ju,Jv,Jw,Jx,Jy,Jz,J0,J1,J2,J3,J4,J5,J6,J7,J8,J9,Jba,Jbb,Jbc,Jbd,Jbe,Jbf,Jbg,Jbh,Jbi,Jbj,Jbk,Jbl,Jbm,Jbn,Jbo,Jbp,Jbq,Jbr,Jbs,Jbt,List.map,Gcg,Gdg,Gag,Gbg,List.replicate,Geg,Gfg,Ggg,true_and]
    have hlen2:ts.length ≤ 3600 := by
      rw [b.prs.len]
      simp only [Int.toNat_natCast] at hlen
      (first | lia | omega)
    rw [e_comp,c_val]
    simp (disch := first | decide | omega) only [Jb,Jc,Jd,Je,Jf,Jg,Jh,Ji,Jj,Jk,Jl,Jm,Jn,Jo,Jp,Jq,Jr,Js,Jt,Ju,Jv,Jw,Jx,Jy,Jz,J0,J1,J2,J3,J4,J5,J6,J7,J8,J9,Jba,Jbb,Jbc,Jbd,Jbe,Jbf,Jbg,Jbh,Jbi,Jbj,Jbk,Jbl,Jbm,Jbn,Jbo,Jbp,Jbq,Jbr,Jbs,Jbt,List.map,Gcg,Gdg,Gag,Gbg,List.replicate,Geg,Gfg,Ggg,true_and]
    rw [r_slice b.at_ b_none b_int,cut_hi (by decide)]
    refine alloc_i fun s1 H₁ ets1 _ hs1v=>?_
    (try dsimp only)
    rw [r_srcL hs1v]
    have p1 := (b.prs.take 3).ext ets1
    refine ⟨by simp [big]; (first | lia | omega),?_⟩
    have hat1 := ets1 _ _ b.at_
    refine gather_ind (k := 0) (fun j acc H₂=>(Ex1 fun us=>An3 (acc = us.map V.ref) (Ext H₁ H₂) (PairsL H₂ us (((ps.take 3).take j).map fun p=>(p.2,p.1))))) ⟨[],rfl,Ext.refl,by simp [PairsL]⟩ ?_ ?_
    · rintro j x acc H₂ K hx hPt17 hK
      refine by_c fun no=>?_
      obtain ⟨us,rfl,e,hp⟩ := hPt17
      refine no ?_;clear no
      rw [List.getElem?_map] at hx
      refine by_c fun no=>?_
      obtain ⟨v,hv,rfl⟩ := Option.map_eq_some_iff.mp hx
      refine no ?_;clear no
      rw [← List.map_take,List.getElem?_map] at hv
      refine by_c fun no=>?_
      obtain ⟨y,hy,rfl⟩ := Option.map_eq_some_iff.mp hv
      refine no ?_;clear no
      refine by_c fun no=>?_
      obtain ⟨p,hpj,hpy⟩ := p1.ex hy
      refine no ?_;clear no
      refine ⟨e _ _ hs1v,_,rfl,?_⟩
      simp (disch := first | decide | omega) only [Jb,Jc,Jd,Je,Jf,Jg,Jh,Ji,Jj,Jk,Jl,Jm,Jn,Jo,Jp,Jq,Jr,Js,Jt,Ju,Jv,Jw,Jx,Jy,Jz,J0,J1,J2,J3,J4,J5,J6,J7,J8,J9,Jba,Jbb,Jbc,Jbd,Jbe,Jbf,Jbg,Jbh,Jbi,Jbj,Jbk,Jbl,Jbm,Jbn,Jbo,Jbp,Jbq,Jbr,Jbs,Jbt,List.map,Gcg,Gdg,Gag,Gbg,List.replicate,Geg,Gfg,Ggg,true_and,f_law_ties_e1]
      rw [r_subT (x := .int p.2) (e _ _ hpy) (by decide) rfl]
      try simp (disch := first | decide | omega) only [Jb,Jc,Jd,Je,Jf,Jg,Jh,Ji,Jj,Jk,Jl,Jm,Jn,Jo,Jp,Jq,Jr,Js,Jt,Ju,Jv,Jw,Jx,Jy,Jz,J0,J1,J2,J3,J4,J5,J6,J7,J8,J9,Jba,Jbb,Jbc,Jbd,Jbe,Jbf,Jbg,Jbh,Jbi,Jbj,Jbk,Jbl,Jbm,Jbn,Jbo,Jbp,Jbq,Jbr,Jbs,Jbt,List.map,Gcg,Gdg,Gag,Gbg,List.replicate,Geg,Gfg,Ggg,true_and]
      rw [r_subT (x := .int p.1) (e _ _ hpy) (by decide) rfl]
      refine alloc_i fun z H₃ e3 _ v3=>?_
      refine hK _ _ ⟨us ++ [z],by simp,e.trans e3,?_⟩
      rw [Nat.zero_add,List.take_add_one,hpj,Option.toList_some,List.map_append]
      rw [Nat.zero_add] at hp
      exact (hp.ext e3).app (PairsL.one (p := (p.2,p.1)) v3)
    · rintro acc H₂ hPt18
      refine by_c fun no=>?_
      obtain ⟨us,rfl,e,hp⟩ := hPt18
      refine no ?_;clear no
      refine ⟨e _ _ hs1v,?_⟩
      have hul:us.length ≤ 3 := by
        rw [hp.len]; simp; (first | lia | omega)
      have eA := ets1.trans e
      refine alloc_i fun u Hu eu _ vu=>?_
      (try dsimp only)
      rw [r_addL ((eA.trans eu) _ _ b.at_) vu (by simp; (first | lia | omega))]
      refine alloc_i fun s2 H₃ e2 _ v2=>?_
      (try dsimp only); (try simp (disch := first | decide | omega) only [Jb,Jc,Jd,Je,Jf,Jg,Jh,Ji,Jj,Jk,Jl,Jm,Jn,Jo,Jp,Jq,Jr,Js,Jt,Ju,Jv,Jw,Jx,Jy,Jz,J0,J1,J2,J3,J4,J5,J6,J7,J8,J9,Jba,Jbb,Jbc,Jbd,Jbe,Jbf,Jbg,Jbh,Jbi,Jbj,Jbk,Jbl,Jbm,Jbn,Jbo,Jbp,Jbq,Jbr,Jbs,Jbt,List.map,Gcg,Gdg,Gag,Gbg,List.replicate,Geg,Gfg,Ggg,true_and])
      have e3 := (eA.trans eu).trans e2
      rw [r_slice (e3 _ _ b.at_) b_int b_int,cut_mid (by decide) (by decide)]
      refine alloc_i fun s3 H₄ e4 _ v4=>?_
      (try dsimp only); (try simp (disch := first | decide | omega) only [Jb,Jc,Jd,Je,Jf,Jg,Jh,Ji,Jj,Jk,Jl,Jm,Jn,Jo,Jp,Jq,Jr,Js,Jt,Ju,Jv,Jw,Jx,Jy,Jz,J0,J1,J2,J3,J4,J5,J6,J7,J8,J9,Jba,Jbb,Jbc,Jbd,Jbe,Jbf,Jbg,Jbh,Jbi,Jbj,Jbk,Jbl,Jbm,Jbn,Jbo,Jbp,Jbq,Jbr,Jbs,Jbt,List.map,Gcg,Gdg,Gag,Gbg,List.replicate,Geg,Gfg,Ggg,true_and])
      rw [r_addL (e4 _ _ v2) v4 (by simp; (first | lia | omega))]
      refine alloc_i fun s4 H₅ e5 _ v5=>?_
      (try dsimp only); (try simp (disch := first | decide | omega) only [Jb,Jc,Jd,Je,Jf,Jg,Jh,Ji,Jj,Jk,Jl,Jm,Jn,Jo,Jp,Jq,Jr,Js,Jt,Ju,Jv,Jw,Jx,Jy,Jz,J0,J1,J2,J3,J4,J5,J6,J7,J8,J9,Jba,Jbb,Jbc,Jbd,Jbe,Jbf,Jbg,Jbh,Jbi,Jbj,Jbk,Jbl,Jbm,Jbn,Jbo,Jbp,Jbq,Jbr,Jbs,Jbt,List.map,Gcg,Gdg,Gag,Gbg,List.replicate,Geg,Gfg,Ggg,true_and])
      have e35 := (e3.trans e4).trans e5
      rw [r_slice (e35 _ _ b.at_) b_none b_int,cut_hi (by decide)]
      refine alloc_i fun s5 H₆ e6 _ v6=>?_
      (try dsimp only); (try simp (disch := first | decide | omega) only [Jb,Jc,Jd,Je,Jf,Jg,Jh,Ji,Jj,Jk,Jl,Jm,Jn,Jo,Jp,Jq,Jr,Js,Jt,Ju,Jv,Jw,Jx,Jy,Jz,J0,J1,J2,J3,J4,J5,J6,J7,J8,J9,Jba,Jbb,Jbc,Jbd,Jbe,Jbf,Jbg,Jbh,Jbi,Jbj,Jbk,Jbl,Jbm,Jbn,Jbo,Jbp,Jbq,Jbr,Jbs,Jbt,List.map,Gcg,Gdg,Gag,Gbg,List.replicate,Geg,Gfg,Ggg,true_and])
      rw [r_mulL v6 (by decide) (by decide) (by simp; (first | lia | omega))]
      refine alloc_i fun s6 H₇ e7 _ v7=>?_
      (try dsimp only); (try simp (disch := first | decide | omega) only [Jb,Jc,Jd,Je,Jf,Jg,Jh,Ji,Jj,Jk,Jl,Jm,Jn,Jo,Jp,Jq,Jr,Js,Jt,Ju,Jv,Jw,Jx,Jy,Jz,J0,J1,J2,J3,J4,J5,J6,J7,J8,J9,Jba,Jbb,Jbc,Jbd,Jbe,Jbf,Jbg,Jbh,Jbi,Jbj,Jbk,Jbl,Jbm,Jbn,Jbo,Jbp,Jbq,Jbr,Jbs,Jbt,List.map,Gcg,Gdg,Gag,Gbg,List.replicate,Geg,Gfg,Ggg,true_and])
      rw [r_addL ((e6.trans e7) _ _ v5) v7 (by simp; (first | lia | omega))]
      refine alloc_i fun s7 H₈ e8 n8 v8=>?_
      have e7a := (e35.trans e6).trans e7
      have eAll := e7a.trans e8
      have hn7:H s7 = none := b.ext.isNone (e7a.isNone n8)
      have P := b.prs.ext eAll
      have P' := hp.ext ((((((eu.trans e2).trans e4).trans e5).trans e6).trans e7).trans e8)
      refine q s7 (ts ++ us ++ (ts.take 4).drop 1 ++ (ts.take 1 ++ ts.take 1)) (ps ++ _ ++ (ps.take 4).drop 1 ++ (ps.take 1 ++ ps.take 1)) _ (b.ext.trans eAll) hn7 ?_ (((P.app P').app ((P.take 4).drop 1)).app ((P.take 1).app (P.take 1))) ⟨?_,?_⟩ ?_
      · rw [v8]
        simp [List.replicate,List.map_take,List.map_drop]
      · intro p hp
        have sub:∀ p,p ∈ ps → TieOf ns m rows p := htie
        simp only [List.mem_append] at hp
        rcases hp with ((h | h) | h) | (h | h)
        · exact htie p h
        · refine by_c fun no=>?_
          obtain ⟨p',h',rfl⟩ := List.mem_map.mp h
          refine no ?_;clear no
          refine by_c fun no=>?_
          obtain ⟨k,r,one,h1,h2,h3⟩ := htie p' (List.mem_of_mem_take (List.mem_of_mem_take h'))
          refine no ?_;clear no
          refine ⟨k,r,one,h1,h2,?_⟩
          rcases h3 with rfl | rfl
          · exact .inr rfl
          · exact .inl rfl
        · exact htie p (List.mem_of_mem_take (List.mem_of_mem_drop h))
        · exact htie p (List.mem_of_mem_take h)
        · exact htie p (List.mem_of_mem_take h)
      · intro k r one h1 h2
        have hk:k < rows.length := (List.getElem?_eq_some_iff.mp h1).1
        rw [hW.1] at hk
        rcases hall k r one (by simpa using hk) h1 h2 with h | h
        · exact .inl (by simp [h])
        · exact .inr (by simp [h])
      · have := b.prs.len
        have h8 := hp.len
        simp only [List.length_append,List.length_take,List.length_drop,← h8]
        (first | lia | omega)
set_option linter.all false
/-! sorting -/
theorem insI_perm (x:Int) (l:List Int):(insI x l).Perm (x :: l) := by
  induction l with
  | nil=>exact List.Perm.refl _
  | cons y r ih =>
    unfold insI
    split
    · exact List.Perm.refl _
    · exact (ih.cons y).trans (List.Perm.swap x y r)
theorem sortI_perm (l:List Int):(sortI l).Perm l := by
  induction l with
  | nil=>exact List.Perm.refl _
  | cons x r ih=>exact (insI_perm x (sortI r)).trans (ih.cons x)
theorem sortI_mem {x:Int} {l:List Int}:x ∈ sortI l ↔ x ∈ l := (sortI_perm l).mem_iff
theorem sortI_length (l:List Int):(sortI l).length = l.length := (sortI_perm l).length_eq
theorem insI_sorted {x:Int} {l:List Int} (h:l.Pairwise (· ≤ ·)):(insI x l).Pairwise (· ≤ ·) := by
  induction l with
  | nil=>simp [insI]
  | cons y r ih =>
    unfold insI
    split
    · rename_i q
      refine List.pairwise_cons.mpr ⟨fun z hz=>?_,h⟩
      rcases List.mem_cons.mp hz with rfl | hz
      · exact q
      · have := (List.pairwise_cons.mp h).1 z hz; (first | lia | omega)
    · rename_i q
      refine List.pairwise_cons.mpr ⟨fun z hz=>?_,ih (List.pairwise_cons.mp h).2⟩
      rcases List.mem_cons.mp ((insI_perm x r).mem_iff.mp hz) with rfl | hz
      · (first | lia | omega)
      · exact (List.pairwise_cons.mp h).1 z hz
theorem sortI_sorted (l:List Int):(sortI l).Pairwise (· ≤ ·) := by
  induction l with
  | nil=>exact List.Pairwise.nil
  | cons x r ih=>exact insI_sorted ih
theorem sortI_lt {l:List Int} (h:l.Nodup):(sortI l).Pairwise (· < ·) := by
  have h1 := sortI_sorted l
  have h2:(sortI l).Nodup := (sortI_perm l).nodup_iff.mpr h
  have := List.Pairwise.and h1 h2
  exact this.imp fun ⟨a,b⟩=>by (first | lia | omega)
theorem lt_ext:∀ {l l':List Int},l.Pairwise (· < ·) → l'.Pairwise (· < ·) → (∀ x,x ∈ l ↔ x ∈ l') → l = l'
  | [],[],_,_,_=>rfl
  | [],y :: r,_,_,h=>absurd ((h y).mpr (by simp)) (by simp)
  | x :: r,[],_,_,h=>absurd ((h x).mp (by simp)) (by simp)
  | x :: r,y :: s,h1,h2,h=>by
    have a1 := List.pairwise_cons.mp h1
    have a2 := List.pairwise_cons.mp h2
    have hxy:x = y := by
      rcases List.mem_cons.mp ((h x).mp (by simp)) with q | q
      · exact q
      · rcases List.mem_cons.mp ((h y).mpr (by simp)) with q' | q'
        · exact q'.symm
        · have := a2.1 x q; have := a1.1 y q'; (first | lia | omega)
    subst hxy
    congr 1
    refine lt_ext a1.2 a2.2 fun z=>⟨fun hz=>?_,fun hz=>?_⟩
    · rcases List.mem_cons.mp ((h z).mp (by simp [hz])) with q | q
      · have := a1.1 z hz; (first | lia | omega)
      · exact q
    · rcases List.mem_cons.mp ((h z).mpr (by simp [hz])) with q | q
      · have := a2.1 z hz; (first | lia | omega)
      · exact q
theorem natI_mem {x:Int} {l:List Nat}:x ∈ natI l ↔ 0 ≤ x ∧ x.toNat ∈ l := by
  unfold natI
  rw [List.mem_map]
  constructor
  · rintro ⟨a,h,rfl⟩; simpa using h
  · rintro ⟨h,h'⟩; exact ⟨x.toNat,h',by (first | lia | omega)⟩
theorem natI_lt {m:Nat} (p:Nat → Bool):(natI ((List.range m).filter p)).Pairwise (· < ·) := by
  unfold natI
  rw [List.pairwise_map]
  exact (List.pairwise_lt_range.filter p).imp fun h=>by (first | lia | omega)
noncomputable def adjRow (m:Nat) (A:Nat → Nat → Bool) (i:Nat):List Int := natI ((List.range m).filter (A i))
theorem adjRow_mem {m:Nat} {A:Nat → Nat → Bool} {i:Nat} {x:Int}:x ∈ adjRow m A i ↔ 0 ≤ x ∧ x < m ∧ A i x.toNat = true := by
  unfold adjRow
  rw [natI_mem,List.mem_filter,List.mem_range]
  constructor
  · rintro ⟨h1,h2,h3⟩; exact ⟨h1,by (first | lia | omega),h3⟩
  · rintro ⟨h1,h2,h3⟩; exact ⟨h1,by (first | lia | omega),h3⟩
theorem adjRow_len {m:Nat} {A:Nat → Nat → Bool} {i:Nat}:(adjRow m A i).length ≤ m := by
  unfold adjRow natI
  rw [List.length_map]
  exact Nat.le_trans (List.length_filter_le _ _) (by simp)
theorem sort_adj {m:Nat} {A:Nat → Nat → Bool} {i:Nat} {l:List Int} (h:l.Nodup) (hm:∀ x,x ∈ l ↔ 0 ≤ x ∧ x < m ∧ A i x.toNat = true):sortI l = adjRow m A i :=
  lt_ext (sortI_lt h) (natI_lt _) fun x=>by rw [sortI_mem,hm]; exact adjRow_mem.symm
variable {G:GEnv} {n:Nat} {H H':AH} {Q:Post} {E:EP} {C:CS} {ρ:Loc}
structure Cells (H H':AH) (a:Nat) (as:List Nat) (m:Nat) (f:Nat → O):Prop where
  ext:Ext H H'
  new:H a = none
  at_:H' a = some (.list (as.map V.ref))
  len:as.length = m
  nodup:as.Nodup
  na:a ∉ as
  fr:∀ x ∈ as,H x = none
  obj:∀ (i x:Nat),as[i]? = some x → H' x = some (f i)
theorem nodup_get {as:List Nat} {i j x:Nat} (h:as.Nodup) (h1:as[i]? = some x) (h2:as[j]? = some x):i = j := by
  obtain ⟨a1,a2⟩ := List.getElem?_eq_some_iff.mp h1
  obtain ⟨b1,b2⟩ := List.getElem?_eq_some_iff.mp h2
  have h' := List.pairwise_iff_getElem.mp h
  rcases Nat.lt_trichotomy i j with q | q | q
  · exact absurd (a2.trans b2.symm) (h' i j a1 b1 q)
  · exact q
  · exact absurd (b2.trans a2.symm) (h' j i b1 a1 q)
theorem Cells.set {a m i x:Nat} {as:List Nat} {f:Nat → O} (c:Cells H H' a as m f) (hx:as[i]? = some x) (o:O):Cells H (upd H' x o) a as m (fun j=>if j = i then o else f j) := by
  have hxm := List.mem_of_getElem? hx
  have hxa:a ≠ x := fun q=>c.na (q ▸ hxm)
  refine ⟨c.ext.upd' (c.fr x hxm),c.new,by rw [upd_ne hxa]; exact c.at_,c.len,c.nodup,c.na,c.fr,fun j y hy=>?_⟩
  by_cases hj:j = i
  · subst hj
    rw [hx] at hy; cases hy
    rw [if_pos rfl,upd_self]
  · rw [if_neg hj,upd_ne (fun q=>hj (nodup_get c.nodup hy (by rw [q]; exact hx)))]
    exact c.obj j y hy
theorem Cells.get {a m i:Nat} {as:List Nat} {f:Nat → O} (c:Cells H H' a as m f) (hi:i < m):(Ex1 fun x=>An3 (as[i]? = some x) ((as.map V.ref)[i]? = some (.ref x)) (H' x = some (f i))):= by
  have h:i < as.length := by rw [c.len]; exact hi
  refine ⟨as[i],List.getElem?_eq_getElem h,?_,c.obj i _ (List.getElem?_eq_getElem h)⟩
  rw [List.getElem?_map,List.getElem?_eq_getElem h]; rfl
theorem Cells.congr {a m:Nat} {as:List Nat} {f f':Nat → O} (c:Cells H H' a as m f) (h:∀ i,i < m → f i = f' i):Cells H H' a as m f' :=
  ⟨c.ext,c.new,c.at_,c.len,c.nodup,c.na,c.fr,fun i x hx=>by
    have := (List.getElem?_eq_some_iff.mp hx).1
    rw [← h i (by rw [← c.len]; exact this)]; exact c.obj i x hx⟩
theorem gather_fresh {m:Nat} {elt:Loc → AH → (Option V → AH → Prop) → Prop} {o:O} {K:Post} {y:Option V}
    (step:∀ i H' K,i < m → (∀ x,H' x = none → K (some (.ref x)) (upd H' x o)) → elt (some (.int i) :: ρ) H' K)
    (fin:∀ as H' a,H' a = none → Cells H (upd H' a (.list (as.map V.ref))) a as m (fun _=>o) → K (.ref a) (upd H' a (.list (as.map V.ref)))) :
    gather (fun _=>True) (.one 0) elt (fun vs H=>alloc (.list vs) H K) ((List.range m).map fun (i:Nat)=>.v (.int i)) [] (y :: ρ) H := by
  refine gather_ind (k := 0) (fun i acc H'=>(Ex1 fun as=>An6 (acc = as.map V.ref) (Ext H H') (as.length = i) (as.Nodup) ((∀ x ∈ as,H x = none)) (∀ x ∈ as,H' x = some o))) ⟨[],rfl,Ext.refl,rfl,List.nodup_nil,by simp,by simp⟩ ?_ ?_
  · rintro i x acc H' K' hx ⟨as,rfl,h1,h2,h3,h4,h5⟩ hK
    rw [List.getElem?_map] at hx
    obtain ⟨j,hj,rfl⟩ := Option.map_eq_some_iff.mp hx
    obtain ⟨hlt,he⟩ := List.getElem?_eq_some_iff.mp hj
    simp at hlt he
    subst he
    refine ⟨trivial,_,rfl,step i H' K' hlt fun x hx0=>hK _ _ ⟨as ++ [x],by simp,h1.trans (Ext.upd hx0),by simp [h2],?_,?_,?_⟩⟩
    · rw [List.nodup_append]
      refine ⟨h3,by simp,fun a ha b hb q=>?_⟩
      simp at hb
      subst hb q
      rw [h5 a ha] at hx0; cases hx0
    · intro y hy
      rcases List.mem_append.mp hy with hy | hy
      · exact h4 y hy
      · simp at hy; subst hy; exact h1.isNone hx0
    · intro y hy
      rcases List.mem_append.mp hy with hy | hy
      · exact (Ext.upd hx0) _ _ (h5 y hy)
      · simp at hy; subst hy; exact upd_self
  · rintro acc H' ⟨as,rfl,h1,h2,h3,h4,h5⟩
    refine ⟨trivial,fun a ha=>fin as H' a ha ?_⟩
    have hna:a ∉ as := fun q=>by rw [h5 a q] at ha; cases ha
    exact ⟨h1.trans (Ext.upd ha),h1.isNone ha,upd_self,by simpa using h2,h3,hna,h4,fun i x hx=>(Ext.upd ha) _ _ (h5 x (List.mem_of_getElem? hx))⟩
theorem loop_pairs {a:Nat} {as:List Nat} {ps:List (Int × Int)} {t u:Nat} {body:Loc → AH → (Loc → AH → Prop) → Prop} {N:Loc → AH → Prop} (I:Nat → Loc → AH → Prop) (h0:I 0 ρ H) (hg:∀ i ρ H,I i ρ H → H a = some (.list (as.map V.ref)) ∧ PairsL H as ps)
    (step:∀ i p ρ H K,ps[i]? = some p → I i ρ H → (∀ ρ'' H'',I (i + 1) ρ'' H'' → K ρ'' H'') → body ((ρ.set t (some (.int p.1))).set u (some (.int p.2))) H K) (fin:∀ ρ H,I ps.length ρ H → N ρ H) :
    loop (fun H=>H a = some (.list (as.map V.ref))) (.two t u) body N ((as.map V.ref).map .v) ρ H := by
  have hl:as.length = ps.length := (hg _ _ _ h0).2.len
  refine loop_ind (k := 0) I h0 (fun i x ρ H K hx hI hK=>⟨(hg _ _ _ hI).1,?_⟩) fun ρ H hI=>⟨(hg _ _ _ hI).1,fin ρ H (by simpa [hl] using hI)⟩
  rw [List.getElem?_map,List.getElem?_map] at hx
  obtain ⟨v,hv,rfl⟩ := Option.map_eq_some_iff.mp hx
  obtain ⟨x,hx',rfl⟩ := Option.map_eq_some_iff.mp hv
  obtain ⟨p,hp,hpx⟩ := (hg _ _ _ hI).2.ex hx'
  show (match H x with | some (.tuple [x,y])=>body ((ρ.set t (some x)).set u (some y)) H K | _=>False)
  rw [hpx]
  exact step i p ρ H K hp (by simpa using hI) fun ρ'' H'' h=>hK ρ'' H'' (by simpa using h)
set_option linter.all false
variable {G:GEnv} {n:Nat} {H H':AH} {Q:Post} {E:EP} {C:CS} {ρ:Loc}
theorem e_glob {g:Str} {v:V} (h:G.const g = some v):wpE G C (.glob g) ρ H Q E = Q v H := by rw [e_glob0,h]
theorem memD_int (y:Int) (l:List Int):memD (.int y) (l.map V.int) = some (decide (y ∈ l)) := by
  unfold memD
  induction l with
  | nil=>rfl
  | cons x r ih =>
    show (anyO ((r.map V.int).map fun z=>eqB z (.int y))).map (decide (x = y) || ·) = _
    rw [ih]
    simp only [Option.map_some,List.mem_cons]
    congr 1
    rw [show decide (x = y) = decide (y = x) from decide_eq_decide.mpr eq_comm]
    by_cases h:y = x <;> by_cases h':y ∈ r <;> simp [h,h']
theorem r_in {y:Int} {a:Nat} {l:List Int} (h:LI H a l):cmpOp .In (.int y) (.ref a) H Q = Q (.bool (decide (y ∈ l))) H := by
  unfold LI at h
  delta cmpOp; (try dsimp only); (try delta inOp); (try dsimp only); rw [h]; (try dsimp only); rw [memD_int]; (try dsimp only)
theorem r_notIn {y:Int} {a:Nat} {l:List Int} (h:LI H a l):cmpOp .NotIn (.int y) (.ref a) H Q = Q (.bool (!decide (y ∈ l))) H := by
  unfold LI at h
  delta cmpOp; (try dsimp only); (try delta inOp); (try dsimp only); rw [h]; (try dsimp only); rw [memD_int]; (try dsimp only)
theorem ints_map (l:List Int):ints? (l.map V.int) = some l := by
  induction l with
  | nil=>rfl
  | cons x r ih=>exact (show ints? ((x :: r).map V.int) = (ints? (r.map V.int)).map (x :: ·) from rfl).trans (by rw [ih]; rfl)
theorem r_sortL {a:Nat} {l:List Int} (h:LI H a l) (hl:l.length < 64):biOp .sorted [.ref a] H Q = alloc (.list ((sortI l).map V.int)) H Q := by
  unfold LI at h
  delta biOp; dsimp only; (first | delta lenOp | delta listOp | delta sortOp | delta allOp | delta anyOp); dsimp only; rw [h]; (try dsimp only); rw [ints_map]; (try dsimp only)
  exact propext ⟨fun h=>h.2,fun q=>⟨hl,q⟩⟩
theorem r_sortD {a:Nat} {es:List (Int × V)} (h:H a = some (.dict es)) (hl:es.length < 64):biOp .sorted [.ref a] H Q = alloc (.list ((sortI (es.map (·.1))).map V.int)) H Q := by
  delta biOp; dsimp only; (first | delta lenOp | delta listOp | delta sortOp | delta allOp | delta anyOp); dsimp only; rw [h]; (try dsimp only)
  exact propext ⟨fun h=>h.2,fun q=>⟨hl,q⟩⟩
theorem r_setD {a:Nat} {es:List (Int × V)} {k:Int} {v:V} {N:AH → Prop} (h:H a = some (.dict es)) (hl:es.length < 1048576):setItem (.ref a) (.int k) v H N = N (upd H a (.dict (dput es k v))) := by
  delta setItem; (try dsimp only); rw [h]; (try dsimp only)
  exact propext ⟨fun h=>h.2,fun q=>⟨hl,q⟩⟩
theorem dput_keys (es:List (Int × V)) (k:Int) (v:V):(dput es k v).map (·.1) = if k ∈ es.map (·.1) then es.map (·.1) else es.map (·.1) ++ [k] := by
  induction es with
  | nil=>simp [dput]
  | cons e r ih =>
    obtain ⟨k',v'⟩ := e
    unfold dput
    by_cases h:k = k'
    · subst h; simp
    · rw [if_neg h,List.map_cons,ih]
      by_cases h':k ∈ r.map (·.1)
      · rw [if_pos h',if_pos (by simp only [List.map_cons]; exact List.mem_cons_of_mem _ h')]; rfl
      · rw [if_neg h',if_neg (by simp only [List.map_cons,List.mem_cons]; rintro (q | q); exact h q; exact h' q)]; rfl
noncomputable abbrev Adj (ps:List (Int × Int)) (x y:Int):Prop := (x,y) ∈ ps ∨ (y,x) ∈ ps
noncomputable def adjB (ps:List (Int × Int)) (i j:Nat):Bool := decide (Adj ps i j)
noncomputable def Good (m:Nat) (ps:List (Int × Int)):Prop := ∀ p ∈ ps,(0 ≤ p.1 ∧ p.1 < m) ∧ (0 ≤ p.2 ∧ p.2 < m) ∧ p.1 ≠ p.2
theorem Adj.in_ {m:Nat} {ps:List (Int × Int)} {x y:Int} (g:Good m ps) (h:Adj ps x y):(0 ≤ x ∧ x < m) ∧ (0 ≤ y ∧ y < m) ∧ x ≠ y := by
  rcases h with h | h
  · exact g _ h
  · have := g _ h; exact ⟨this.2.1,this.1,Ne.symm this.2.2⟩
theorem Adj.symm {ps:List (Int × Int)} {x y:Int} (h:Adj ps x y):Adj ps y x := Or.symm h
theorem adj_take {ps:List (Int × Int)} {t:Nat} {p:Int × Int} (h:ps[t]? = some p) (x y:Int):Adj (ps.take (t + 1)) x y ↔ Adj (ps.take t) x y ∨ (x = p.1 ∧ y = p.2) ∨ (x = p.2 ∧ y = p.1) := by
  obtain ⟨a,b⟩ := p
  unfold Adj
  rw [List.take_add_one,h]
  simp only [Option.toList_some,List.mem_append,List.mem_singleton,Prod.mk.injEq]
  constructor
  · rintro ((h | h) | (h | ⟨h1,h2⟩))
    · exact .inl (.inl h)
    · exact .inr (.inl h)
    · exact .inl (.inr h)
    · exact .inr (.inr ⟨h2,h1⟩)
  · rintro ((h | h) | (h | ⟨h1,h2⟩))
    · exact .inl (.inl h)
    · exact .inr (.inl h)
    · exact .inl (.inr h)
    · exact .inr (.inr ⟨h2,h1⟩)
theorem Good.take {m t:Nat} {ps:List (Int × Int)} (g:Good m ps):Good m (ps.take t) := fun p hp=>g p (List.mem_of_mem_take hp)
noncomputable def NearR (H:AH) (a m:Nat) (A:Nat → Nat → Bool):Prop := (Ex1 fun (as:List Nat)=>An3 (H a = some (.list (as.map V.ref))) (as.length = m) (∀ (i x:Nat),as[i]? = some x → LI H x (adjRow m A i)))
theorem NearR.ext {a m:Nat} {A:Nat → Nat → Bool} (h:NearR H a m A) (e:Ext H H'):NearR H' a m A := by
  obtain ⟨as,h1,h2,h3⟩ := h
  exact ⟨as,e _ _ h1,h2,fun i x q=>(h3 i x q).ext e⟩
noncomputable def WebR (H:AH) (w m:Nat) (A:Nat → Nat → Bool):Prop := (Ex2 fun (d rs:Nat)=>An3 (H w = some (.inst .web d)) (H d = some (.ns [(.many,.int m),(.rows,.ref rs)])) (NearR H rs m A))
theorem WebR.ext {w m:Nat} {A:Nat → Nat → Bool} (h:WebR H w m A) (e:Ext H H'):WebR H' w m A := by
  obtain ⟨d,rs,h1,h2,h3⟩ := h
  exact ⟨d,rs,e _ _ h1,e _ _ h2,h3.ext e⟩
theorem gather_lists {a:Nat} {as:List Nat} {row:Nat → List Int} {elt:Loc → AH → (Option V → AH → Prop) → Prop} {Q:List V → AH → Prop} {y:Option V} (hA:H a = some (.list (as.map V.ref)))
    (step:∀ i x H₁ (K:Option V → AH → Prop),as[i]? = some x → Ext H H₁ → (∀ b,H₁ b = none → K (some (.ref b)) (upd H₁ b (.list ((row i).map V.int)))) → elt (some (.ref x) :: ρ) H₁ K)
    (fin:∀ (bs:List Nat) H₁,Ext H H₁ → bs.length = as.length → (∀ (i x:Nat),bs[i]? = some x → LI H₁ x (row i)) → Q (bs.map V.ref) H₁) :
    gather (fun H'=>H' a = some (.list (as.map V.ref))) (.one 0) elt Q ((as.map V.ref).map .v) [] (y :: ρ) H := by
  refine gather_ind (k := 0) (fun j acc H₁=>(Ex1 fun bs=>An4 (acc = bs.map V.ref) (Ext H H₁) (bs.length = j) (∀ (i x:Nat),bs[i]? = some x → LI H₁ x (row i)))) ⟨[],rfl,Ext.refl,rfl,by simp⟩ ?_ ?_
  · rintro j x acc H₁ K hx ⟨bs,rfl,e,hl,hb⟩ hK
    rw [List.getElem?_map,List.getElem?_map] at hx
    obtain ⟨v,hv,rfl⟩ := Option.map_eq_some_iff.mp hx
    obtain ⟨x,hx',rfl⟩ := Option.map_eq_some_iff.mp hv
    refine ⟨e _ _ hA,_,rfl,step j x H₁ K hx' e fun b hb0=>hK _ _ ⟨bs ++ [b],by simp,e.trans (Ext.upd hb0),by simp [hl],fun i y hy=>?_⟩⟩
    cases Nat.lt_or_ge i bs.length with
    | inl q=>rw [List.getElem?_append_left q] at hy; exact (hb i y hy).ext (Ext.upd hb0)
    | inr q =>
      rw [List.getElem?_append_right q] at hy
      have:i - bs.length = 0 := by
        obtain ⟨z,_⟩ := List.getElem?_eq_some_iff.mp hy
        simp at z; (first | lia | omega)
      rw [this] at hy
      simp at hy
      subst hy
      have:i = j := by (first | lia | omega)
      subst this
      exact upd_self
  · rintro acc H₁ ⟨bs,rfl,e,hl,hb⟩
    exact ⟨e _ _ hA,fin bs H₁ e (by simpa using hl) hb⟩
theorem len_of {m:Nat} {l:List Int} (h:l.Nodup) (hin:∀ x ∈ l,0 ≤ x ∧ x < m):l.length ≤ m := by
  have := sort_adj (A := fun _ j=>decide ((j:Int) ∈ l)) (i := 0) (m := m) h fun x=>by
    constructor
    · intro hx
      have := hin x hx
      exact ⟨this.1,this.2,by simp only [decide_eq_true_eq]; rwa [Int.toNat_of_nonneg this.1]⟩
    · rintro ⟨h1,h2,h3⟩
      simp only [decide_eq_true_eq] at h3
      rwa [Int.toNat_of_nonneg h1] at h3
  have h1 := sortI_length l
  have h2 := @adjRow_len m (fun _ j=>decide ((j:Int) ∈ l)) 0
  rw [this] at h1
  (first | lia | omega)
theorem sort_ps {m i:Nat} {ps:List (Int × Int)} {l:List Int} (g:Good m ps) (h:l.Nodup) (hl:∀ y,y ∈ l ↔ Adj ps i y):sortI l = adjRow m (adjB ps) i :=
  sort_adj h fun x=>by
    rw [hl]
    constructor
    · intro h
      have := h.in_ g
      refine ⟨this.2.1.1,this.2.1.2,?_⟩
      unfold adjB
      rw [decide_eq_true_eq,Int.toNat_of_nonneg this.2.1.1]; exact h
    · rintro ⟨h1,h2,h3⟩
      unfold adjB at h3
      rwa [decide_eq_true_eq,Int.toNat_of_nonneg h1] at h3
theorem s_near (B:Base G) {m t:Nat} {ts:List Nat} {ps:List (Int × Int)} (hm:m ≤ 60) (hT:H t = some (.list (ts.map V.ref))) (hP:PairsL H ts ps) (g:Good m ps)
    (q:∀ a H',Ext H H' → H a = none → NearR H' a m (adjB ps) → Q (.ref a) H'):callN G (n + 1) "_law_near" [.int m,.ref t] H Q E := by
  refine call_of B.near rfl ?_
  simp (disch := first | decide | omega) only [Jb,Jc,Jd,Je,Jf,Jg,Jh,Ji,Jj,Jk,Jl,Jm,Jn,Jo,Jp,Jq,Jr,Js,Jt,Ju,Jv,Jw,Jx,Jy,Jz,J0,J1,J2,J3,J4,J5,J6,J7,J8,J9,Jba,Jbb,Jbc,Jbd,Jbe,Jbf,Jbg,Jbh,Jbi,Jbj,Jbk,Jbl,Jbm,Jbn,Jbo,Jbp,Jbq,Jbr,Jbs,Jbt,List.map,Gcg,Gdg,Gag,Gbg,List.replicate,Geg,Gfg,Ggg,true_and,f_law_near]
  rw [e_comp,c_range]
  simp (disch := first | decide | omega) only [Jb,Jc,Jd,Je,Jf,Jg,Jh,Ji,Jj,Jk,Jl,Jm,Jn,Jo,Jp,Jq,Jr,Js,Jt,Ju,Jv,Jw,Jx,Jy,Jz,J0,J1,J2,J3,J4,J5,J6,J7,J8,J9,Jba,Jbb,Jbc,Jbd,Jbe,Jbf,Jbg,Jbh,Jbi,Jbj,Jbk,Jbl,Jbm,Jbn,Jbo,Jbp,Jbq,Jbr,Jbs,Jbt,List.map,Gcg,Gdg,Gag,Gbg,List.replicate,Geg,Gfg,Ggg,true_and]
  refine ⟨by simp [big]; (first | lia | omega),gather_fresh (o := .list []) (fun i H' K hi hK=>?_) fun as H' a ha c=>?_⟩
  · try simp (disch := first | decide | omega) only [Jb,Jc,Jd,Je,Jf,Jg,Jh,Ji,Jj,Jk,Jl,Jm,Jn,Jo,Jp,Jq,Jr,Js,Jt,Ju,Jv,Jw,Jx,Jy,Jz,J0,J1,J2,J3,J4,J5,J6,J7,J8,J9,Jba,Jbb,Jbc,Jbd,Jbe,Jbf,Jbg,Jbh,Jbi,Jbj,Jbk,Jbl,Jbm,Jbn,Jbo,Jbp,Jbq,Jbr,Jbs,Jbt,List.map,Gcg,Gdg,Gag,Gbg,List.replicate,Geg,Gfg,Ggg,true_and]
    exact fun x hx=>hK x hx
  rw [t_for,c_val]
  simp (disch := first | decide | omega) only [Jb,Jc,Jd,Je,Jf,Jg,Jh,Ji,Jj,Jk,Jl,Jm,Jn,Jo,Jp,Jq,Jr,Js,Jt,Ju,Jv,Jw,Jx,Jy,Jz,J0,J1,J2,J3,J4,J5,J6,J7,J8,J9,Jba,Jbb,Jbc,Jbd,Jbe,Jbf,Jbg,Jbh,Jbi,Jbj,Jbk,Jbl,Jbm,Jbn,Jbo,Jbp,Jbq,Jbr,Jbs,Jbt,List.map,Gcg,Gdg,Gag,Gbg,List.replicate,Geg,Gfg,Ggg,true_and]
  rw [r_srcL (c.ext _ _ hT)]
  refine loop_pairs (ps := ps) (fun j ρ H₁=>(Ex3 fun (r3 r4:Option V) (L:Nat → List Int)=>An3 (ρ = [some (.int m),some (.ref t),some (.ref a),r3,r4]) (Cells H H₁ a as m (fun i=>.list ((L i).map V.int))) (∀ i,i < m → (L i).Nodup ∧ ∀ y,y ∈ L i ↔ Adj (ps.take j) i y))) ?_ ?_ ?_ ?_
  · exact ⟨none,none,fun _=>[],rfl,c,fun i hi=>⟨List.nodup_nil,fun y=>by simp [Adj]⟩⟩
  · rintro i ρ H₁ hPt19
    refine by_c fun no=>?_
    obtain ⟨r3,r4,L,rfl,c,hL⟩ := hPt19
    refine no ?_;clear no
    exact ⟨c.ext _ _ hT,hP.ext c.ext⟩
  · rintro j p ρ H₁ K hp hPt20 hK
    refine by_c fun no=>?_
    obtain ⟨r3,r4,L,rfl,c,hL⟩ := hPt20
    refine no ?_;clear no
    have gp := g p (List.mem_of_getElem? hp)
    obtain ⟨x,y⟩ := p
    simp only at gp ⊢
    refine by_c fun no=>?_
    obtain ⟨x1,hx1,hx2,hx3⟩ := c.get (i := x.toNat) (by (first | lia | omega))
    refine no ?_;clear no
    have hLx := hL x.toNat (by (first | lia | omega))
    have hLy := hL y.toNat (by (first | lia | omega))
    have ex:((x.toNat:Nat):Int) = x := by (first | lia | omega)
    have ey:((y.toNat:Nat):Int) = y := by (first | lia | omega)
    simp (disch := first | decide | omega) only [Jb,Jc,Jd,Je,Jf,Jg,Jh,Ji,Jj,Jk,Jl,Jm,Jn,Jo,Jp,Jq,Jr,Js,Jt,Ju,Jv,Jw,Jx,Jy,Jz,J0,J1,J2,J3,J4,J5,J6,J7,J8,J9,Jba,Jbb,Jbc,Jbd,Jbe,Jbf,Jbg,Jbh,Jbi,Jbj,Jbk,Jbl,Jbm,Jbn,Jbo,Jbp,Jbq,Jbr,Jbs,Jbt,List.map,Gcg,Gdg,Gag,Gbg,List.replicate,Geg,Gfg,Ggg,true_and,f_law_near_b1]
    refine i_ite (!decide (y ∈ L x.toNat)) (fun Q' h'=>?_) ?_
    · simp (disch := first | decide | omega) only [Jb,Jc,Jd,Je,Jf,Jg,Jh,Ji,Jj,Jk,Jl,Jm,Jn,Jo,Jp,Jq,Jr,Js,Jt,Ju,Jv,Jw,Jx,Jy,Jz,J0,J1,J2,J3,J4,J5,J6,J7,J8,J9,Jba,Jbb,Jbc,Jbd,Jbe,Jbf,Jbg,Jbh,Jbi,Jbj,Jbk,Jbl,Jbm,Jbn,Jbo,Jbp,Jbq,Jbr,Jbs,Jbt,List.map,Gcg,Gdg,Gag,Gbg,List.replicate,Geg,Gfg,Ggg,true_and,r_subL c.at_ gp.1.1 hx2,r_notIn (show LI H₁ x1 (L x.toNat) from hx3)]
      exact h'
    split
    · rename_i hh
      simp only [Bool.not_eq_true',decide_eq_false_iff_not] at hh
      have hnA:¬ Adj (ps.take j) x y := fun q=>hh ((hLx.2 y).mpr (by rw [ex]; exact q))
      have hnx:x ∉ L y.toNat := fun q=>hnA (by have := (hLy.2 x).mp q; rw [ey] at this; exact this.symm)
      have hll:∀ i,i < m → ((L i).map V.int).length < 1048576 := fun i hi=>by
        rw [List.length_map]
        have := len_of (m := m) (hL i hi).1 fun z hz=>((((hL i hi).2 z).mp hz).in_ g.take).2.1
        (first | lia | omega)
      simp (disch := first | decide | omega) only [Jb,Jc,Jd,Je,Jf,Jg,Jh,Ji,Jj,Jk,Jl,Jm,Jn,Jo,Jp,Jq,Jr,Js,Jt,Ju,Jv,Jw,Jx,Jy,Jz,J0,J1,J2,J3,J4,J5,J6,J7,J8,J9,Jba,Jbb,Jbc,Jbd,Jbe,Jbf,Jbg,Jbh,Jbi,Jbj,Jbk,Jbl,Jbm,Jbn,Jbo,Jbp,Jbq,Jbr,Jbs,Jbt,List.map,Gcg,Gdg,Gag,Gbg,List.replicate,Geg,Gfg,Ggg,true_and,e_lm,r_subL c.at_ gp.1.1 hx2,r_kindL hx3,r_append hx3 (hll _ (by (first | lia | omega)))]
      have c1 := c.set hx1 (.list ((L x.toNat).map V.int ++ [.int y]))
      refine by_c fun no=>?_
      obtain ⟨y1,hy1,hy2,hy3⟩ := c1.get (i := y.toNat) (by (first | lia | omega))
      refine no ?_;clear no
      rw [if_neg (show ¬ y.toNat = x.toNat by (first | lia | omega))] at hy3
      simp (disch := first | decide | omega) only [Jb,Jc,Jd,Je,Jf,Jg,Jh,Ji,Jj,Jk,Jl,Jm,Jn,Jo,Jp,Jq,Jr,Js,Jt,Ju,Jv,Jw,Jx,Jy,Jz,J0,J1,J2,J3,J4,J5,J6,J7,J8,J9,Jba,Jbb,Jbc,Jbd,Jbe,Jbf,Jbg,Jbh,Jbi,Jbj,Jbk,Jbl,Jbm,Jbn,Jbo,Jbp,Jbq,Jbr,Jbs,Jbt,List.map,Gcg,Gdg,Gag,Gbg,List.replicate,Geg,Gfg,Ggg,true_and,e_lm,r_subL c1.at_ gp.2.1.1 hy2,r_kindL hy3,r_append hy3 (hll _ (by (first | lia | omega)))]
      have c2 := c1.set hy1 (.list ((L y.toNat).map V.int ++ [.int x]))
      refine hK _ _ ⟨_,_,fun i=>if i = y.toNat then L y.toNat ++ [x] else if i = x.toNat then L x.toNat ++ [y] else L i,rfl,c2.congr fun i hi=>?_,fun i hi=>?_⟩
      · by_cases h1:i = y.toNat
        · simp [h1]
        · by_cases h2:i = x.toNat
          · have:¬ x.toNat = y.toNat := by (first | lia | omega)
            simp [h2,this]
          · simp [h1,h2]
      · have nd:∀ (l:List Int) (z:Int),l.Nodup → z ∉ l → (l ++ [z]).Nodup := fun l z h1 h2=>by
          rw [List.nodup_append]
          exact ⟨h1,by simp,fun a ha b hb e=>h2 (by simp at hb; rw [← hb,← e]; exact ha)⟩
        dsimp only
        by_cases h1:i = y.toNat
        · subst h1
          rw [if_pos rfl]
          refine ⟨nd _ _ hLy.1 hnx,fun z=>?_⟩
          rw [List.mem_append,hLy.2 z,adj_take hp,ey]
          simp only [List.mem_singleton]
          constructor
          · rintro (h | rfl)
            · exact .inl h
            · exact .inr (.inr (by simp))
          · rintro (h | ⟨h1,h2⟩ | ⟨h1,h2⟩)
            · exact .inl h
            · exact absurd h1.symm gp.2.2
            · exact .inr h2
        · rw [if_neg h1]
          by_cases h2:i = x.toNat
          · subst h2
            rw [if_pos rfl]
            refine ⟨nd _ _ hLx.1 hh,fun z=>?_⟩
            rw [List.mem_append,hLx.2 z,adj_take hp,ex]
            simp only [List.mem_singleton]
            constructor
            · rintro (h | rfl)
              · exact .inl h
              · exact .inr (.inl (by simp))
            · rintro (h | ⟨h1,h2⟩ | ⟨h1,h2⟩)
              · exact .inl h
              · exact .inr h2
              · exact absurd h1 gp.2.2
          · rw [if_neg h2]
            refine ⟨(hL i hi).1,fun z=>?_⟩
            rw [(hL i hi).2 z,adj_take hp]
            constructor
            · exact .inl
            · rintro (h | ⟨h3,h4⟩ | ⟨h3,h4⟩)
              · exact h
              · simp only at h3; (first | lia | omega)
              · simp only at h3; (first | lia | omega)
    · rename_i hh
      simp only [Bool.not_eq_true',decide_eq_false_iff_not,Classical.not_not] at hh
      simp (disch := first | decide | omega) only [Jb,Jc,Jd,Je,Jf,Jg,Jh,Ji,Jj,Jk,Jl,Jm,Jn,Jo,Jp,Jq,Jr,Js,Jt,Ju,Jv,Jw,Jx,Jy,Jz,J0,J1,J2,J3,J4,J5,J6,J7,J8,J9,Jba,Jbb,Jbc,Jbd,Jbe,Jbf,Jbg,Jbh,Jbi,Jbj,Jbk,Jbl,Jbm,Jbn,Jbo,Jbp,Jbq,Jbr,Jbs,Jbt,List.map,Gcg,Gdg,Gag,Gbg,List.replicate,Geg,Gfg,Ggg,true_and]
      have hA:Adj (ps.take j) x y := by have := (hLx.2 y).mp hh; rwa [ex] at this
      refine hK _ _ ⟨_,_,L,rfl,c,fun i hi=>⟨(hL i hi).1,fun z=>?_⟩⟩
      rw [(hL i hi).2 z,adj_take hp]
      constructor
      · exact .inl
      · rintro (h | ⟨h3,h4⟩ | ⟨h3,h4⟩)
        · exact h
        · rw [h3,h4]; exact hA
        · rw [h3,h4]; exact hA.symm
  · rintro ρ H₁ hPt21
    refine by_c fun no=>?_
    obtain ⟨r3,r4,L,rfl,c,hL⟩ := hPt21
    refine no ?_;clear no
    rw [List.take_of_length_le (Nat.le_refl _)] at hL
    try simp (disch := first | decide | omega) only [Jb,Jc,Jd,Je,Jf,Jg,Jh,Ji,Jj,Jk,Jl,Jm,Jn,Jo,Jp,Jq,Jr,Js,Jt,Ju,Jv,Jw,Jx,Jy,Jz,J0,J1,J2,J3,J4,J5,J6,J7,J8,J9,Jba,Jbb,Jbc,Jbd,Jbe,Jbf,Jbg,Jbh,Jbi,Jbj,Jbk,Jbl,Jbm,Jbn,Jbo,Jbp,Jbq,Jbr,Jbs,Jbt,List.map,Gcg,Gdg,Gag,Gbg,List.replicate,Geg,Gfg,Ggg,true_and]
    rw [e_comp,c_val]
    simp (disch := first | decide | omega) only [Jb,Jc,Jd,Je,Jf,Jg,Jh,Ji,Jj,Jk,Jl,Jm,Jn,Jo,Jp,Jq,Jr,Js,Jt,Ju,Jv,Jw,Jx,Jy,Jz,J0,J1,J2,J3,J4,J5,J6,J7,J8,J9,Jba,Jbb,Jbc,Jbd,Jbe,Jbf,Jbg,Jbh,Jbi,Jbj,Jbk,Jbl,Jbm,Jbn,Jbo,Jbp,Jbq,Jbr,Jbs,Jbt,List.map,Gcg,Gdg,Gag,Gbg,List.replicate,Geg,Gfg,Ggg,true_and]
    rw [r_srcL c.at_]
    refine ⟨by simp [big,c.len]; (first | lia | omega),gather_lists (row := adjRow m (adjB ps)) c.at_ (fun i x H₂ K hx e hK=>?_) fun bs H₂ e hbl hb b hb0=>?_⟩
    · have hi:i < m := by rw [← c.len]; exact (List.getElem?_eq_some_iff.mp hx).1
      have hxL:LI H₂ x (L i) := e _ _ (c.obj i x hx)
      have hlen:(L i).length < 64 := by
        have := len_of (m := m) (hL i hi).1 fun z hz=>((((hL i hi).2 z).mp hz).in_ g).2.1
        (first | lia | omega)
      simp (disch := first | decide | omega) only [Jb,Jc,Jd,Je,Jf,Jg,Jh,Ji,Jj,Jk,Jl,Jm,Jn,Jo,Jp,Jq,Jr,Js,Jt,Ju,Jv,Jw,Jx,Jy,Jz,J0,J1,J2,J3,J4,J5,J6,J7,J8,J9,Jba,Jbb,Jbc,Jbd,Jbe,Jbf,Jbg,Jbh,Jbi,Jbj,Jbk,Jbl,Jbm,Jbn,Jbo,Jbp,Jbq,Jbr,Jbs,Jbt,List.map,Gcg,Gdg,Gag,Gbg,List.replicate,Geg,Gfg,Ggg,true_and,f_law_near_e1,r_sortL hxL hlen]
      intro b hb
      have := hK b hb
      rwa [← sort_ps g (hL i hi).1 (hL i hi).2] at this
    · exact q b _ ((c.ext.trans e).trans (Ext.upd hb0)) ((c.ext.trans e).isNone hb0) ⟨bs,upd_self,by rw [hbl,c.len],fun i x hx=>(hb i x hx).ext (Ext.upd hb0)⟩
set_option linter.all false
variable {G:GEnv} {n:Nat} {H H':AH} {Q:Post} {E:EP} {C:CS} {ρ:Loc}
theorem r_attr {a d:Nat} {c:Cls} {fs:List (Att × V)} {t:Att} {v:V} (h:H a = some (.inst c d)) (h':H d = some (.ns fs)) (hv:aget fs t = some v):getAttr (.ref a) t H Q = Q v H := by
  delta getAttr; (try dsimp only); rw [h]; (try dsimp only); rw [h']; (try dsimp only); rw [hv]; (try dsimp only)
theorem r_setattr {a d:Nat} {c:Cls} {fs:List (Att × V)} {t:Att} {v:V} {N:AH → Prop} (h:H a = some (.inst c d)) (h':H d = some (.ns fs)) (hl:fs.length < 10):setAttr (.ref a) t v H N = N (upd H d (.ns (aput fs t v))) := by
  delta setAttr; (try dsimp only); rw [h]; (try dsimp only); rw [h']; (try dsimp only)
  exact propext ⟨fun h=>h.2,fun q=>⟨hl,q⟩⟩
theorem s_webOf (B:Base G) {m t:Nat} {ts:List Nat} {ps:List (Int × Int)} (hm:m ≤ 60) (hT:H t = some (.list (ts.map V.ref))) (hP:PairsL H ts ps) (g:Good m ps)
    (q:∀ w H',Ext H H' → H w = none → WebR H' w m (adjB ps) → Q (.ref w) H'):callN G (n + 2) "web_of" [.int m,.ref t] H Q E := by
  refine call_of B.webOf rfl ?_
  simp (disch := first | decide | omega) only [Jb,Jc,Jd,Je,Jf,Jg,Jh,Ji,Jj,Jk,Jl,Jm,Jn,Jo,Jp,Jq,Jr,Js,Jt,Ju,Jv,Jw,Jx,Jy,Jz,J0,J1,J2,J3,J4,J5,J6,J7,J8,J9,Jba,Jbb,Jbc,Jbd,Jbe,Jbf,Jbg,Jbh,Jbi,Jbj,Jbk,Jbl,Jbm,Jbn,Jbo,Jbp,Jbq,Jbr,Jbs,Jbt,List.map,Gcg,Gdg,Gag,Gbg,List.replicate,Geg,Gfg,Ggg,true_and,f_web_of]
  refine i_ite false (fun Q' h'=>?_) ?_
  · simp (disch := first | decide | omega) only [Jb,Jc,Jd,Je,Jf,Jg,Jh,Ji,Jj,Jk,Jl,Jm,Jn,Jo,Jp,Jq,Jr,Js,Jt,Ju,Jv,Jw,Jx,Jy,Jz,J0,J1,J2,J3,J4,J5,J6,J7,J8,J9,Jba,Jbb,Jbc,Jbd,Jbe,Jbf,Jbg,Jbh,Jbi,Jbj,Jbk,Jbl,Jbm,Jbn,Jbo,Jbp,Jbq,Jbr,Jbs,Jbt,List.map,Gcg,Gdg,Gag,Gbg,List.replicate,Geg,Gfg,Ggg,true_and,e_glob B.most]
    simp only [show decide ((0:Int) ≤ m) = true by simp,show decide ((m:Int) ≤ 60) = true by simp; (first | lia | omega),if_pos]
    exact h'
  rw [if_neg (by decide)]
  simp (disch := first | decide | omega) only [Jb,Jc,Jd,Je,Jf,Jg,Jh,Ji,Jj,Jk,Jl,Jm,Jn,Jo,Jp,Jq,Jr,Js,Jt,Ju,Jv,Jw,Jx,Jy,Jz,J0,J1,J2,J3,J4,J5,J6,J7,J8,J9,Jba,Jbb,Jbc,Jbd,Jbe,Jbf,Jbg,Jbh,Jbi,Jbj,Jbk,Jbl,Jbm,Jbn,Jbo,Jbp,Jbq,Jbr,Jbs,Jbt,List.map,Gcg,Gdg,Gag,Gbg,List.replicate,Geg,Gfg,Ggg,true_and]
  rw [t_for,c_val]
  simp (disch := first | decide | omega) only [Jb,Jc,Jd,Je,Jf,Jg,Jh,Ji,Jj,Jk,Jl,Jm,Jn,Jo,Jp,Jq,Jr,Js,Jt,Ju,Jv,Jw,Jx,Jy,Jz,J0,J1,J2,J3,J4,J5,J6,J7,J8,J9,Jba,Jbb,Jbc,Jbd,Jbe,Jbf,Jbg,Jbh,Jbi,Jbj,Jbk,Jbl,Jbm,Jbn,Jbo,Jbp,Jbq,Jbr,Jbs,Jbt,List.map,Gcg,Gdg,Gag,Gbg,List.replicate,Geg,Gfg,Ggg,true_and]
  rw [r_srcL hT]
  refine loop_pairs (ps := ps) (fun j ρ H₁=>(Ex2 fun (r3 r4:Option V)=>ρ = [some (.int m),some (.ref t),r3,r4,none] ∧ H₁ = H)) ⟨_,_,rfl,rfl⟩ ?_ ?_ ?_
  · rintro i ρ H₁ hPt22
    refine by_c fun no=>?_
    obtain ⟨r3,r4,rfl,rfl⟩ := hPt22
    refine no ?_;clear no
    exact ⟨hT,hP⟩
  · rintro j hPt23 ρ H₁ K hp hPt24 hK
    refine by_c fun no=>?_
    obtain ⟨x,y⟩ := hPt23
    obtain ⟨r3,r4,rfl,rfl⟩ := hPt24
    refine no ?_;clear no
    have gp := g _ (List.mem_of_getElem? hp)
    simp only at gp ⊢
    simp (disch := first | decide | omega) only [Jb,Jc,Jd,Je,Jf,Jg,Jh,Ji,Jj,Jk,Jl,Jm,Jn,Jo,Jp,Jq,Jr,Js,Jt,Ju,Jv,Jw,Jx,Jy,Jz,J0,J1,J2,J3,J4,J5,J6,J7,J8,J9,Jba,Jbb,Jbc,Jbd,Jbe,Jbf,Jbg,Jbh,Jbi,Jbj,Jbk,Jbl,Jbm,Jbn,Jbo,Jbp,Jbq,Jbr,Jbs,Jbt,List.map,Gcg,Gdg,Gag,Gbg,List.replicate,Geg,Gfg,Ggg,true_and,f_web_of_b1]
    refine i_ite false (fun Q' h'=>?_) ?_
    · simp (disch := first | decide | omega) only [Jb,Jc,Jd,Je,Jf,Jg,Jh,Ji,Jj,Jk,Jl,Jm,Jn,Jo,Jp,Jq,Jr,Js,Jt,Ju,Jv,Jw,Jx,Jy,Jz,J0,J1,J2,J3,J4,J5,J6,J7,J8,J9,Jba,Jbb,Jbc,Jbd,Jbe,Jbf,Jbg,Jbh,Jbi,Jbj,Jbk,Jbl,Jbm,Jbn,Jbo,Jbp,Jbq,Jbr,Jbs,Jbt,List.map,Gcg,Gdg,Gag,Gbg,List.replicate,Geg,Gfg,Ggg,true_and]
      simp only [show decide ((0:Int) ≤ x) = true by simp; (first | lia | omega),show decide (x < (m:Int)) = true by simp; (first | lia | omega),show decide ((0:Int) ≤ y) = true by simp; (first | lia | omega),show decide (y < (m:Int)) = true by simp; (first | lia | omega),show decide (x = y) = false by simp; (first | lia | omega),if_pos,Bool.not_true,if_neg,Bool.false_eq_true,if_false]
      exact h'
    rw [if_neg (by decide)]
    simp (disch := first | decide | omega) only [Jb,Jc,Jd,Je,Jf,Jg,Jh,Ji,Jj,Jk,Jl,Jm,Jn,Jo,Jp,Jq,Jr,Js,Jt,Ju,Jv,Jw,Jx,Jy,Jz,J0,J1,J2,J3,J4,J5,J6,J7,J8,J9,Jba,Jbb,Jbc,Jbd,Jbe,Jbf,Jbg,Jbh,Jbi,Jbj,Jbk,Jbl,Jbm,Jbn,Jbo,Jbp,Jbq,Jbr,Jbs,Jbt,List.map,Gcg,Gdg,Gag,Gbg,List.replicate,Geg,Gfg,Ggg,true_and]
    exact hK _ _ ⟨_,_,rfl,rfl⟩
  rintro ρ H₁ hPt25
  refine by_c fun no=>?_
  obtain ⟨r3,r4,rfl,rfl⟩ := hPt25
  refine no ?_;clear no
  try simp (disch := first | decide | omega) only [Jb,Jc,Jd,Je,Jf,Jg,Jh,Ji,Jj,Jk,Jl,Jm,Jn,Jo,Jp,Jq,Jr,Js,Jt,Ju,Jv,Jw,Jx,Jy,Jz,J0,J1,J2,J3,J4,J5,J6,J7,J8,J9,Jba,Jbb,Jbc,Jbd,Jbe,Jbf,Jbg,Jbh,Jbi,Jbj,Jbk,Jbl,Jbm,Jbn,Jbo,Jbp,Jbq,Jbr,Jbs,Jbt,List.map,Gcg,Gdg,Gag,Gbg,List.replicate,Geg,Gfg,Ggg,true_and]
  rw [e_comp,c_range]
  simp (disch := first | decide | omega) only [Jb,Jc,Jd,Je,Jf,Jg,Jh,Ji,Jj,Jk,Jl,Jm,Jn,Jo,Jp,Jq,Jr,Js,Jt,Ju,Jv,Jw,Jx,Jy,Jz,J0,J1,J2,J3,J4,J5,J6,J7,J8,J9,Jba,Jbb,Jbc,Jbd,Jbe,Jbf,Jbg,Jbh,Jbi,Jbj,Jbk,Jbl,Jbm,Jbn,Jbo,Jbp,Jbq,Jbr,Jbs,Jbt,List.map,Gcg,Gdg,Gag,Gbg,List.replicate,Geg,Gfg,Ggg,true_and]
  refine ⟨by simp [big]; (first | lia | omega),gather_fresh (o := .dict []) (fun i H' K hi hK=>?_) fun as H' a ha c=>?_⟩
  · simp only [f_web_of_e1,e_dict0]
    exact fun x hx=>hK x hx
  rw [t_for,c_val]
  simp (disch := first | decide | omega) only [Jb,Jc,Jd,Je,Jf,Jg,Jh,Ji,Jj,Jk,Jl,Jm,Jn,Jo,Jp,Jq,Jr,Js,Jt,Ju,Jv,Jw,Jx,Jy,Jz,J0,J1,J2,J3,J4,J5,J6,J7,J8,J9,Jba,Jbb,Jbc,Jbd,Jbe,Jbf,Jbg,Jbh,Jbi,Jbj,Jbk,Jbl,Jbm,Jbn,Jbo,Jbp,Jbq,Jbr,Jbs,Jbt,List.map,Gcg,Gdg,Gag,Gbg,List.replicate,Geg,Gfg,Ggg,true_and]
  rw [r_srcL (c.ext _ _ hT)]
  refine loop_pairs (ps := ps) (fun j ρ H₂=>(Ex3 fun (r3 r4:Option V) (L:Nat → List (Int × V))=>An3 (ρ = [some (.int m),some (.ref t),r3,r4,some (.ref a)]) (Cells H₁ H₂ a as m (fun i=>.dict (L i))) (∀ i,i < m → ((L i).map (·.1)).Nodup ∧ ∀ y,y ∈ (L i).map (·.1) ↔ Adj (ps.take j) i y))) ?_ ?_ ?_ ?_
  · exact ⟨_,_,fun _=>[],rfl,c,fun i hi=>⟨List.nodup_nil,fun y=>by simp [Adj]⟩⟩
  · rintro i ρ H₂ hPt26
    refine by_c fun no=>?_
    obtain ⟨r3,r4,L,rfl,c,hL⟩ := hPt26
    refine no ?_;clear no
    exact ⟨c.ext _ _ hT,hP.ext c.ext⟩
  · rintro j p ρ H₂ K hp hPt27 hK
    refine by_c fun no=>?_
    obtain ⟨r3,r4,L,rfl,c,hL⟩ := hPt27
    refine no ?_;clear no
    have gp := g p (List.mem_of_getElem? hp)
    obtain ⟨x,y⟩ := p
    simp only at gp ⊢
    refine by_c fun no=>?_
    obtain ⟨x1,hx1,hx2,hx3⟩ := c.get (i := x.toNat) (by (first | lia | omega))
    refine no ?_;clear no
    have hLx := hL x.toNat (by (first | lia | omega))
    have hLy := hL y.toNat (by (first | lia | omega))
    have ex:((x.toNat:Nat):Int) = x := by (first | lia | omega)
    have ey:((y.toNat:Nat):Int) = y := by (first | lia | omega)
    have hll:∀ i,i < m → (L i).length < 1048576 := fun i hi=>by
      have := len_of (m := m) (hL i hi).1 fun z hz=>((((hL i hi).2 z).mp hz).in_ g.take).2.1
      rw [List.length_map] at this
      (first | lia | omega)
    simp (disch := first | decide | omega) only [Jb,Jc,Jd,Je,Jf,Jg,Jh,Ji,Jj,Jk,Jl,Jm,Jn,Jo,Jp,Jq,Jr,Js,Jt,Ju,Jv,Jw,Jx,Jy,Jz,J0,J1,J2,J3,J4,J5,J6,J7,J8,J9,Jba,Jbb,Jbc,Jbd,Jbe,Jbf,Jbg,Jbh,Jbi,Jbj,Jbk,Jbl,Jbm,Jbn,Jbo,Jbp,Jbq,Jbr,Jbs,Jbt,List.map,Gcg,Gdg,Gag,Gbg,List.replicate,Geg,Gfg,Ggg,true_and,f_web_of_b2,t_setitem,r_subL c.at_ gp.1.1 hx2,r_setD hx3 (hll _ (show x.toNat < m by (first | lia | omega)))]
    have c1 := c.set hx1 (.dict (dput (L x.toNat) y (.bool true)))
    refine by_c fun no=>?_
    obtain ⟨y1,hy1,hy2,hy3⟩ := c1.get (i := y.toNat) (by (first | lia | omega))
    refine no ?_;clear no
    rw [if_neg (show ¬ y.toNat = x.toNat by (first | lia | omega))] at hy3
    simp (disch := first | decide | omega) only [Jb,Jc,Jd,Je,Jf,Jg,Jh,Ji,Jj,Jk,Jl,Jm,Jn,Jo,Jp,Jq,Jr,Js,Jt,Ju,Jv,Jw,Jx,Jy,Jz,J0,J1,J2,J3,J4,J5,J6,J7,J8,J9,Jba,Jbb,Jbc,Jbd,Jbe,Jbf,Jbg,Jbh,Jbi,Jbj,Jbk,Jbl,Jbm,Jbn,Jbo,Jbp,Jbq,Jbr,Jbs,Jbt,List.map,Gcg,Gdg,Gag,Gbg,List.replicate,Geg,Gfg,Ggg,true_and,r_subL c1.at_ gp.2.1.1 hy2,r_setD hy3 (hll _ (show y.toNat < m by (first | lia | omega)))]
    have c2 := c1.set hy1 (.dict (dput (L y.toNat) x (.bool true)))
    refine hK _ _ ⟨_,_,fun i=>if i = y.toNat then dput (L y.toNat) x (.bool true) else if i = x.toNat then dput (L x.toNat) y (.bool true) else L i,rfl,c2.congr fun i hi=>?_,fun i hi=>?_⟩
    · by_cases h1:i = y.toNat
      · simp [h1]
      · by_cases h2:i = x.toNat
        · have:¬ x.toNat = y.toNat := by (first | lia | omega)
          simp [h2,this]
        · simp [h1,h2]
    · have nd:∀ (l:List Int) (z:Int),l.Nodup → z ∉ l → (l ++ [z]).Nodup := fun l z h1 h2=>by
        rw [List.nodup_append]
        exact ⟨h1,by simp,fun a ha b hb e=>h2 (by simp at hb; rw [← hb,← e]; exact ha)⟩
      have nd2:∀ (es:List (Int × V)) (k:Int) (v:V),(es.map (·.1)).Nodup → ((dput es k v).map (·.1)).Nodup := fun es k v h=>by
        rw [dput_keys]
        split
        · exact h
        · exact nd _ _ h (by assumption)
      have mm:∀ (es:List (Int × V)) (k:Int) (v:V) (z:Int),z ∈ (dput es k v).map (·.1) ↔ z ∈ es.map (·.1) ∨ z = k := fun es k v z=>by
        rw [dput_keys]
        split
        · rename_i hk
          exact ⟨.inl,fun h=>h.elim id fun e=>e ▸ hk⟩
        · rw [List.mem_append,List.mem_singleton]
      dsimp only
      by_cases h1:i = y.toNat
      · subst h1
        rw [if_pos rfl]
        refine ⟨nd2 _ _ _ hLy.1,fun z=>?_⟩
        rw [mm,hLy.2 z,adj_take hp,ey]
        constructor
        · rintro (h | rfl)
          · exact .inl h
          · exact .inr (.inr (by simp))
        · rintro (h | ⟨h1,h2⟩ | ⟨h1,h2⟩)
          · exact .inl h
          · exact absurd h1.symm gp.2.2
          · exact .inr h2
      · rw [if_neg h1]
        by_cases h2:i = x.toNat
        · subst h2
          rw [if_pos rfl]
          refine ⟨nd2 _ _ _ hLx.1,fun z=>?_⟩
          rw [mm,hLx.2 z,adj_take hp,ex]
          constructor
          · rintro (h | rfl)
            · exact .inl h
            · exact .inr (.inl (by simp))
          · rintro (h | ⟨h1,h2⟩ | ⟨h1,h2⟩)
            · exact .inl h
            · exact .inr h2
            · exact absurd h1 gp.2.2
        · rw [if_neg h2]
          refine ⟨(hL i hi).1,fun z=>?_⟩
          rw [(hL i hi).2 z,adj_take hp]
          constructor
          · exact .inl
          · rintro (h | ⟨h3,h4⟩ | ⟨h3,h4⟩)
            · exact h
            · simp only at h3; (first | lia | omega)
            · simp only at h3; (first | lia | omega)
  · rintro ρ H₂ hPt28
    refine by_c fun no=>?_
    obtain ⟨r3,r4,L,rfl,c,hL⟩ := hPt28
    refine no ?_;clear no
    rw [List.take_of_length_le (Nat.le_refl _)] at hL
    try simp (disch := first | decide | omega) only [Jb,Jc,Jd,Je,Jf,Jg,Jh,Ji,Jj,Jk,Jl,Jm,Jn,Jo,Jp,Jq,Jr,Js,Jt,Ju,Jv,Jw,Jx,Jy,Jz,J0,J1,J2,J3,J4,J5,J6,J7,J8,J9,Jba,Jbb,Jbc,Jbd,Jbe,Jbf,Jbg,Jbh,Jbi,Jbj,Jbk,Jbl,Jbm,Jbn,Jbo,Jbp,Jbq,Jbr,Jbs,Jbt,List.map,Gcg,Gdg,Gag,Gbg,List.replicate,Geg,Gfg,Ggg,true_and]
    rw [e_mk]
    refine ⟨by rw [show initOf .web = Str.ofString "Web.__init__" from rfl,B.init]; rfl,?_⟩
    simp (disch := first | decide | omega) only [Jb,Jc,Jd,Je,Jf,Jg,Jh,Ji,Jj,Jk,Jl,Jm,Jn,Jo,Jp,Jq,Jr,Js,Jt,Ju,Jv,Jw,Jx,Jy,Jz,J0,J1,J2,J3,J4,J5,J6,J7,J8,J9,Jba,Jbb,Jbc,Jbd,Jbe,Jbf,Jbg,Jbh,Jbi,Jbj,Jbk,Jbl,Jbm,Jbn,Jbo,Jbp,Jbq,Jbr,Jbs,Jbt,List.map,Gcg,Gdg,Gag,Gbg,List.replicate,Geg,Gfg,Ggg,true_and]
    rw [e_comp,c_val]
    simp (disch := first | decide | omega) only [Jb,Jc,Jd,Je,Jf,Jg,Jh,Ji,Jj,Jk,Jl,Jm,Jn,Jo,Jp,Jq,Jr,Js,Jt,Ju,Jv,Jw,Jx,Jy,Jz,J0,J1,J2,J3,J4,J5,J6,J7,J8,J9,Jba,Jbb,Jbc,Jbd,Jbe,Jbf,Jbg,Jbh,Jbi,Jbj,Jbk,Jbl,Jbm,Jbn,Jbo,Jbp,Jbq,Jbr,Jbs,Jbt,List.map,Gcg,Gdg,Gag,Gbg,List.replicate,Geg,Gfg,Ggg,true_and]
    rw [r_srcL c.at_]
    refine ⟨by simp [big,c.len]; (first | lia | omega),gather_lists (row := adjRow m (adjB ps)) c.at_ (fun i x H₂ K hx e hK=>?_) fun bs H₂ e hbl hb b hb0=>?_⟩
    · have hi:i < m := by rw [← c.len]; exact (List.getElem?_eq_some_iff.mp hx).1
      have hxL:H₂ x = some (.dict (L i)) := e _ _ (c.obj i x hx)
      have hlen:(L i).length < 64 := by
        have := len_of (m := m) (hL i hi).1 fun z hz=>((((hL i hi).2 z).mp hz).in_ g).2.1
        rw [List.length_map] at this
        (first | lia | omega)
      simp (disch := first | decide | omega) only [Jb,Jc,Jd,Je,Jf,Jg,Jh,Ji,Jj,Jk,Jl,Jm,Jn,Jo,Jp,Jq,Jr,Js,Jt,Ju,Jv,Jw,Jx,Jy,Jz,J0,J1,J2,J3,J4,J5,J6,J7,J8,J9,Jba,Jbb,Jbc,Jbd,Jbe,Jbf,Jbg,Jbh,Jbi,Jbj,Jbk,Jbl,Jbm,Jbn,Jbo,Jbp,Jbq,Jbr,Jbs,Jbt,List.map,Gcg,Gdg,Gag,Gbg,List.replicate,Geg,Gfg,Ggg,true_and,f_web_of_e2,r_sortD hxL hlen]
      intro b hb
      have := hK b hb
      rwa [← sort_ps g (hL i hi).1 (hL i hi).2] at this
    · intro w d hw hd hwd
      have eb:Ext H₂ (upd H₂ b (.list (bs.map V.ref))) := Ext.upd hb0
      have hnb:NearR (upd H₂ b (.list (bs.map V.ref))) b m (adjB ps) := ⟨bs,upd_self,by rw [hbl,c.len],fun i x hx=>(hb i x hx).ext eb⟩
      have eH := (c.ext.trans e).trans eb
      generalize upd H₂ b (.list (bs.map V.ref)) = H₃ at *
      refine call_of B.init rfl ?_
      have hw1:upd (upd H₃ d (.ns [])) w (.inst .web d) w = some (.inst .web d) := upd_self
      have hd1:upd (upd H₃ d (.ns [])) w (.inst .web d) d = some (.ns []) := by rw [upd_ne (Ne.symm hwd),upd_self]
      have hw2:upd (upd (upd H₃ d (.ns [])) w (.inst .web d)) d (.ns (aput [] .many (.int m))) w = some (.inst .web d) := by rw [upd_ne hwd]; exact hw1
      have hd2:upd (upd (upd H₃ d (.ns [])) w (.inst .web d)) d (.ns (aput [] .many (.int m))) d = some (.ns (aput [] .many (.int m))) := upd_self
      simp (disch := first | decide | omega) only [Jb,Jc,Jd,Je,Jf,Jg,Jh,Ji,Jj,Jk,Jl,Jm,Jn,Jo,Jp,Jq,Jr,Js,Jt,Ju,Jv,Jw,Jx,Jy,Jz,J0,J1,J2,J3,J4,J5,J6,J7,J8,J9,Jba,Jbb,Jbc,Jbd,Jbe,Jbf,Jbg,Jbh,Jbi,Jbj,Jbk,Jbl,Jbm,Jbn,Jbo,Jbp,Jbq,Jbr,Jbs,Jbt,List.map,Gcg,Gdg,Gag,Gbg,List.replicate,Geg,Gfg,Ggg,true_and,f_Web__init_,t_setattr,r_setattr hw1 hd1 (by decide),r_setattr hw2 hd2 (show (aput [] Att.many (V.int m)).length < 10 from (by decide:(1:Nat) < 10))]
      refine q w _ ?_ (eH.isNone hw) ⟨d,b,?_,upd_self,hnb.ext ?_⟩
      · exact (((eH.trans (Ext.upd hd)).upd' (eH.isNone hw)).upd' (eH.isNone hd)).upd' (eH.isNone hd)
      · rw [upd_ne hwd]; exact hw2
      · exact (((Ext.upd hd).upd' hw).upd' hd).upd' hd
theorem s_need (B:Base G) {w m:Nat} {A:Nat → Nat → Bool} {x:Int} (hW:WebR H w m A) (h0:0 ≤ x) (h1:x < m) (q:Q .none H):callN G (n + 1) "Web.need" [.ref w,.int x] H Q E := by
  obtain ⟨d,rs,h2,h3,h4⟩ := hW
  refine call_of B.need rfl ?_
  simp (disch := first | decide | omega) only [Jb,Jc,Jd,Je,Jf,Jg,Jh,Ji,Jj,Jk,Jl,Jm,Jn,Jo,Jp,Jq,Jr,Js,Jt,Ju,Jv,Jw,Jx,Jy,Jz,J0,J1,J2,J3,J4,J5,J6,J7,J8,J9,Jba,Jbb,Jbc,Jbd,Jbe,Jbf,Jbg,Jbh,Jbi,Jbj,Jbk,Jbl,Jbm,Jbn,Jbo,Jbp,Jbq,Jbr,Jbs,Jbt,List.map,Gcg,Gdg,Gag,Gbg,List.replicate,Geg,Gfg,Ggg,true_and,f_Web_need]
  refine i_ite false (fun Q' h'=>?_) ?_
  · simp (disch := first | decide | omega) only [Jb,Jc,Jd,Je,Jf,Jg,Jh,Ji,Jj,Jk,Jl,Jm,Jn,Jo,Jp,Jq,Jr,Js,Jt,Ju,Jv,Jw,Jx,Jy,Jz,J0,J1,J2,J3,J4,J5,J6,J7,J8,J9,Jba,Jbb,Jbc,Jbd,Jbe,Jbf,Jbg,Jbh,Jbi,Jbj,Jbk,Jbl,Jbm,Jbn,Jbo,Jbp,Jbq,Jbr,Jbs,Jbt,List.map,Gcg,Gdg,Gag,Gbg,List.replicate,Geg,Gfg,Ggg,true_and,r_attr h2 h3 (show aget [(Att.many,V.int m),(Att.rows,V.ref rs)] .many = some (.int m) from rfl)]
    simp only [show decide ((0:Int) ≤ x) = true by simp; omega,show decide (x < (m:Int)) = true by simp; omega,if_pos]
    exact h'
  rw [if_neg (by decide)]
  simp (disch := first | decide | omega) only [Jb,Jc,Jd,Je,Jf,Jg,Jh,Ji,Jj,Jk,Jl,Jm,Jn,Jo,Jp,Jq,Jr,Js,Jt,Ju,Jv,Jw,Jx,Jy,Jz,J0,J1,J2,J3,J4,J5,J6,J7,J8,J9,Jba,Jbb,Jbc,Jbd,Jbe,Jbf,Jbg,Jbh,Jbi,Jbj,Jbk,Jbl,Jbm,Jbn,Jbo,Jbp,Jbq,Jbr,Jbs,Jbt,List.map,Gcg,Gdg,Gag,Gbg,List.replicate,Geg,Gfg,Ggg,true_and]
  exact q
theorem NearR.row {a m:Nat} {A:Nat → Nat → Bool} (h:NearR H a m A) {x:Int} (h0:0 ≤ x) (h1:x < m):(Ex2 fun (as:List Nat) (y:Nat)=>An4 (H a = some (.list (as.map V.ref))) (as.length = m) ((as.map V.ref)[x.toNat]? = some (.ref y)) (LI H y (adjRow m A x.toNat))):= by
  refine by_c fun no=>?_
  obtain ⟨as,a1,a2,a3⟩ := h
  refine no ?_;clear no
  have hl:x.toNat < as.length := by omega
  exact ⟨as,as[x.toNat],a1,a2,by rw [List.getElem?_map,List.getElem?_eq_getElem hl]; rfl,a3 _ _ (List.getElem?_eq_getElem hl)⟩
theorem mem_adj {m:Nat} {A:Nat → Nat → Bool} {x y:Int} (h0:0 ≤ y) (h1:y < m):decide (y ∈ adjRow m A x.toNat) = A x.toNat y.toNat := by
  by_cases h:A x.toNat y.toNat = true
  · rw [h,decide_eq_true_eq,adjRow_mem]; exact ⟨h0,h1,h⟩
  · rw [Bool.not_eq_true] at h
    rw [h,decide_eq_false_iff_not,adjRow_mem]
    rintro ⟨_,_,q⟩; rw [h] at q; cases q
theorem s_tied (B:Base G) {w m:Nat} {A:Nat → Nat → Bool} {x y:Int} (hW:WebR H w m A) (h0:0 ≤ x) (h1:x < m) (h2:0 ≤ y) (h3:y < m) (q:Q (.bool (A x.toNat y.toNat)) H):callN G (n + 2) "Web.tied" [.ref w,.int x,.int y] H Q E := by
  have hW' := hW
  obtain ⟨d,rs,w1,w2,w3⟩ := hW'
  obtain ⟨as,z,a1,a2,a3,a4⟩ := w3.row h0 h1
  refine call_of B.tied rfl ?_
  simp (disch := first | decide | omega) only [Jb,Jc,Jd,Je,Jf,Jg,Jh,Ji,Jj,Jk,Jl,Jm,Jn,Jo,Jp,Jq,Jr,Js,Jt,Ju,Jv,Jw,Jx,Jy,Jz,J0,J1,J2,J3,J4,J5,J6,J7,J8,J9,Jba,Jbb,Jbc,Jbd,Jbe,Jbf,Jbg,Jbh,Jbi,Jbj,Jbk,Jbl,Jbm,Jbn,Jbo,Jbp,Jbq,Jbr,Jbs,Jbt,List.map,Gcg,Gdg,Gag,Gbg,List.replicate,Geg,Gfg,Ggg,true_and,f_Web_tied,e_meth,w1,w2,B.need]
  refine s_need B hW h0 h1 ?_
  (try dsimp only); (try simp (disch := first | decide | omega) only [Jb,Jc,Jd,Je,Jf,Jg,Jh,Ji,Jj,Jk,Jl,Jm,Jn,Jo,Jp,Jq,Jr,Js,Jt,Ju,Jv,Jw,Jx,Jy,Jz,J0,J1,J2,J3,J4,J5,J6,J7,J8,J9,Jba,Jbb,Jbc,Jbd,Jbe,Jbf,Jbg,Jbh,Jbi,Jbj,Jbk,Jbl,Jbm,Jbn,Jbo,Jbp,Jbq,Jbr,Jbs,Jbt,List.map,Gcg,Gdg,Gag,Gbg,List.replicate,Geg,Gfg,Ggg,true_and])
  simp only [e_meth,Jg,List.getElem?_cons_zero,List.getElem?_cons_succ,w1,w2,B.need,Option.isSome_some,true_and,Jx,Jw]
  refine s_need B hW h2 h3 ?_
  simp (disch := first | decide | omega) only [r_attr w1 w2 (show aget [(Att.many,V.int m),(Att.rows,V.ref rs)] .rows = some (.ref rs) from rfl),r_subL a1 h0 a3,r_in a4,mem_adj h2 h3,J0,J3,Jm,Jg,Js,Jr,List.getElem?_cons_zero,List.getElem?_cons_succ]
  exact q
set_option linter.all false
variable {G:GEnv} {n:Nat} {H H':AH} {Q:Post} {E:EP} {C:CS} {ρ:Loc}
theorem gather_map {g:AH → Prop} {l:List Int} {h:Int → V} {elt:Loc → AH → (Option V → AH → Prop) → Prop} {Q:List V → AH → Prop} {y:Option V} (hg:g H)
    (step:∀ x ∈ l,∀ K:Option V → AH → Prop,K (some (h x)) H → elt (some (.int x) :: ρ) H K) (fin:Q (l.map h) H):gather g (.one 0) elt Q ((l.map V.int).map .v) [] (y :: ρ) H := by
  refine gather_det (f := fun v=>match v with | .int x=>some (h x) | _=>none) hg (fun v hv K hK=>?_) ?_
  · obtain ⟨x,hx,rfl⟩ := List.mem_map.mp hv
    exact step x hx K hK
  · rw [List.filterMap_map]
    have:l.filterMap ((fun v=>match v with | .int x=>some (h x) | _=>none) ∘ V.int) = l.map h := by
      rw [← List.filterMap_eq_map]; rfl
    rw [this]; exact fin
theorem gather_sift {g:AH → Prop} {l:List Int} {p:Int → Bool} {elt:Loc → AH → (Option V → AH → Prop) → Prop} {Q:List V → AH → Prop} {y:Option V} (hg:g H)
    (step:∀ x ∈ l,∀ K:Option V → AH → Prop,K (if p x then some (.int x) else none) H → elt (some (.int x) :: ρ) H K) (fin:Q ((l.filter p).map V.int) H):gather g (.one 0) elt Q ((l.map V.int).map .v) [] (y :: ρ) H := by
  refine gather_det (f := fun v=>match v with | .int x=>if p x then some (.int x) else none | _=>none) hg (fun v hv K hK=>?_) ?_
  · obtain ⟨x,hx,rfl⟩ := List.mem_map.mp hv
    exact step x hx K hK
  · rw [List.filterMap_map]
    have:l.filterMap ((fun v=>match v with | .int x=>if p x then some (.int x) else none | _=>none) ∘ V.int) = (l.filter p).map V.int := by
      clear fin step
      induction l with
      | nil=>rfl
      | cons x r ih =>
        rw [List.filterMap_cons,ih,List.filter_cons]
        by_cases hp:p x = true <;> simp [hp,Function.comp]
    rw [this]; exact fin
theorem loop_enum {a:Nat} {xs:List V} {t u:Nat} {body:Loc → AH → (Loc → AH → Prop) → Prop} {N:Loc → AH → Prop} (I:Nat → Loc → AH → Prop) (h0:I 0 ρ H) (hg:∀ i ρ H,I i ρ H → H a = some (.list xs))
    (step:∀ i x ρ H K,xs[i]? = some x → I i ρ H → (∀ ρ'' H'',I (i + 1) ρ'' H'' → K ρ'' H'') → body ((ρ.set t (some (.int i))).set u (some x)) H K) (fin:∀ ρ H,I xs.length ρ H → N ρ H) :
    loop (fun H=>H a = some (.list xs)) (.two t u) body N (xs.mapIdx fun i x=>.pair (.int i) x) ρ H := by
  refine loop_ind (k := 0) I h0 (fun i x ρ H K hx hI hK=>⟨hg _ _ _ hI,?_⟩) fun ρ H hI=>⟨hg _ _ _ hI,fin ρ H (by simpa using hI)⟩
  rw [List.getElem?_mapIdx] at hx
  obtain ⟨j,hj,rfl⟩ := Option.map_eq_some_iff.mp hx
  exact step i j ρ H K hj (by simpa using hI) fun ρ'' H'' h=>hK ρ'' H'' (by simpa using h)
theorem bools_map (l:List Bool):bools? (l.map V.bool) = some l := by
  induction l with
  | nil=>rfl
  | cons x r ih=>exact (show bools? ((x :: r).map V.bool) = (bools? (r.map V.bool)).map (x :: ·) from rfl).trans (by rw [ih]; rfl)
theorem r_all {a:Nat} {l:List Bool} (h:H a = some (.list (l.map V.bool))):biOp .all [.ref a] H Q = Q (.bool (l.all id)) H := by delta biOp; dsimp only; (first | delta lenOp | delta listOp | delta sortOp | delta allOp | delta anyOp); dsimp only; rw [h]; (try dsimp only); rw [bools_map]; (try dsimp only)
theorem r_any {a:Nat} {l:List Bool} (h:H a = some (.list (l.map V.bool))):biOp .any [.ref a] H Q = Q (.bool (l.any id)) H := by delta biOp; dsimp only; (first | delta lenOp | delta listOp | delta sortOp | delta allOp | delta anyOp); dsimp only; rw [h]; (try dsimp only); rw [bools_map]; (try dsimp only)
noncomputable def fu (A:Nat → Nat → Bool):List Int → Option (Int × Int)
  | []=>none
  | x :: r=>match r.find? (fun y=>!A x.toNat y.toNat) with
    | some y=>some (x,y)
    | none=>fu A r
theorem fu_cons {A:Nat → Nat → Bool} {x:Int} {r:List Int}:fu A (x :: r) = match r.find? (fun y=>!A x.toNat y.toNat) with
    | some y=>some (x,y)
    | none=>fu A r := rfl
theorem fu_none {A:Nat → Nat → Bool}:∀ {l:List Int},fu A l = none ↔ l.Pairwise (fun x y=>A x.toNat y.toNat = true)
  | []=>by simp [fu]
  | x :: r=>by
    unfold fu
    rw [List.pairwise_cons]
    cases h:r.find? (fun y=>!A x.toNat y.toNat) with
    | some y =>
      simp only [reduceCtorEq,false_iff]
      rintro ⟨h1,h2⟩
      have h3 := List.find?_some h
      have h4 := h1 y (List.mem_of_find?_eq_some h)
      simp [h4] at h3
    | none =>
      have h5 := List.find?_eq_none.mp h
      simp only [fu_none (l := r)]
      exact ⟨fun q=>⟨fun y hy=>by simpa using h5 y hy,q⟩,fun q=>q.2⟩
theorem LI.at_ {a:Nat} {l:List Int} {i:Nat} {v:V} (hv:(l.map V.int)[i]? = some v):∃ x,l[i]? = some x ∧ v = .int x := by
  rw [List.getElem?_map] at hv
  obtain ⟨x,hx,rfl⟩ := Option.map_eq_some_iff.mp hv
  exact ⟨x,hx,rfl⟩
theorem drop_cons {l:List Int} {i:Nat} {x:Int} (h:l[i]? = some x):l.drop i = x :: l.drop (i + 1) := by
  obtain ⟨h1,h2⟩ := List.getElem?_eq_some_iff.mp h
  rw [List.drop_eq_getElem_cons h1,h2]
theorem s_firstUntied (B:Base G) (hG:G.fn "first_untied" = some f_first_untied) {w m r:Nat} {A:Nat → Nat → Bool} {l:List Int} (hW:WebR H w m A) (hL:LI H r l) (hin:∀ x ∈ l,0 ≤ x ∧ x < m)
    (q:∀ H',Ext H H' → match fu A l with | none=>Q .none H' | some (x,y)=>∀ a,H' a = none → Q (.ref a) (upd H' a (.tuple [.int x,.int y]))):callN G (n + 3) "first_untied" [.ref w,.ref r] H Q E := by
  refine call_of hG rfl ?_
  simp (disch := first | decide | omega) only [Jb,Jc,Jd,Je,Jf,Jg,Jh,Ji,Jj,Jk,Jl,Jm,Jn,Jo,Jp,Jq,Jr,Js,Jt,Ju,Jv,Jw,Jx,Jy,Jz,J0,J1,J2,J3,J4,J5,J6,J7,J8,J9,Jba,Jbb,Jbc,Jbd,Jbe,Jbf,Jbg,Jbh,Jbi,Jbj,Jbk,Jbl,Jbm,Jbn,Jbo,Jbp,Jbq,Jbr,Jbs,Jbt,List.map,Gcg,Gdg,Gag,Gbg,List.replicate,Geg,Gfg,Ggg,true_and,f_first_untied]
  rw [t_for,c_enum]
  simp (disch := first | decide | omega) only [Jb,Jc,Jd,Je,Jf,Jg,Jh,Ji,Jj,Jk,Jl,Jm,Jn,Jo,Jp,Jq,Jr,Js,Jt,Ju,Jv,Jw,Jx,Jy,Jz,J0,J1,J2,J3,J4,J5,J6,J7,J8,J9,Jba,Jbb,Jbc,Jbd,Jbe,Jbf,Jbg,Jbh,Jbi,Jbj,Jbk,Jbl,Jbm,Jbn,Jbo,Jbp,Jbq,Jbr,Jbs,Jbt,List.map,Gcg,Gdg,Gag,Gbg,List.replicate,Geg,Gfg,Ggg,true_and]
  rw [r_enumL hL]
  refine loop_enum (fun i ρ H₁=>(Ex3 fun r2 r3 r4=>An3 (ρ = [some (.ref w),some (.ref r),r2,r3,r4]) (Ext H H₁) (fu A l = fu A (l.drop i)))) ⟨none,none,none,rfl,Ext.refl,by simp⟩ ?_ ?_ ?_
  · rintro i ρ H₁ ⟨r2,r3,r4,rfl,e,hf⟩
    exact e _ _ hL
  · rintro i v ρ H₁ K hv ⟨r2,r3,r4,rfl,e,hf⟩ hK
    obtain ⟨x,hx,rfl⟩ := LI.at_ (a := r) hv
    have hxr := hin x (List.mem_of_getElem? hx)
    rw [drop_cons hx,fu_cons] at hf
    simp (disch := first | decide | omega) only [Jb,Jc,Jd,Je,Jf,Jg,Jh,Ji,Jj,Jk,Jl,Jm,Jn,Jo,Jp,Jq,Jr,Js,Jt,Ju,Jv,Jw,Jx,Jy,Jz,J0,J1,J2,J3,J4,J5,J6,J7,J8,J9,Jba,Jbb,Jbc,Jbd,Jbe,Jbf,Jbg,Jbh,Jbi,Jbj,Jbk,Jbl,Jbm,Jbn,Jbo,Jbp,Jbq,Jbr,Jbs,Jbt,List.map,Gcg,Gdg,Gag,Gbg,List.replicate,Geg,Gfg,Ggg,true_and,f_first_untied_b2]
    rw [t_for,c_val]
    simp (disch := first | decide | omega) only [Jb,Jc,Jd,Je,Jf,Jg,Jh,Ji,Jj,Jk,Jl,Jm,Jn,Jo,Jp,Jq,Jr,Js,Jt,Ju,Jv,Jw,Jx,Jy,Jz,J0,J1,J2,J3,J4,J5,J6,J7,J8,J9,Jba,Jbb,Jbc,Jbd,Jbe,Jbf,Jbg,Jbh,Jbi,Jbj,Jbk,Jbl,Jbm,Jbn,Jbo,Jbp,Jbq,Jbr,Jbs,Jbt,List.map,Gcg,Gdg,Gag,Gbg,List.replicate,Geg,Gfg,Ggg,true_and]
    rw [r_slice (e _ _ hL) b_int b_none,cut_lo (by (first | lia | omega))]
    intro s hs
    rw [show ((i:Int) + 1).toNat = i + 1 by (first | lia | omega),← List.map_drop]
    rw [r_srcL upd_self]
    have eW := e.trans (Ext.upd (o := .list ((l.drop (i + 1)).map V.int)) hs)
    have hsv:upd H₁ s (.list ((l.drop (i + 1)).map V.int)) s = some (.list ((l.drop (i + 1)).map V.int)) := upd_self
    generalize upd H₁ s (.list ((l.drop (i + 1)).map V.int)) = H₂ at *
    refine loop_list (fun j ρ H₃=>(Ex1 fun r4=>An3 (ρ = [some (.ref w),some (.ref r),some (.int i),some (.int x),r4]) (H₃ = H₂) ((l.drop (i + 1)).find? (fun y=>!A x.toNat y.toNat) = ((l.drop (i + 1)).drop j).find? (fun y=>!A x.toNat y.toNat)))) ⟨_,rfl,rfl,by simp⟩ ?_ ?_ ?_
    · rintro j ρ H₃ ⟨r4,rfl,rfl,hj⟩; exact hsv
    · rintro j v ρ H₃ K' hv ⟨r4,rfl,rfl,hj⟩ hK'
      obtain ⟨y,hy,rfl⟩ := LI.at_ (a := r) hv
      have hyr := hin y (List.mem_of_mem_drop (List.mem_of_getElem? hy))
      rw [drop_cons hy,List.find?_cons] at hj
      obtain ⟨d,rs,w1,w2,w3⟩ := hW.ext eW
      simp (disch := first | decide | omega) only [Jb,Jc,Jd,Je,Jf,Jg,Jh,Ji,Jj,Jk,Jl,Jm,Jn,Jo,Jp,Jq,Jr,Js,Jt,Ju,Jv,Jw,Jx,Jy,Jz,J0,J1,J2,J3,J4,J5,J6,J7,J8,J9,Jba,Jbb,Jbc,Jbd,Jbe,Jbf,Jbg,Jbh,Jbi,Jbj,Jbk,Jbl,Jbm,Jbn,Jbo,Jbp,Jbq,Jbr,Jbs,Jbt,List.map,Gcg,Gdg,Gag,Gbg,List.replicate,Geg,Gfg,Ggg,true_and,f_first_untied_b1]
      refine i_ite (!A x.toNat y.toNat) (fun Q' h'=>?_) ?_
      · simp (disch := first | decide | omega) only [Jb,Jc,Jd,Je,Jf,Jg,Jh,Ji,Jj,Jk,Jl,Jm,Jn,Jo,Jp,Jq,Jr,Js,Jt,Ju,Jv,Jw,Jx,Jy,Jz,J0,J1,J2,J3,J4,J5,J6,J7,J8,J9,Jba,Jbb,Jbc,Jbd,Jbe,Jbf,Jbg,Jbh,Jbi,Jbj,Jbk,Jbl,Jbm,Jbn,Jbo,Jbp,Jbq,Jbr,Jbs,Jbt,List.map,Gcg,Gdg,Gag,Gbg,List.replicate,Geg,Gfg,Ggg,true_and,e_meth,w1,w2,B.tied]
        exact s_tied B (hW.ext eW) hxr.1 hxr.2 hyr.1 hyr.2 h'
      split
      · rename_i hh
        simp (disch := first | decide | omega) only [Jb,Jc,Jd,Je,Jf,Jg,Jh,Ji,Jj,Jk,Jl,Jm,Jn,Jo,Jp,Jq,Jr,Js,Jt,Ju,Jv,Jw,Jx,Jy,Jz,J0,J1,J2,J3,J4,J5,J6,J7,J8,J9,Jba,Jbb,Jbc,Jbd,Jbe,Jbf,Jbg,Jbh,Jbi,Jbj,Jbk,Jbl,Jbm,Jbn,Jbo,Jbp,Jbq,Jbr,Jbs,Jbt,List.map,Gcg,Gdg,Gag,Gbg,List.replicate,Geg,Gfg,Ggg,true_and]
        rw [hh] at hj
        simp only at hj
        rw [hj] at hf
        have := q _ eW
        rw [hf] at this
        exact this
      · rename_i hh
        simp (disch := first | decide | omega) only [Jb,Jc,Jd,Je,Jf,Jg,Jh,Ji,Jj,Jk,Jl,Jm,Jn,Jo,Jp,Jq,Jr,Js,Jt,Ju,Jv,Jw,Jx,Jy,Jz,J0,J1,J2,J3,J4,J5,J6,J7,J8,J9,Jba,Jbb,Jbc,Jbd,Jbe,Jbf,Jbg,Jbh,Jbi,Jbj,Jbk,Jbl,Jbm,Jbn,Jbo,Jbp,Jbq,Jbr,Jbs,Jbt,List.map,Gcg,Gdg,Gag,Gbg,List.replicate,Geg,Gfg,Ggg,true_and]
        rw [Bool.not_eq_true] at hh
        rw [hh] at hj
        exact hK' _ _ ⟨_,rfl,rfl,hj⟩
    · rintro ρ H₃ ⟨r4,rfl,rfl,hj⟩
      rw [List.length_map,List.drop_of_length_le (Nat.le_refl _),List.find?_nil] at hj
      rw [hj] at hf
      exact hK _ _ ⟨_,_,_,rfl,eW,hf⟩
  · rintro ρ H₁ ⟨r2,r3,r4,rfl,e,hf⟩
    rw [List.length_map,List.drop_of_length_le (Nat.le_refl _)] at hf
    have := q H₁ e
    rw [hf] at this
    try simp (disch := first | decide | omega) only [Jb,Jc,Jd,Je,Jf,Jg,Jh,Ji,Jj,Jk,Jl,Jm,Jn,Jo,Jp,Jq,Jr,Js,Jt,Ju,Jv,Jw,Jx,Jy,Jz,J0,J1,J2,J3,J4,J5,J6,J7,J8,J9,Jba,Jbb,Jbc,Jbd,Jbe,Jbf,Jbg,Jbh,Jbi,Jbj,Jbk,Jbl,Jbm,Jbn,Jbo,Jbp,Jbq,Jbr,Jbs,Jbt,List.map,Gcg,Gdg,Gag,Gbg,List.replicate,Geg,Gfg,Ggg,true_and]
    exact this
set_option linter.all false
structure Gr (A:Nat → Nat → Bool):Prop where
  irr:∀ i,A i i = false
  symm:∀ i j,A i j = A j i
theorem nodup_getI {l:List Int} {i j:Nat} {x:Int} (h:l.Nodup) (h1:l[i]? = some x) (h2:l[j]? = some x):i = j := by
  obtain ⟨a1,a2⟩ := List.getElem?_eq_some_iff.mp h1
  obtain ⟨b1,b2⟩ := List.getElem?_eq_some_iff.mp h2
  have h' := List.pairwise_iff_getElem.mp h
  rcases Nat.lt_trichotomy i j with q | q | q
  · exact absurd (a2.trans b2.symm) (h' i j a1 b1 q)
  · exact q
  · exact absurd (b2.trans a2.symm) (h' j i b1 a1 q)
variable {G:GEnv} {n:Nat} {H H':AH} {Q:Post} {E:EP} {C:CS} {ρ:Loc}
theorem eqD_int {n:Nat} {x y:Int}:eqD n H (.int x) (.int y) = some (decide (x = y)) := by cases n <;> rfl
theorem eqD_ints (n:Nat):∀ l l':List Int,l.length = l'.length → allO (List.zipWith (eqD n H) (l.map V.int) (l'.map V.int)) = some (decide (l = l'))
  | [],[],_=>by simp [allO]
  | x :: r,y :: s,h=>by
    have ih := eqD_ints n r s (by simpa using h)
    show allO (eqD n H (.int x) (.int y) :: List.zipWith (eqD n H) (r.map V.int) (s.map V.int)) = _
    rw [eqD_int]
    show (allO _).map _ = _
    rw [ih]
    simp only [Option.map_some,List.cons.injEq]
    congr 1
    by_cases h1:x = y <;> by_cases h2:r = s <;> simp [h1,h2]
theorem eqD_LL {n a b:Nat} {xs ys:List V} (h:H a = some (.list xs)) (h':H b = some (.list ys)):eqD (n + 1) H (.ref a) (.ref b) = if xs.length = ys.length then allO (List.zipWith (eqD n H) xs ys) else some false := by
  conv=>lhs; whnf
  rw [h,h']
theorem eqD_LI {n a b:Nat} {l l':List Int} (h:LI H a l) (h':LI H b l'):eqD (n + 1) H (.ref a) (.ref b) = some (decide (l = l')) := by
  rw [eqD_LL h h',List.length_map,List.length_map]
  split
  · rename_i q; exact eqD_ints n l l' q
  · rename_i q
    rw [decide_eq_false (fun e=>q (by rw [e]))]
theorem r_eqL {a b:Nat} {l l':List Int} (h:LI H a l) (h':LI H b l'):cmpOp .Eq (.ref a) (.ref b) H Q = Q (.bool (decide (l = l'))) H := by
  have:eqD depthEq H (.ref a) (.ref b) = some (decide (l = l')) := eqD_LI h h'
  delta cmpOp; (try dsimp only); (try delta inOp); (try dsimp only); rw [this]; (try dsimp only)
theorem r_neL {a b:Nat} {l l':List Int} (h:LI H a l) (h':LI H b l'):cmpOp .NotEq (.ref a) (.ref b) H Q = Q (.bool (!decide (l = l'))) H := by
  have:eqD depthEq H (.ref a) (.ref b) = some (decide (l = l')) := eqD_LI h h'
  delta cmpOp; (try dsimp only); (try delta inOp); (try dsimp only); rw [this]; (try dsimp only)
theorem LI.sub {a:Nat} {l:List Int} {x:Int} {i:Nat} (hx:l[i]? = some x):(l.map V.int)[(i:Int).toNat]? = some (.int x) := by
  rw [Int.toNat_natCast,List.getElem?_map,hx]; rfl
set_option linter.all false
variable {G:GEnv} {n:Nat} {H H':AH} {Q:Post} {E:EP} {C:CS} {ρ:Loc}
theorem r_listL {a:Nat} {xs:List V} (h:H a = some (.list xs)):biOp .list [.ref a] H Q = alloc (.list xs) H Q := by
  delta biOp; dsimp only; (first | delta lenOp | delta listOp | delta sortOp | delta allOp | delta anyOp); dsimp only; rw [h]; (try dsimp only)
theorem r_clear {a:Nat} {xs:List V} (h:H a = some (.list xs)):lmOp .clear (.ref a) [] H Q = Q .none (upd H a (.list [])) := by
  delta lmOp; dsimp only; (first | delta appendM | delta clearM | delta extendM | delta indexM | delta removeM); dsimp only; rw [h]; (try dsimp only)
theorem r_extend {a b:Nat} {xs ys:List V} (h:H a = some (.list xs)) (h':H b = some (.list ys)) (hab:a ≠ b) (hl:xs.length + ys.length ≤ 1048576):lmOp .extend (.ref a) [.ref b] H Q = Q .none (upd H a (.list (xs ++ ys))) := by
  delta lmOp; dsimp only; (first | delta appendM | delta clearM | delta extendM | delta indexM | delta removeM); dsimp only; rw [h]; (try dsimp only); rw [h']; (try dsimp only)
  exact propext ⟨fun h=>h.2,fun q=>⟨⟨hab,hl⟩,q⟩⟩
theorem seq {s:S} {rest:List S} {N:Loc → AH → Prop} {R:Post} (T:Loc → AH → Prop) (h1:∀ N:Loc → AH → Prop,(∀ ρ H,T ρ H → N ρ H) → wpS G C s ρ H N R E) (h2:∀ ρ H,T ρ H → wpSs G C rest ρ H N R E):wpSs G C (s :: rest) ρ H N R E := by
  rw [J3]; exact h1 _ h2
set_option linter.all false
variable {G:GEnv} {n:Nat} {H H':AH} {Q:Post} {E:EP} {C:CS} {ρ:Loc}
theorem r_setLI {a:Nat} {l:List Int} {k v:Int} {N:AH → Prop} (h:LI H a l) (h0:0 ≤ k) (hk:k < l.length):setItem (.ref a) (.int k) (.int v) H N = N (upd H a (.list ((l.set k.toNat v).map V.int))) := by
  rw [r_setL h h0 (by rw [List.length_map]; exact hk),List.map_set]
theorem good_of {ns:List Int} {m:Nat} {rows:List (List Int)} {ps:List (Int × Int)} (hW:Wf m rows) (hT:TiesOf ns m rows ps):Good m ps := by
  intro p hp
  obtain ⟨k,r,one,h1,h2,h3⟩ := hT.1 p hp
  have hk := (List.getElem?_eq_some_iff.mp h1).1
  rw [hW.1] at hk
  have hr := (hW.2 k r h1).2 one h2
  have n1 := nameOf_in (ns := ns) (m := m) (k := k) (by (first | lia | omega))
  have n2 := nameOf_in (ns := ns) (m := m) (k := one) (by (first | lia | omega))
  have n3:nameOf ns m k ≠ nameOf ns m one := fun e=>by
    have := nameOf_inj (ns := ns) (m := m) (j := k) (k := one) (by (first | lia | omega)) (by (first | lia | omega)) (by (first | lia | omega)) e
    (first | lia | omega)
  rcases h3 with rfl | rfl
  · exact ⟨n1,n2,n3⟩
  · exact ⟨n2,n1,Ne.symm n3⟩
theorem gr_of {m:Nat} {ps:List (Int × Int)} (g:Good m ps):Gr (adjB ps) := by
  refine ⟨fun i=>?_,fun i j=>?_⟩
  · unfold adjB
    rw [decide_eq_false_iff_not]
    exact fun h=>(h.in_ g).2.2 rfl
  · unfold adjB
    exact decide_eq_decide.mpr ⟨Adj.symm,Adj.symm⟩
set_option linter.all false
noncomputable def nbrs (A:Nat → Nat → Bool) (l:List Int) (p:Int):List Int := l.filter fun o=>A p.toNat o.toNat
noncomputable def simpl (A:Nat → Nat → Bool) (l:List Int) (p:Int):Bool := (fu A (nbrs A l p)).isNone
noncomputable def ltg (A:Nat → Nat → Bool) (l:List Int):Option Int := l.find? (simpl A l)
noncomputable def takeAll (A:Nat → Nat → Bool):Nat → List Int → List Int → List Int × List Int
  | 0,g,t=>(g,t)
  | k + 1,g,t=>match ltg A t with
    | none=>(g,t)
    | some p=>takeAll A k (g ++ [p]) (t.erase p)
theorem ltg_mem {A:Nat → Nat → Bool} {l:List Int} {p:Int} (h:ltg A l = some p):p ∈ l := List.mem_of_find?_eq_some h
noncomputable def optV:Option Int → V
  | none=>.none
  | some p=>.int p
theorem optV_none:optV none = .none := rfl
theorem optV_some {p:Int}:optV (some p) = .int p := rfl
noncomputable def rangeI (m:Nat):List Int := natI (List.range m)
theorem rangeI_mem {m:Nat} {x:Int}:x ∈ rangeI m ↔ 0 ≤ x ∧ x < m := by
  unfold rangeI
  rw [natI_mem,List.mem_range]
  constructor <;> (rintro ⟨h1,h2⟩; exact ⟨h1,by (first | lia | omega)⟩)
theorem rangeI_len {m:Nat}:(rangeI m).length = m := by simp [rangeI,natI]
theorem rangeI_lt {m:Nat}:(rangeI m).Pairwise (· < ·) := by
  have := natI_lt (m := m) (fun _=>true)
  rwa [List.filter_eq_self.mpr (by simp)] at this
theorem rangeI_nodup {m:Nat}:(rangeI m).Nodup := rangeI_lt.imp fun h=>by omega
variable {G:GEnv} {n:Nat} {H H':AH} {Q:Post} {E:EP} {C:CS} {ρ:Loc}
theorem r_isNin {i:Int}:cmpOp .IsNot (.int i) .none H Q = Q (.bool true) H := rfl
theorem r_remove {a:Nat} {l:List Int} {k:Int} (h:LI H a l) (hk:k ∈ l):lmOp .remove (.ref a) [.int k] H Q = Q .none (upd H a (.list ((l.erase k).map V.int))) := by
  unfold LI at h
  delta lmOp; dsimp only; (first | delta appendM | delta clearM | delta extendM | delta indexM | delta removeM); dsimp only; rw [h]; (try dsimp only); rw [ints_map]; (try dsimp only)
  exact propext ⟨fun h=>h.2,fun q=>⟨hk,q⟩⟩
theorem rangeI_map {m:Nat}:((List.range m).map fun (i:Nat)=>V.int i) = (rangeI m).map V.int := by simp [rangeI,natI]
theorem s_beside (B:Base G) (hG:G.fn "Web.beside" = some f_Web_beside_01) {w m:Nat} {A:Nat → Nat → Bool} {x:Int} (hW:WebR H w m A) (h0:0 ≤ x) (h1:x < m)
    (q:∀ a H',Ext H H' → H a = none → LI H' a (adjRow m A x.toNat) → Q (.ref a) H'):callN G (n + 2) "Web.beside" [.ref w,.int x] H Q E := by
  have hW' := hW
  obtain ⟨d,rs,w1,w2,w3⟩ := hW'
  obtain ⟨as,z,a1,a2,a3,a4⟩ := w3.row h0 h1
  refine call_of hG rfl ?_
  simp (disch := first | decide | omega) only [Jb,Jc,Jd,Je,Jf,Jg,Jh,Ji,Jj,Jk,Jl,Jm,Jn,Jo,Jp,Jq,Jr,Js,Jt,Ju,Jv,Jw,Jx,Jy,Jz,J0,J1,J2,J3,J4,J5,J6,J7,J8,J9,Jba,Jbb,Jbc,Jbd,Jbe,Jbf,Jbg,Jbh,Jbi,Jbj,Jbk,Jbl,Jbm,Jbn,Jbo,Jbp,Jbq,Jbr,Jbs,Jbt,List.map,Gcg,Gdg,Gag,Gbg,List.replicate,Geg,Gfg,Ggg,true_and,f_Web_beside_01,e_meth,w1,w2,B.need]
  refine s_need B hW h0 h1 ?_
  (try dsimp only); (try simp (disch := first | decide | omega) only [Jb,Jc,Jd,Je,Jf,Jg,Jh,Ji,Jj,Jk,Jl,Jm,Jn,Jo,Jp,Jq,Jr,Js,Jt,Ju,Jv,Jw,Jx,Jy,Jz,J0,J1,J2,J3,J4,J5,J6,J7,J8,J9,Jba,Jbb,Jbc,Jbd,Jbe,Jbf,Jbg,Jbh,Jbi,Jbj,Jbk,Jbl,Jbm,Jbn,Jbo,Jbp,Jbq,Jbr,Jbs,Jbt,List.map,Gcg,Gdg,Gag,Gbg,List.replicate,Geg,Gfg,Ggg,true_and])
  simp (disch := first | decide | omega) only [r_attr w1 w2 (show aget [(Att.many,V.int m),(Att.rows,V.ref rs)] .rows = some (.ref rs) from rfl),r_subL a1 h0 a3,r_listL a4]
  exact alloc_i fun a H' e n v=>q a H' e n v
theorem s_nbrs (B:Base G) {w m r:Nat} {A:Nat → Nat → Bool} {l:List Int} {p:Int} {c:X} {Q:Post} (hW:WebR H w m A) (hL:LI H r l) (hin:∀ x ∈ l,0 ≤ x ∧ x < m) (hp:0 ≤ p ∧ p < m) (hl:l.length ≤ 4000)
    (hc:∀ (x:Int) K,0 ≤ x → x < m → K (.bool (A p.toNat x.toNat)) H → wpE G C c (some (.int x) :: ρ) H K EF)
    (q:∀ a H',Ext H H' → H a = none → LI H' a (nbrs A l p) → Q (.ref a) H') :
    l.length ≤ 4000 ∧ gather (fun H'=>H' r = some (.list (l.map V.int))) (.one 0) (fun ρ H K=>wpE G C c ρ H (fun c H=>truthy c fun b=>if b then wpE G C (.var 0) ρ H (fun v H=>K (some v) H) EF else K none H) EF)
        (fun vs H=>alloc (.list vs) H Q) ((l.map V.int).map .v) [] (none :: ρ) H := by
  refine ⟨hl,gather_sift (p := fun o=>A p.toNat o.toNat) hL (fun x hx K hK=>?_) ?_⟩
  · have hxr := hin x hx
    refine hc x _ hxr.1 hxr.2 ?_
    (try dsimp only); (try simp (disch := first | decide | omega) only [Jb,Jc,Jd,Je,Jf,Jg,Jh,Ji,Jj,Jk,Jl,Jm,Jn,Jo,Jp,Jq,Jr,Js,Jt,Ju,Jv,Jw,Jx,Jy,Jz,J0,J1,J2,J3,J4,J5,J6,J7,J8,J9,Jba,Jbb,Jbc,Jbd,Jbe,Jbf,Jbg,Jbh,Jbi,Jbj,Jbk,Jbl,Jbm,Jbn,Jbo,Jbp,Jbq,Jbr,Jbs,Jbt,List.map,Gcg,Gdg,Gag,Gbg,List.replicate,Geg,Gfg,Ggg,true_and])
    split
    · rename_i h; rw [if_pos h] at hK; exact hK
    · rename_i h; rw [if_neg h] at hK; exact hK
  · exact alloc_i fun a H' e n v=>q a H' e n v
theorem s_leastToGo (B:Base G) (hF:G.fn "first_untied" = some f_first_untied) (hG:G.fn "least_to_go" = some f_least_to_go) {w m r:Nat} {A:Nat → Nat → Bool} {l:List Int} (hW:WebR H w m A) (hL:LI H r l) (hin:∀ x ∈ l,0 ≤ x ∧ x < m) (hl:l.length ≤ 60)
    (q:∀ H',Ext H H' → Q (optV (ltg A l)) H'):callN G (n + 4) "least_to_go" [.ref w,.ref r] H Q E := by
  refine call_of hG rfl ?_
  simp (disch := first | decide | omega) only [Jb,Jc,Jd,Je,Jf,Jg,Jh,Ji,Jj,Jk,Jl,Jm,Jn,Jo,Jp,Jq,Jr,Js,Jt,Ju,Jv,Jw,Jx,Jy,Jz,J0,J1,J2,J3,J4,J5,J6,J7,J8,J9,Jba,Jbb,Jbc,Jbd,Jbe,Jbf,Jbg,Jbh,Jbi,Jbj,Jbk,Jbl,Jbm,Jbn,Jbo,Jbp,Jbq,Jbr,Jbs,Jbt,List.map,Gcg,Gdg,Gag,Gbg,List.replicate,Geg,Gfg,Ggg,true_and,f_least_to_go]
  rw [t_for,c_val]
  simp (disch := first | decide | omega) only [Jb,Jc,Jd,Je,Jf,Jg,Jh,Ji,Jj,Jk,Jl,Jm,Jn,Jo,Jp,Jq,Jr,Js,Jt,Ju,Jv,Jw,Jx,Jy,Jz,J0,J1,J2,J3,J4,J5,J6,J7,J8,J9,Jba,Jbb,Jbc,Jbd,Jbe,Jbf,Jbg,Jbh,Jbi,Jbj,Jbk,Jbl,Jbm,Jbn,Jbo,Jbp,Jbq,Jbr,Jbs,Jbt,List.map,Gcg,Gdg,Gag,Gbg,List.replicate,Geg,Gfg,Ggg,true_and]
  rw [r_srcL hL]
  refine loop_list (fun i ρ H₁=>(Ex1 fun r2=>An3 (ρ = [some (.ref w),some (.ref r),r2]) (Ext H H₁) (l.find? (simpl A l) = (l.drop i).find? (simpl A l)))) ⟨_,rfl,Ext.refl,by simp⟩ ?_ ?_ ?_
  · rintro i ρ H₁ ⟨r2,rfl,e,hf⟩; exact hL.ext e
  · rintro i v ρ H₁ K hv hPt29 hK
    refine by_c fun no=>?_
    obtain ⟨r2,rfl,e,hf⟩ := hPt29
    refine no ?_;clear no
    refine by_c fun no=>?_
    obtain ⟨x,hx,rfl⟩ := LI.at_ (a := r) hv
    refine no ?_;clear no
    have hxr := hin x (List.mem_of_getElem? hx)
    rw [drop_cons hx,List.find?_cons] at hf
    have hW1 := hW.ext e
    have hL1 := hL.ext e
    refine by_c fun no=>?_
    obtain ⟨d,rs,w1,w2,w3⟩ := hW1
    refine no ?_;clear no
    simp only [f_least_to_go_b1,J3,J2,List.set_cons_succ,List.set_cons_zero]
    rw [Ja,Jm,Jp]
    refine ⟨by rw [hF]; rfl,?_⟩
    rw [Jx,Jg]
    simp only [List.getElem?_cons_zero]
    rw [Jx,e_compIf,c_val]
    simp (disch := first | decide | omega) only [Jb,Jc,Jd,Je,Jf,Jg,Jh,Ji,Jj,Jk,Jl,Jm,Jn,Jo,Jp,Jq,Jr,Js,Jt,Ju,Jv,Jw,Jx,Jy,Jz,J0,J1,J2,J3,J4,J5,J6,J7,J8,J9,Jba,Jbb,Jbc,Jbd,Jbe,Jbf,Jbg,Jbh,Jbi,Jbj,Jbk,Jbl,Jbm,Jbn,Jbo,Jbp,Jbq,Jbr,Jbs,Jbt,List.map,Gcg,Gdg,Gag,Gbg,List.replicate,Geg,Gfg,Ggg,true_and]
    rw [r_srcL hL1]
    have := s_nbrs (C := callN G (n + 3)) (ρ := [some (.ref w),some (.ref r),some (.int x)]) (c := f_least_to_go_c1) (Q := fun v H=>callN G (n + 3) "first_untied" [.ref w,v] H (fun a H=>cmpOp CmpOp.Is a V.none H fun v H=>truthy v fun c=>if c = true then Q (V.int x) H else K [some (.ref w),some (.ref r),some (.int x)] H) E) B ⟨d,rs,w1,w2,w3⟩ hL1 hin hxr (by (first | lia | omega)) (fun y K' h0 h1 hK'=>by
      simp (disch := first | decide | omega) only [Jb,Jc,Jd,Je,Jf,Jg,Jh,Ji,Jj,Jk,Jl,Jm,Jn,Jo,Jp,Jq,Jr,Js,Jt,Ju,Jv,Jw,Jx,Jy,Jz,J0,J1,J2,J3,J4,J5,J6,J7,J8,J9,Jba,Jbb,Jbc,Jbd,Jbe,Jbf,Jbg,Jbh,Jbi,Jbj,Jbk,Jbl,Jbm,Jbn,Jbo,Jbp,Jbq,Jbr,Jbs,Jbt,List.map,Gcg,Gdg,Gag,Gbg,List.replicate,Geg,Gfg,Ggg,true_and,f_least_to_go_c1,e_meth,w1,w2,B.tied]
      exact s_tied B ⟨d,rs,w1,w2,w3⟩ hxr.1 hxr.2 h0 h1 hK') (fun a H₂ e2 _ hL2=>by
      refine s_firstUntied B hF (hW.ext (e.trans e2)) hL2 (fun y hy=>hin y (List.mem_filter.mp hy).1) fun H₃ e3=>?_
      have e13 := (e.trans e2).trans e3
      cases hfu:fu A (nbrs A l x) with
      | none =>
        (try dsimp only); (try simp (disch := first | decide | omega) only [Jb,Jc,Jd,Je,Jf,Jg,Jh,Ji,Jj,Jk,Jl,Jm,Jn,Jo,Jp,Jq,Jr,Js,Jt,Ju,Jv,Jw,Jx,Jy,Jz,J0,J1,J2,J3,J4,J5,J6,J7,J8,J9,Jba,Jbb,Jbc,Jbd,Jbe,Jbf,Jbg,Jbh,Jbi,Jbj,Jbk,Jbl,Jbm,Jbn,Jbo,Jbp,Jbq,Jbr,Jbs,Jbt,List.map,Gcg,Gdg,Gag,Gbg,List.replicate,Geg,Gfg,Ggg,true_and])
        simp only [if_true]
        have:simpl A l x = true := by unfold simpl; rw [hfu]; rfl
        rw [this] at hf
        have hq := q H₃ e13
        unfold ltg at hq
        rw [hf] at hq
        exact hq
      | some pr =>
        obtain ⟨y,z⟩ := pr
        intro a' ha'
        (try dsimp only); (try simp (disch := first | decide | omega) only [Jb,Jc,Jd,Je,Jf,Jg,Jh,Ji,Jj,Jk,Jl,Jm,Jn,Jo,Jp,Jq,Jr,Js,Jt,Ju,Jv,Jw,Jx,Jy,Jz,J0,J1,J2,J3,J4,J5,J6,J7,J8,J9,Jba,Jbb,Jbc,Jbd,Jbe,Jbf,Jbg,Jbh,Jbi,Jbj,Jbk,Jbl,Jbm,Jbn,Jbo,Jbp,Jbq,Jbr,Jbs,Jbt,List.map,Gcg,Gdg,Gag,Gbg,List.replicate,Geg,Gfg,Ggg,true_and])
        simp only [Bool.false_eq_true,if_false]
        have:simpl A l x = false := by unfold simpl; rw [hfu]; rfl
        rw [this] at hf
        exact hK _ _ ⟨_,rfl,e13.trans (Ext.upd ha'),hf⟩)
    exact ⟨by simp [big]; (first | lia | omega),this.2⟩
  · rintro ρ H₁ hPt30
    refine by_c fun no=>?_
    obtain ⟨r2,rfl,e,hf⟩ := hPt30
    refine no ?_;clear no
    rw [List.length_map,List.drop_of_length_le (Nat.le_refl _),List.find?_nil] at hf
    have hq := q H₁ e
    unfold ltg at hq
    rw [hf] at hq
    try simp (disch := first | decide | omega) only [Jb,Jc,Jd,Je,Jf,Jg,Jh,Ji,Jj,Jk,Jl,Jm,Jn,Jo,Jp,Jq,Jr,Js,Jt,Ju,Jv,Jw,Jx,Jy,Jz,J0,J1,J2,J3,J4,J5,J6,J7,J8,J9,Jba,Jbb,Jbc,Jbd,Jbe,Jbf,Jbg,Jbh,Jbi,Jbj,Jbk,Jbl,Jbm,Jbn,Jbo,Jbp,Jbq,Jbr,Jbs,Jbt,List.map,Gcg,Gdg,Gag,Gbg,List.replicate,Geg,Gfg,Ggg,true_and]
    exact hq
set_option linter.all false
variable {G:GEnv} {n:Nat} {H H':AH} {Q:Post} {E:EP} {C:CS} {ρ:Loc}
theorem LI.upd_ne {a b:Nat} {l:List Int} {o:O} (h:LI H a l) (hn:a ≠ b):LI (upd H b o) a l := by
  unfold LI at *; rw [Mine.Cl.upd_ne hn]; exact h
theorem LI.ne_none {a b:Nat} {l:List Int} (h:LI H a l) (hn:H b = none):a ≠ b := fun z=>by
  unfold LI at h; rw [z,hn] at h; cases h
theorem takeAll_succ {A:Nat → Nat → Bool} {k:Nat} {g t:List Int} {p:Int} (h:ltg A t = some p):takeAll A (k + 1) g t = takeAll A k (g ++ [p]) (t.erase p) := by
  rw [takeAll,h]
theorem takeAll_stop {A:Nat → Nat → Bool} {k:Nat} {g t:List Int} (h:ltg A t = none):takeAll A k g t = (g,t) := by
  cases k with
  | zero=>rfl
  | succ k=>rw [takeAll,h]
structure Fns (G:GEnv):Prop where
  base:Base G
  untied:G.fn "first_untied" = some f_first_untied
  ltg:G.fn "least_to_go" = some f_least_to_go
  taken:G.fn "taken" = some f_taken
  beside:G.fn "Web.beside" = some f_Web_beside_01
theorem s_taken (F:Fns G) {w m:Nat} {A:Nat → Nat → Bool} (hW:WebR H w m A) (hm:m ≤ 60)
    (q:∀ r a b H',Ext H H' → H r = none → H a = none → H b = none → a ≠ b → H' r = some (.tuple [.ref b,.ref a]) → LI H' b (takeAll A m [] (rangeI m)).1 → LI H' a (takeAll A m [] (rangeI m)).2 → Q (.ref r) H') :
    callN G (n + 5) "taken" [.ref w] H Q E := by
  have B := F.base
  refine call_of F.taken rfl ?_
  simp only [f_taken,List.map,List.replicate,List.cons_append,List.nil_append]
  refine seq (fun ρ H₁=>(Ex1 fun a=>An4 (ρ = [some (.ref w),some (.ref a),none,none]) (Ext H H₁) (H a = none) (LI H₁ a (rangeI m)))) (fun N hN=>?_) ?_
  · obtain ⟨d,rs,w1,w2,w3⟩ := hW
    simp (disch := first | decide | omega) only [Jb,Jc,Jd,Je,Jf,Jg,Jh,Ji,Jj,Jk,Jl,Jm,Jn,Jo,Jp,Jq,Jr,Js,Jt,Ju,Jv,Jw,Jx,Jy,Jz,J0,J1,J2,J3,J4,J5,J6,J7,J8,J9,Jba,Jbb,Jbc,Jbd,Jbe,Jbf,Jbg,Jbh,Jbi,Jbj,Jbk,Jbl,Jbm,Jbn,Jbo,Jbp,Jbq,Jbr,Jbs,Jbt,List.map,Gcg,Gdg,Gag,Gbg,List.replicate,Geg,Gfg,Ggg,true_and,r_attr w1 w2 (show aget [(Att.many,V.int m),(Att.rows,V.ref rs)] .many = some (.int m) from rfl)]
    refine alloc_i fun a H₁ e n v=>hN _ _ ⟨a,rfl,e,n,?_⟩
    unfold LI; rw [v,Int.toNat_natCast,rangeI_map]
  rintro _ H₁ ⟨a,rfl,e1,na,ha⟩
  refine seq (fun ρ H₂=>(Ex1 fun b=>An4 (ρ = [some (.ref w),some (.ref a),some (.ref b),none]) (Ext H₁ H₂) (H₁ b = none) (LI H₂ b []))) (fun N hN=>?_) ?_
  · simp (disch := first | decide | omega) only [Jb,Jc,Jd,Je,Jf,Jg,Jh,Ji,Jj,Jk,Jl,Jm,Jn,Jo,Jp,Jq,Jr,Js,Jt,Ju,Jv,Jw,Jx,Jy,Jz,J0,J1,J2,J3,J4,J5,J6,J7,J8,J9,Jba,Jbb,Jbc,Jbd,Jbe,Jbf,Jbg,Jbh,Jbi,Jbj,Jbk,Jbl,Jbm,Jbn,Jbo,Jbp,Jbq,Jbr,Jbs,Jbt,List.map,Gcg,Gdg,Gag,Gbg,List.replicate,Geg,Gfg,Ggg,true_and]
    exact alloc_i fun b H₂ e n v=>hN _ _ ⟨b,rfl,e,n,v⟩
  rintro _ H₂ ⟨b,rfl,e2,nb1,hb⟩
  have nb:H b = none := e1.isNone nb1
  have hab:a ≠ b := ha.ne_none nb1
  have ha2 := ha.ext e2
  have hin:∀ x ∈ rangeI m,0 ≤ x ∧ x < (m:Int) := fun x hx=>rangeI_mem.mp hx
  refine seq (fun ρ H₃=>ρ = [some (.ref w),some (.ref a),some (.ref b),some (optV (ltg A (rangeI m)))] ∧ Ext H₂ H₃) (fun N hN=>?_) ?_
  · simp (disch := first | decide | omega) only [Jb,Jc,Jd,Je,Jf,Jg,Jh,Ji,Jj,Jk,Jl,Jm,Jn,Jo,Jp,Jq,Jr,Js,Jt,Ju,Jv,Jw,Jx,Jy,Jz,J0,J1,J2,J3,J4,J5,J6,J7,J8,J9,Jba,Jbb,Jbc,Jbd,Jbe,Jbf,Jbg,Jbh,Jbi,Jbj,Jbk,Jbl,Jbm,Jbn,Jbo,Jbp,Jbq,Jbr,Jbs,Jbt,List.map,Gcg,Gdg,Gag,Gbg,List.replicate,Geg,Gfg,Ggg,true_and,F.ltg]
    refine s_leastToGo B F.untied F.ltg (hW.ext (e1.trans e2)) ha2 hin (by rw [rangeI_len]; exact hm) fun H₃ e3=>?_
    exact hN _ _ ⟨rfl,e3⟩
  rintro _ H₃ ⟨rfl,e3⟩
  refine seq (fun ρ H₄=>ρ = [some (.ref w),some (.ref a),some (.ref b),some .none] ∧ Ext H H₄ ∧ LI H₄ b (takeAll A m [] (rangeI m)).1 ∧ LI H₄ a (takeAll A m [] (rangeI m)).2) (fun N hN=>?_) ?_
  · rw [t_while]
    refine ⟨fun k ρ H₄=>(Ex2 fun t g=>An8 (t.length = k) (ρ = [some (.ref w),some (.ref a),some (.ref b),some (optV (ltg A t))]) (Ext H H₄) (LI H₄ a t) (LI H₄ b g) (g.length + t.length ≤ 60) (takeAll A k g t = takeAll A m [] (rangeI m)) (∀ x ∈ t,0 ≤ x ∧ x < (m:Int))),
      ⟨_,rangeI m,[],rfl,rfl,(e1.trans e2).trans e3,ha2.ext e3,hb.ext e3,by rw [rangeI_len]; simpa using hm,by rw [rangeI_len],hin⟩,?_⟩
    rintro k ρ H₄ ⟨t,g,hk,rfl,e,hat,hbg,hlen,htk,hint⟩
    cases hlt:ltg A t with
    | none =>
      simp (disch := first | decide | omega) only [Jb,Jc,Jd,Je,Jf,Jg,Jh,Ji,Jj,Jk,Jl,Jm,Jn,Jo,Jp,Jq,Jr,Js,Jt,Ju,Jv,Jw,Jx,Jy,Jz,J0,J1,J2,J3,J4,J5,J6,J7,J8,J9,Jba,Jbb,Jbc,Jbd,Jbe,Jbf,Jbg,Jbh,Jbi,Jbj,Jbk,Jbl,Jbm,Jbn,Jbo,Jbp,Jbq,Jbr,Jbs,Jbt,List.map,Gcg,Gdg,Gag,Gbg,List.replicate,Geg,Gfg,Ggg,true_and,optV_none]
      simp only [Bool.false_eq_true,if_false]
      rw [takeAll_stop hlt] at htk
      refine hN _ _ ⟨rfl,e,?_,?_⟩
      · rw [← htk]; exact hbg
      · rw [← htk]; exact hat
    | some p =>
      have hp := ltg_mem hlt
      have hpl := List.length_pos_of_mem hp
      have hel := List.length_erase_of_mem hp
      simp (disch := first | decide | omega) only [Jb,Jc,Jd,Je,Jf,Jg,Jh,Ji,Jj,Jk,Jl,Jm,Jn,Jo,Jp,Jq,Jr,Js,Jt,Ju,Jv,Jw,Jx,Jy,Jz,J0,J1,J2,J3,J4,J5,J6,J7,J8,J9,Jba,Jbb,Jbc,Jbd,Jbe,Jbf,Jbg,Jbh,Jbi,Jbj,Jbk,Jbl,Jbm,Jbn,Jbo,Jbp,Jbq,Jbr,Jbs,Jbt,List.map,Gcg,Gdg,Gag,Gbg,List.replicate,Geg,Gfg,Ggg,true_and,optV_some,r_isNin]
      simp only [if_true]
      simp (disch := first | decide | omega) only [Jb,Jc,Jd,Je,Jf,Jg,Jh,Ji,Jj,Jk,Jl,Jm,Jn,Jo,Jp,Jq,Jr,Js,Jt,Ju,Jv,Jw,Jx,Jy,Jz,J0,J1,J2,J3,J4,J5,J6,J7,J8,J9,Jba,Jbb,Jbc,Jbd,Jbe,Jbf,Jbg,Jbh,Jbi,Jbj,Jbk,Jbl,Jbm,Jbn,Jbo,Jbp,Jbq,Jbr,Jbs,Jbt,List.map,Gcg,Gdg,Gag,Gbg,List.replicate,Geg,Gfg,Ggg,true_and,f_taken_b1,e_lm,r_kindL hat,r_remove hat hp]
      have hb1:LI (upd H₄ a (.list ((t.erase p).map V.int))) b g := hbg.upd_ne (Ne.symm hab)
      have hbl:(g.map V.int).length < 1048576 := by rw [List.length_map]; (first | lia | omega)
      simp (disch := first | decide | omega) only [Jb,Jc,Jd,Je,Jf,Jg,Jh,Ji,Jj,Jk,Jl,Jm,Jn,Jo,Jp,Jq,Jr,Js,Jt,Ju,Jv,Jw,Jx,Jy,Jz,J0,J1,J2,J3,J4,J5,J6,J7,J8,J9,Jba,Jbb,Jbc,Jbd,Jbe,Jbf,Jbg,Jbh,Jbi,Jbj,Jbk,Jbl,Jbm,Jbn,Jbo,Jbp,Jbq,Jbr,Jbs,Jbt,List.map,Gcg,Gdg,Gag,Gbg,List.replicate,Geg,Gfg,Ggg,true_and,e_lm,r_kindL hb1,r_append hb1 hbl]
      have ha3:LI (upd (upd H₄ a (.list ((t.erase p).map V.int))) b (.list (g.map V.int ++ [.int p]))) a (t.erase p) := LI.upd_ne upd_self hab
      have hb3:LI (upd (upd H₄ a (.list ((t.erase p).map V.int))) b (.list (g.map V.int ++ [.int p]))) b (g ++ [p]) := by unfold LI; rw [upd_self]; simp
      have e5:Ext H (upd (upd H₄ a (.list ((t.erase p).map V.int))) b (.list (g.map V.int ++ [.int p]))) := (e.upd' na).upd' nb
      generalize upd (upd H₄ a (.list ((t.erase p).map V.int))) b (.list (g.map V.int ++ [.int p])) = H₅ at *
      have hin5:∀ x ∈ t.erase p,0 ≤ x ∧ x < (m:Int) := fun x hx=>hint x (List.mem_of_mem_erase hx)
      refine ⟨by rw [F.ltg]; rfl,?_⟩
      refine s_leastToGo B F.untied F.ltg (hW.ext e5) ha3 hin5 (by (first | lia | omega)) fun H₆ e6=>?_
      obtain ⟨k',rfl⟩:∃ k',k = k' + 1 := ⟨k - 1,by (first | lia | omega)⟩
      refine ⟨k',by (first | lia | omega),t.erase p,g ++ [p],by (first | lia | omega),rfl,e5.trans e6,ha3.ext e6,hb3.ext e6,by simp; (first | lia | omega),?_,hin5⟩
      rw [← takeAll_succ hlt]; exact htk
  rintro _ H₄ ⟨rfl,e4,hb4,ha4⟩
  simp (disch := first | decide | omega) only [Jb,Jc,Jd,Je,Jf,Jg,Jh,Ji,Jj,Jk,Jl,Jm,Jn,Jo,Jp,Jq,Jr,Js,Jt,Ju,Jv,Jw,Jx,Jy,Jz,J0,J1,J2,J3,J4,J5,J6,J7,J8,J9,Jba,Jbb,Jbc,Jbd,Jbe,Jbf,Jbg,Jbh,Jbi,Jbj,Jbk,Jbl,Jbm,Jbn,Jbo,Jbp,Jbq,Jbr,Jbs,Jbt,List.map,Gcg,Gdg,Gag,Gbg,List.replicate,Geg,Gfg,Ggg,true_and]
  exact alloc_i fun r H₅ e5 n5 v5=>q r a b H₅ (e4.trans e5) (e4.isNone n5) na nb hab v5 (hb4.ext e5) (ha4.ext e5)
set_option linter.all false
variable {G:GEnv} {n:Nat} {H H':AH} {Q:Post} {E:EP} {C:CS} {ρ:Loc}
theorem s_lawUntied (hG:G.fn "_law_untied" = some f_law_untied) {a m r:Nat} {A:Nat → Nat → Bool} {l:List Int} (hN:NearR H a m A) (hL:LI H r l) (hl:l.length ≤ 4000) (hin:∀ x ∈ l,0 ≤ x ∧ x < m)
    (q:∀ H',Ext H H' → match fu A l with | none=>Q .none H' | some (x,y)=>∀ a,H' a = none → Q (.ref a) (upd H' a (.tuple [.int x,.int y]))):callN G (n + 1) "_law_untied" [.ref a,.ref r] H Q E := by
  refine call_of hG rfl ?_
  simp (disch := first | decide | omega) only [Jb,Jc,Jd,Je,Jf,Jg,Jh,Ji,Jj,Jk,Jl,Jm,Jn,Jo,Jp,Jq,Jr,Js,Jt,Ju,Jv,Jw,Jx,Jy,Jz,J0,J1,J2,J3,J4,J5,J6,J7,J8,J9,Jba,Jbb,Jbc,Jbd,Jbe,Jbf,Jbg,Jbh,Jbi,Jbj,Jbk,Jbl,Jbm,Jbn,Jbo,Jbp,Jbq,Jbr,Jbs,Jbt,List.map,Gcg,Gdg,Gag,Gbg,List.replicate,Geg,Gfg,Ggg,true_and,f_law_untied]
  rw [t_for,c_range]
  simp (disch := first | decide | omega) only [Jb,Jc,Jd,Je,Jf,Jg,Jh,Ji,Jj,Jk,Jl,Jm,Jn,Jo,Jp,Jq,Jr,Js,Jt,Ju,Jv,Jw,Jx,Jy,Jz,J0,J1,J2,J3,J4,J5,J6,J7,J8,J9,Jba,Jbb,Jbc,Jbd,Jbe,Jbf,Jbg,Jbh,Jbi,Jbj,Jbk,Jbl,Jbm,Jbn,Jbo,Jbp,Jbq,Jbr,Jbs,Jbt,List.map,Gcg,Gdg,Gag,Gbg,List.replicate,Geg,Gfg,Ggg,true_and,r_lenL hL]
  rw [Jbq (by (first | lia | omega)) (by rw [List.length_map]; (first | lia | omega))]
  refine loop_range0 (fun i ρ H₁=>(Ex2 fun r2 r3=>An3 (ρ = [some (.ref a),some (.ref r),r2,r3]) (Ext H H₁) (fu A l = fu A (l.drop i)))) ⟨_,_,rfl,Ext.refl,by simp⟩ ?_ ?_
  · rintro i ρ H₁ K hi ⟨r2,r3,rfl,e,hf⟩ hK
    have hi':i < l.length := by simpa using hi
    have hx := List.getElem?_eq_getElem hi'
    generalize l[i] = x at hx
    have hxr := hin x (List.mem_of_getElem? hx)
    rw [drop_cons hx,fu_cons] at hf
    have hL1 := hL.ext e
    simp (disch := first | decide | omega) only [Jb,Jc,Jd,Je,Jf,Jg,Jh,Ji,Jj,Jk,Jl,Jm,Jn,Jo,Jp,Jq,Jr,Js,Jt,Ju,Jv,Jw,Jx,Jy,Jz,J0,J1,J2,J3,J4,J5,J6,J7,J8,J9,Jba,Jbb,Jbc,Jbd,Jbe,Jbf,Jbg,Jbh,Jbi,Jbj,Jbk,Jbl,Jbm,Jbn,Jbo,Jbp,Jbq,Jbr,Jbs,Jbt,List.map,Gcg,Gdg,Gag,Gbg,List.replicate,Geg,Gfg,Ggg,true_and,f_law_untied_b2]
    rw [t_for,c_val]
    simp (disch := first | decide | omega) only [Jb,Jc,Jd,Je,Jf,Jg,Jh,Ji,Jj,Jk,Jl,Jm,Jn,Jo,Jp,Jq,Jr,Js,Jt,Ju,Jv,Jw,Jx,Jy,Jz,J0,J1,J2,J3,J4,J5,J6,J7,J8,J9,Jba,Jbb,Jbc,Jbd,Jbe,Jbf,Jbg,Jbh,Jbi,Jbj,Jbk,Jbl,Jbm,Jbn,Jbo,Jbp,Jbq,Jbr,Jbs,Jbt,List.map,Gcg,Gdg,Gag,Gbg,List.replicate,Geg,Gfg,Ggg,true_and]
    rw [r_slice hL1 b_int b_none,cut_lo (by (first | lia | omega))]
    refine alloc_i fun s H₂ e2 _ hsv=>?_
    rw [show ((i:Int) + 1).toNat = i + 1 by (first | lia | omega),← List.map_drop] at hsv
    rw [r_srcL hsv]
    have eW := e.trans e2
    have hL2 := hL.ext eW
    obtain ⟨as,z,a1,a2,a3,a4⟩ := (hN.ext eW).row hxr.1 hxr.2
    refine loop_list (fun j ρ H₃=>(Ex1 fun r3=>An3 (ρ = [some (.ref a),some (.ref r),some (.int i),r3]) (H₃ = H₂) ((l.drop (i + 1)).find? (fun y=>!A x.toNat y.toNat) = ((l.drop (i + 1)).drop j).find? (fun y=>!A x.toNat y.toNat)))) ⟨_,rfl,rfl,by simp⟩ ?_ ?_ ?_
    · rintro j ρ H₃ ⟨r3,rfl,rfl,hj⟩; exact hsv
    · rintro j v ρ H₃ K' hv ⟨r3,rfl,rfl,hj⟩ hK'
      obtain ⟨y,hy,rfl⟩ := LI.at_ (a := r) hv
      have hyr := hin y (List.mem_of_mem_drop (List.mem_of_getElem? hy))
      rw [drop_cons hy,List.find?_cons] at hj
      simp (disch := first | decide | omega) only [Jb,Jc,Jd,Je,Jf,Jg,Jh,Ji,Jj,Jk,Jl,Jm,Jn,Jo,Jp,Jq,Jr,Js,Jt,Ju,Jv,Jw,Jx,Jy,Jz,J0,J1,J2,J3,J4,J5,J6,J7,J8,J9,Jba,Jbb,Jbc,Jbd,Jbe,Jbf,Jbg,Jbh,Jbi,Jbj,Jbk,Jbl,Jbm,Jbn,Jbo,Jbp,Jbq,Jbr,Jbs,Jbt,List.map,Gcg,Gdg,Gag,Gbg,List.replicate,Geg,Gfg,Ggg,true_and,f_law_untied_b1]
      refine i_ite (!A x.toNat y.toNat) (fun Q' h'=>?_) ?_
      · simp (disch := first | decide | omega) only [Jb,Jc,Jd,Je,Jf,Jg,Jh,Ji,Jj,Jk,Jl,Jm,Jn,Jo,Jp,Jq,Jr,Js,Jt,Ju,Jv,Jw,Jx,Jy,Jz,J0,J1,J2,J3,J4,J5,J6,J7,J8,J9,Jba,Jbb,Jbc,Jbd,Jbe,Jbf,Jbg,Jbh,Jbi,Jbj,Jbk,Jbl,Jbm,Jbn,Jbo,Jbp,Jbq,Jbr,Jbs,Jbt,List.map,Gcg,Gdg,Gag,Gbg,List.replicate,Geg,Gfg,Ggg,true_and,r_subL hL2 (Int.natCast_nonneg i) (LI.sub (a := r) hx),r_subL a1 hxr.1 a3,r_notIn a4,mem_adj hyr.1 hyr.2]
        exact h'
      split
      · rename_i hh
        simp (disch := first | decide | omega) only [Jb,Jc,Jd,Je,Jf,Jg,Jh,Ji,Jj,Jk,Jl,Jm,Jn,Jo,Jp,Jq,Jr,Js,Jt,Ju,Jv,Jw,Jx,Jy,Jz,J0,J1,J2,J3,J4,J5,J6,J7,J8,J9,Jba,Jbb,Jbc,Jbd,Jbe,Jbf,Jbg,Jbh,Jbi,Jbj,Jbk,Jbl,Jbm,Jbn,Jbo,Jbp,Jbq,Jbr,Jbs,Jbt,List.map,Gcg,Gdg,Gag,Gbg,List.replicate,Geg,Gfg,Ggg,true_and,r_subL hL2 (Int.natCast_nonneg i) (LI.sub (a := r) hx)]
        rw [hh] at hj
        simp only at hj
        rw [hj] at hf
        have := q _ eW
        rw [hf] at this
        exact this
      · rename_i hh
        simp (disch := first | decide | omega) only [Jb,Jc,Jd,Je,Jf,Jg,Jh,Ji,Jj,Jk,Jl,Jm,Jn,Jo,Jp,Jq,Jr,Js,Jt,Ju,Jv,Jw,Jx,Jy,Jz,J0,J1,J2,J3,J4,J5,J6,J7,J8,J9,Jba,Jbb,Jbc,Jbd,Jbe,Jbf,Jbg,Jbh,Jbi,Jbj,Jbk,Jbl,Jbm,Jbn,Jbo,Jbp,Jbq,Jbr,Jbs,Jbt,List.map,Gcg,Gdg,Gag,Gbg,List.replicate,Geg,Gfg,Ggg,true_and]
        rw [Bool.not_eq_true] at hh
        rw [hh] at hj
        exact hK' _ _ ⟨_,rfl,rfl,hj⟩
    · rintro ρ H₃ ⟨r3,rfl,rfl,hj⟩
      rw [List.length_map,List.drop_of_length_le (Nat.le_refl _),List.find?_nil] at hj
      rw [hj] at hf
      exact hK _ _ ⟨_,_,rfl,eW,hf⟩
  · rintro ρ H₁ ⟨r2,r3,rfl,e,hf⟩
    rw [Int.toNat_natCast,List.length_map,List.drop_of_length_le (Nat.le_refl _)] at hf
    have := q H₁ e
    rw [hf] at this
    try simp (disch := first | decide | omega) only [Jb,Jc,Jd,Je,Jf,Jg,Jh,Ji,Jj,Jk,Jl,Jm,Jn,Jo,Jp,Jq,Jr,Js,Jt,Ju,Jv,Jw,Jx,Jy,Jz,J0,J1,J2,J3,J4,J5,J6,J7,J8,J9,Jba,Jbb,Jbc,Jbd,Jbe,Jbf,Jbg,Jbh,Jbi,Jbj,Jbk,Jbl,Jbm,Jbn,Jbo,Jbp,Jbq,Jbr,Jbs,Jbt,List.map,Gcg,Gdg,Gag,Gbg,List.replicate,Geg,Gfg,Ggg,true_and]
    exact this
theorem s_lawFree (hU:G.fn "_law_untied" = some f_law_untied) (hG:G.fn "_law_free" = some f_law_free) {a m r:Nat} {A:Nat → Nat → Bool} {l:List Int} (hN:NearR H a m A) (hL:LI H r l) (hin:∀ x ∈ l,0 ≤ x ∧ x < m) (hl:l.length ≤ 60)
    (q:∀ H',Ext H H' → Q (.int ((ltg A l).getD (-1))) H'):callN G (n + 2) "_law_free" [.ref a,.ref r] H Q E := by
  refine call_of hG rfl ?_
  simp (disch := first | decide | omega) only [Jb,Jc,Jd,Je,Jf,Jg,Jh,Ji,Jj,Jk,Jl,Jm,Jn,Jo,Jp,Jq,Jr,Js,Jt,Ju,Jv,Jw,Jx,Jy,Jz,J0,J1,J2,J3,J4,J5,J6,J7,J8,J9,Jba,Jbb,Jbc,Jbd,Jbe,Jbf,Jbg,Jbh,Jbi,Jbj,Jbk,Jbl,Jbm,Jbn,Jbo,Jbp,Jbq,Jbr,Jbs,Jbt,List.map,Gcg,Gdg,Gag,Gbg,List.replicate,Geg,Gfg,Ggg,true_and,f_law_free]
  rw [t_for,c_val]
  simp (disch := first | decide | omega) only [Jb,Jc,Jd,Je,Jf,Jg,Jh,Ji,Jj,Jk,Jl,Jm,Jn,Jo,Jp,Jq,Jr,Js,Jt,Ju,Jv,Jw,Jx,Jy,Jz,J0,J1,J2,J3,J4,J5,J6,J7,J8,J9,Jba,Jbb,Jbc,Jbd,Jbe,Jbf,Jbg,Jbh,Jbi,Jbj,Jbk,Jbl,Jbm,Jbn,Jbo,Jbp,Jbq,Jbr,Jbs,Jbt,List.map,Gcg,Gdg,Gag,Gbg,List.replicate,Geg,Gfg,Ggg,true_and]
  rw [r_srcL hL]
  refine loop_list (fun i ρ H₁=>(Ex1 fun r2=>An3 (ρ = [some (.ref a),some (.ref r),r2]) (Ext H H₁) (l.find? (simpl A l) = (l.drop i).find? (simpl A l)))) ⟨_,rfl,Ext.refl,by simp⟩ ?_ ?_ ?_
  · rintro i ρ H₁ ⟨r2,rfl,e,hf⟩; exact hL.ext e
  · rintro i v ρ H₁ K hv hPt31 hK
    refine by_c fun no=>?_
    obtain ⟨r2,rfl,e,hf⟩ := hPt31
    refine no ?_;clear no
    refine by_c fun no=>?_
    obtain ⟨x,hx,rfl⟩ := LI.at_ (a := r) hv
    refine no ?_;clear no
    have hxr := hin x (List.mem_of_getElem? hx)
    rw [drop_cons hx,List.find?_cons] at hf
    have hL1 := hL.ext e
    refine by_c fun no=>?_
    obtain ⟨as,z,a1,a2,a3,a4⟩ := (hN.ext e).row hxr.1 hxr.2
    refine no ?_;clear no
    simp only [f_law_free_b1,J3,J2,List.set_cons_succ,List.set_cons_zero]
    rw [Ja,Jm,Jp]
    refine ⟨by rw [hU]; rfl,?_⟩
    rw [Jx,Jg]
    simp only [List.getElem?_cons_zero]
    rw [Jx,e_compIf,c_val]
    simp (disch := first | decide | omega) only [Jb,Jc,Jd,Je,Jf,Jg,Jh,Ji,Jj,Jk,Jl,Jm,Jn,Jo,Jp,Jq,Jr,Js,Jt,Ju,Jv,Jw,Jx,Jy,Jz,J0,J1,J2,J3,J4,J5,J6,J7,J8,J9,Jba,Jbb,Jbc,Jbd,Jbe,Jbf,Jbg,Jbh,Jbi,Jbj,Jbk,Jbl,Jbm,Jbn,Jbo,Jbp,Jbq,Jbr,Jbs,Jbt,List.map,Gcg,Gdg,Gag,Gbg,List.replicate,Geg,Gfg,Ggg,true_and]
    rw [r_srcL hL1]
    refine ⟨by simp [big]; (first | lia | omega),gather_sift (p := fun o=>A x.toNat o.toNat) hL1 (fun y hy K' hK'=>?_) ?_⟩
    · have hyr := hin y hy
      simp (disch := first | decide | omega) only [Jb,Jc,Jd,Je,Jf,Jg,Jh,Ji,Jj,Jk,Jl,Jm,Jn,Jo,Jp,Jq,Jr,Js,Jt,Ju,Jv,Jw,Jx,Jy,Jz,J0,J1,J2,J3,J4,J5,J6,J7,J8,J9,Jba,Jbb,Jbc,Jbd,Jbe,Jbf,Jbg,Jbh,Jbi,Jbj,Jbk,Jbl,Jbm,Jbn,Jbo,Jbp,Jbq,Jbr,Jbs,Jbt,List.map,Gcg,Gdg,Gag,Gbg,List.replicate,Geg,Gfg,Ggg,true_and,f_law_free_c1,r_subL a1 hxr.1 a3,r_in a4,mem_adj hyr.1 hyr.2]
      split
      · rename_i h; rw [if_pos h] at hK'; exact hK'
      · rename_i h; rw [if_neg h] at hK'; exact hK'
    refine alloc_i fun s H₂ e2 _ hL2=>?_
    (try dsimp only); (try simp (disch := first | decide | omega) only [Jb,Jc,Jd,Je,Jf,Jg,Jh,Ji,Jj,Jk,Jl,Jm,Jn,Jo,Jp,Jq,Jr,Js,Jt,Ju,Jv,Jw,Jx,Jy,Jz,J0,J1,J2,J3,J4,J5,J6,J7,J8,J9,Jba,Jbb,Jbc,Jbd,Jbe,Jbf,Jbg,Jbh,Jbi,Jbj,Jbk,Jbl,Jbm,Jbn,Jbo,Jbp,Jbq,Jbr,Jbs,Jbt,List.map,Gcg,Gdg,Gag,Gbg,List.replicate,Geg,Gfg,Ggg,true_and])
    refine s_lawUntied hU (hN.ext (e.trans e2)) (l := nbrs A l x) hL2 (Nat.le_trans (List.length_filter_le _ _) (by (first | lia | omega))) (fun y hy=>hin y (List.mem_filter.mp hy).1) fun H₃ e3=>?_
    have e13 := (e.trans e2).trans e3
    cases hfu:fu A (nbrs A l x) with
    | none =>
      (try dsimp only); (try simp (disch := first | decide | omega) only [Jb,Jc,Jd,Je,Jf,Jg,Jh,Ji,Jj,Jk,Jl,Jm,Jn,Jo,Jp,Jq,Jr,Js,Jt,Ju,Jv,Jw,Jx,Jy,Jz,J0,J1,J2,J3,J4,J5,J6,J7,J8,J9,Jba,Jbb,Jbc,Jbd,Jbe,Jbf,Jbg,Jbh,Jbi,Jbj,Jbk,Jbl,Jbm,Jbn,Jbo,Jbp,Jbq,Jbr,Jbs,Jbt,List.map,Gcg,Gdg,Gag,Gbg,List.replicate,Geg,Gfg,Ggg,true_and])
      simp only [if_true]
      have:simpl A l x = true := by unfold simpl; rw [hfu]; rfl
      rw [this] at hf
      have hq := q H₃ e13
      unfold ltg at hq
      rw [hf] at hq
      exact hq
    | some pr =>
      obtain ⟨y,z⟩ := pr
      intro a' ha'
      (try dsimp only); (try simp (disch := first | decide | omega) only [Jb,Jc,Jd,Je,Jf,Jg,Jh,Ji,Jj,Jk,Jl,Jm,Jn,Jo,Jp,Jq,Jr,Js,Jt,Ju,Jv,Jw,Jx,Jy,Jz,J0,J1,J2,J3,J4,J5,J6,J7,J8,J9,Jba,Jbb,Jbc,Jbd,Jbe,Jbf,Jbg,Jbh,Jbi,Jbj,Jbk,Jbl,Jbm,Jbn,Jbo,Jbp,Jbq,Jbr,Jbs,Jbt,List.map,Gcg,Gdg,Gag,Gbg,List.replicate,Geg,Gfg,Ggg,true_and])
      simp only [Bool.false_eq_true,if_false]
      have:simpl A l x = false := by unfold simpl; rw [hfu]; rfl
      rw [this] at hf
      exact hK _ _ ⟨_,rfl,e13.trans (Ext.upd ha'),hf⟩
  · rintro ρ H₁ hPt32
    refine by_c fun no=>?_
    obtain ⟨r2,rfl,e,hf⟩ := hPt32
    refine no ?_;clear no
    rw [List.length_map,List.drop_of_length_le (Nat.le_refl _),List.find?_nil] at hf
    have hq := q H₁ e
    unfold ltg at hq
    rw [hf] at hq
    try simp (disch := first | decide | omega) only [Jb,Jc,Jd,Je,Jf,Jg,Jh,Ji,Jj,Jk,Jl,Jm,Jn,Jo,Jp,Jq,Jr,Js,Jt,Ju,Jv,Jw,Jx,Jy,Jz,J0,J1,J2,J3,J4,J5,J6,J7,J8,J9,Jba,Jbb,Jbc,Jbd,Jbe,Jbf,Jbg,Jbh,Jbi,Jbj,Jbk,Jbl,Jbm,Jbn,Jbo,Jbp,Jbq,Jbr,Jbs,Jbt,List.map,Gcg,Gdg,Gag,Gbg,List.replicate,Geg,Gfg,Ggg,true_and]
    exact hq
theorem r_isList {a:Nat} {xs:List V} (h:H a = some (.list xs)):biOp (.isinst .list) [.ref a] H Q = Q (.bool true) H := by
  have e:isInst .list (.ref a) H = some true := by show (match H a with | some o=>isInstO o .list | none=>none) = _; rw [h]; rfl
  show (plainTy .list = true ∧ (match isInst .list (.ref a) H with | some r=>Q (.bool r) H | none=>False)) = _
  rw [e]
  exact propext ⟨fun h=>h.2,fun h=>⟨rfl,h⟩⟩
theorem r_isTuple {a:Nat} {xs:List V} (h:H a = some (.tuple xs)):biOp (.isinst .tuple) [.ref a] H Q = Q (.bool true) H := by
  have e:isInst .tuple (.ref a) H = some true := by show (match H a with | some o=>isInstO o .tuple | none=>none) = _; rw [h]; rfl
  show (plainTy .tuple = true ∧ (match isInst .tuple (.ref a) H with | some r=>Q (.bool r) H | none=>False)) = _
  rw [e]
  exact propext ⟨fun h=>h.2,fun h=>⟨rfl,h⟩⟩
theorem r_isInt {i:Int}:biOp (.isinst .int) [.int i] H Q = Q (.bool true) H := propext ⟨fun h=>h.2,fun h=>⟨rfl,h⟩⟩
theorem r_isBoolI {i:Int}:biOp (.isinst .bool) [.int i] H Q = Q (.bool false) H := propext ⟨fun h=>h.2,fun h=>⟨rfl,h⟩⟩
theorem s_whole (hG:G.fn "_law_whole" = some f_law_whole) {i:Int} (q:Q (.bool true) H):callN G (n + 1) "_law_whole" [.int i] H Q E := by
  refine call_of hG rfl ?_
  simp (disch := first | decide | omega) only [Jb,Jc,Jd,Je,Jf,Jg,Jh,Ji,Jj,Jk,Jl,Jm,Jn,Jo,Jp,Jq,Jr,Js,Jt,Ju,Jv,Jw,Jx,Jy,Jz,J0,J1,J2,J3,J4,J5,J6,J7,J8,J9,Jba,Jbb,Jbc,Jbd,Jbe,Jbf,Jbg,Jbh,Jbi,Jbj,Jbk,Jbl,Jbm,Jbn,Jbo,Jbp,Jbq,Jbr,Jbs,Jbt,List.map,Gcg,Gdg,Gag,Gbg,List.replicate,Geg,Gfg,Ggg,true_and,f_law_whole,r_isInt,r_isBoolI]
  simpa using q
theorem s_numbers (hW:G.fn "_law_whole" = some f_law_whole) (hG:G.fn "_law_numbers" = some f_law_numbers) {a b:Nat} {l:List Int} (ha:LI H a l) (hb:LI H b l) (hl:l.length ≤ 4000) (q:Q (.bool true) H):callN G (n + 2) "_law_numbers" [.ref a,.ref b] H Q E := by
  refine call_of hG rfl ?_
  simp (disch := first | decide | omega) only [Jb,Jc,Jd,Je,Jf,Jg,Jh,Ji,Jj,Jk,Jl,Jm,Jn,Jo,Jp,Jq,Jr,Js,Jt,Ju,Jv,Jw,Jx,Jy,Jz,J0,J1,J2,J3,J4,J5,J6,J7,J8,J9,Jba,Jbb,Jbc,Jbd,Jbe,Jbf,Jbg,Jbh,Jbi,Jbj,Jbk,Jbl,Jbm,Jbn,Jbo,Jbp,Jbq,Jbr,Jbs,Jbt,List.map,Gcg,Gdg,Gag,Gbg,List.replicate,Geg,Gfg,Ggg,true_and,f_law_numbers]
  refine i_ite false (fun Q' h'=>?_) ?_
  · simp (disch := first | decide | omega) only [Jb,Jc,Jd,Je,Jf,Jg,Jh,Ji,Jj,Jk,Jl,Jm,Jn,Jo,Jp,Jq,Jr,Js,Jt,Ju,Jv,Jw,Jx,Jy,Jz,J0,J1,J2,J3,J4,J5,J6,J7,J8,J9,Jba,Jbb,Jbc,Jbd,Jbe,Jbf,Jbg,Jbh,Jbi,Jbj,Jbk,Jbl,Jbm,Jbn,Jbo,Jbp,Jbq,Jbr,Jbs,Jbt,List.map,Gcg,Gdg,Gag,Gbg,List.replicate,Geg,Gfg,Ggg,true_and,r_isList ha,r_lenL ha,r_lenL hb]
    simpa using h'
  rw [if_neg (by decide)]
  simp (disch := first | decide | omega) only [Jb,Jc,Jd,Je,Jf,Jg,Jh,Ji,Jj,Jk,Jl,Jm,Jn,Jo,Jp,Jq,Jr,Js,Jt,Ju,Jv,Jw,Jx,Jy,Jz,J0,J1,J2,J3,J4,J5,J6,J7,J8,J9,Jba,Jbb,Jbc,Jbd,Jbe,Jbf,Jbg,Jbh,Jbi,Jbj,Jbk,Jbl,Jbm,Jbn,Jbo,Jbp,Jbq,Jbr,Jbs,Jbt,List.map,Gcg,Gdg,Gag,Gbg,List.replicate,Geg,Gfg,Ggg,true_and]
  rw [t_for,c_range]
  simp (disch := first | decide | omega) only [Jb,Jc,Jd,Je,Jf,Jg,Jh,Ji,Jj,Jk,Jl,Jm,Jn,Jo,Jp,Jq,Jr,Js,Jt,Ju,Jv,Jw,Jx,Jy,Jz,J0,J1,J2,J3,J4,J5,J6,J7,J8,J9,Jba,Jbb,Jbc,Jbd,Jbe,Jbf,Jbg,Jbh,Jbi,Jbj,Jbk,Jbl,Jbm,Jbn,Jbo,Jbp,Jbq,Jbr,Jbs,Jbt,List.map,Gcg,Gdg,Gag,Gbg,List.replicate,Geg,Gfg,Ggg,true_and,r_lenL hb]
  rw [Jbq (by (first | lia | omega)) (by rw [List.length_map]; (first | lia | omega))]
  refine loop_range0 (fun i ρ H₁=>∃ r2,ρ = [some (.ref a),some (.ref b),r2] ∧ H₁ = H) ⟨_,rfl,rfl⟩ ?_ ?_
  · rintro i ρ H₁ K hi ⟨r2,rfl,rfl⟩ hK
    have hi':i < l.length := by simpa using hi
    have hx := List.getElem?_eq_getElem hi'
    generalize l[i] = x at hx
    simp (disch := first | decide | omega) only [Jb,Jc,Jd,Je,Jf,Jg,Jh,Ji,Jj,Jk,Jl,Jm,Jn,Jo,Jp,Jq,Jr,Js,Jt,Ju,Jv,Jw,Jx,Jy,Jz,J0,J1,J2,J3,J4,J5,J6,J7,J8,J9,Jba,Jbb,Jbc,Jbd,Jbe,Jbf,Jbg,Jbh,Jbi,Jbj,Jbk,Jbl,Jbm,Jbn,Jbo,Jbp,Jbq,Jbr,Jbs,Jbt,List.map,Gcg,Gdg,Gag,Gbg,List.replicate,Geg,Gfg,Ggg,true_and,f_law_numbers_b1]
    refine i_ite false (fun Q' h'=>?_) ?_
    · simp (disch := first | decide | omega) only [Jb,Jc,Jd,Je,Jf,Jg,Jh,Ji,Jj,Jk,Jl,Jm,Jn,Jo,Jp,Jq,Jr,Js,Jt,Ju,Jv,Jw,Jx,Jy,Jz,J0,J1,J2,J3,J4,J5,J6,J7,J8,J9,Jba,Jbb,Jbc,Jbd,Jbe,Jbf,Jbg,Jbh,Jbi,Jbj,Jbk,Jbl,Jbm,Jbn,Jbo,Jbp,Jbq,Jbr,Jbs,Jbt,List.map,Gcg,Gdg,Gag,Gbg,List.replicate,Geg,Gfg,Ggg,true_and,hW,r_subL ha (Int.natCast_nonneg i) (LI.sub (a := a) hx)]
      refine s_whole hW ?_
      (try dsimp only); (try simp (disch := first | decide | omega) only [Jb,Jc,Jd,Je,Jf,Jg,Jh,Ji,Jj,Jk,Jl,Jm,Jn,Jo,Jp,Jq,Jr,Js,Jt,Ju,Jv,Jw,Jx,Jy,Jz,J0,J1,J2,J3,J4,J5,J6,J7,J8,J9,Jba,Jbb,Jbc,Jbd,Jbe,Jbf,Jbg,Jbh,Jbi,Jbj,Jbk,Jbl,Jbm,Jbn,Jbo,Jbp,Jbq,Jbr,Jbs,Jbt,List.map,Gcg,Gdg,Gag,Gbg,List.replicate,Geg,Gfg,Ggg,true_and])
      simp only [Bool.not_true,Bool.false_eq_true,if_false]
      simp (disch := first | decide | omega) only [Jb,Jc,Jd,Je,Jf,Jg,Jh,Ji,Jj,Jk,Jl,Jm,Jn,Jo,Jp,Jq,Jr,Js,Jt,Ju,Jv,Jw,Jx,Jy,Jz,J0,J1,J2,J3,J4,J5,J6,J7,J8,J9,Jba,Jbb,Jbc,Jbd,Jbe,Jbf,Jbg,Jbh,Jbi,Jbj,Jbk,Jbl,Jbm,Jbn,Jbo,Jbp,Jbq,Jbr,Jbs,Jbt,List.map,Gcg,Gdg,Gag,Gbg,List.replicate,Geg,Gfg,Ggg,true_and,r_subL ha (Int.natCast_nonneg i) (LI.sub (a := a) hx),r_subL hb (Int.natCast_nonneg i) (LI.sub (a := a) hx)]
      simpa using h'
    rw [if_neg (by decide)]
    simp (disch := first | decide | omega) only [Jb,Jc,Jd,Je,Jf,Jg,Jh,Ji,Jj,Jk,Jl,Jm,Jn,Jo,Jp,Jq,Jr,Js,Jt,Ju,Jv,Jw,Jx,Jy,Jz,J0,J1,J2,J3,J4,J5,J6,J7,J8,J9,Jba,Jbb,Jbc,Jbd,Jbe,Jbf,Jbg,Jbh,Jbi,Jbj,Jbk,Jbl,Jbm,Jbn,Jbo,Jbp,Jbq,Jbr,Jbs,Jbt,List.map,Gcg,Gdg,Gag,Gbg,List.replicate,Geg,Gfg,Ggg,true_and]
    exact hK _ _ ⟨_,rfl,rfl⟩
  · rintro ρ H₁ ⟨r2,rfl,rfl⟩
    try simp (disch := first | decide | omega) only [Jb,Jc,Jd,Je,Jf,Jg,Jh,Ji,Jj,Jk,Jl,Jm,Jn,Jo,Jp,Jq,Jr,Js,Jt,Ju,Jv,Jw,Jx,Jy,Jz,J0,J1,J2,J3,J4,J5,J6,J7,J8,J9,Jba,Jbb,Jbc,Jbd,Jbe,Jbf,Jbg,Jbh,Jbi,Jbj,Jbk,Jbl,Jbm,Jbn,Jbo,Jbp,Jbq,Jbr,Jbs,Jbt,List.map,Gcg,Gdg,Gag,Gbg,List.replicate,Geg,Gfg,Ggg,true_and]
    exact q
theorem s_stays (B:Base G) (hB:G.fn "Web.beside" = some f_Web_beside_01) (hW:G.fn "_law_whole" = some f_law_whole) (hN:G.fn "_law_numbers" = some f_law_numbers) (hG:G.fn "_law_stays" = some f_law_stays) {w a m:Nat} {A:Nat → Nat → Bool} (hm:m ≤ 60) (hWeb:WebR H w m A) (hNear:NearR H a m A) (q:∀ H',Ext H H' → Q (.bool true) H') :
    callN G (n + 3) "_law_stays" [.ref w,.ref a] H Q E := by
  refine call_of hG rfl ?_
  refine by_c fun no=>?_
  obtain ⟨as,n1,n2,n3⟩ := hNear
  refine no ?_;clear no
  have hNear:NearR H a m A := ⟨as,n1,n2,n3⟩
  simp (disch := first | decide | omega) only [Jb,Jc,Jd,Je,Jf,Jg,Jh,Ji,Jj,Jk,Jl,Jm,Jn,Jo,Jp,Jq,Jr,Js,Jt,Ju,Jv,Jw,Jx,Jy,Jz,J0,J1,J2,J3,J4,J5,J6,J7,J8,J9,Jba,Jbb,Jbc,Jbd,Jbe,Jbf,Jbg,Jbh,Jbi,Jbj,Jbk,Jbl,Jbm,Jbn,Jbo,Jbp,Jbq,Jbr,Jbs,Jbt,List.map,Gcg,Gdg,Gag,Gbg,List.replicate,Geg,Gfg,Ggg,true_and,f_law_stays]
  rw [t_for,c_range]
  simp (disch := first | decide | omega) only [Jb,Jc,Jd,Je,Jf,Jg,Jh,Ji,Jj,Jk,Jl,Jm,Jn,Jo,Jp,Jq,Jr,Js,Jt,Ju,Jv,Jw,Jx,Jy,Jz,J0,J1,J2,J3,J4,J5,J6,J7,J8,J9,Jba,Jbb,Jbc,Jbd,Jbe,Jbf,Jbg,Jbh,Jbi,Jbj,Jbk,Jbl,Jbm,Jbn,Jbo,Jbp,Jbq,Jbr,Jbs,Jbt,List.map,Gcg,Gdg,Gag,Gbg,List.replicate,Geg,Gfg,Ggg,true_and,r_lenL n1]
  rw [Jbq (by (first | lia | omega)) (by rw [List.length_map]; (first | lia | omega))]
  refine loop_range0 (fun i ρ H₁=>∃ r2,ρ = [some (.ref w),some (.ref a),r2] ∧ Ext H H₁) ⟨_,rfl,Ext.refl⟩ ?_ ?_
  · rintro i ρ H₁ K hi hPt33 hK
    refine by_c fun no=>?_
    obtain ⟨r2,rfl,e⟩ := hPt33
    refine no ?_;clear no
    have hi':i < m := by rw [Int.toNat_natCast,List.length_map,n2] at hi; exact hi
    refine by_c fun no=>?_
    obtain ⟨d,rs,w1,w2,w3⟩ := hWeb.ext e
    refine no ?_;clear no
    simp only [f_law_stays_b1,J3,J2,List.set_cons_succ,List.set_cons_zero]
    rw [Ja]
    simp (disch := first | decide | omega) only [Jb,Jc,Jd,Je,Jf,Jg,Jh,Ji,Jj,Jk,Jl,Jm,Jn,Jo,Jp,Jq,Jr,Js,Jt,Ju,Jv,Jw,Jx,Jy,Jz,J0,J1,J2,J3,J4,J5,J6,J7,J8,J9,Jba,Jbb,Jbc,Jbd,Jbe,Jbf,Jbg,Jbh,Jbi,Jbj,Jbk,Jbl,Jbm,Jbn,Jbo,Jbp,Jbq,Jbr,Jbs,Jbt,List.map,Gcg,Gdg,Gag,Gbg,List.replicate,Geg,Gfg,Ggg,true_and,e_meth,w1,w2,hB,hN]
    refine s_beside B hB ⟨d,rs,w1,w2,w3⟩ (by (first | lia | omega)) (by (first | lia | omega)) fun b H₂ e2 _ hb=>?_
    refine by_c fun no=>?_
    obtain ⟨as',z,a1,a2,a3,a4⟩ := (hNear.ext (e.trans e2)).row (x := i) (by (first | lia | omega)) (by (first | lia | omega))
    refine no ?_;clear no
    (try dsimp only); (try simp (disch := first | decide | omega) only [Jb,Jc,Jd,Je,Jf,Jg,Jh,Ji,Jj,Jk,Jl,Jm,Jn,Jo,Jp,Jq,Jr,Js,Jt,Ju,Jv,Jw,Jx,Jy,Jz,J0,J1,J2,J3,J4,J5,J6,J7,J8,J9,Jba,Jbb,Jbc,Jbd,Jbe,Jbf,Jbg,Jbh,Jbi,Jbj,Jbk,Jbl,Jbm,Jbn,Jbo,Jbp,Jbq,Jbr,Jbs,Jbt,List.map,Gcg,Gdg,Gag,Gbg,List.replicate,Geg,Gfg,Ggg,true_and])
    rw [r_subL a1 (by (first | lia | omega)) a3]
    refine s_numbers hW hN hb a4 (Nat.le_trans adjRow_len (by (first | lia | omega))) ?_
    (try dsimp only); (try simp (disch := first | decide | omega) only [Jb,Jc,Jd,Je,Jf,Jg,Jh,Ji,Jj,Jk,Jl,Jm,Jn,Jo,Jp,Jq,Jr,Js,Jt,Ju,Jv,Jw,Jx,Jy,Jz,J0,J1,J2,J3,J4,J5,J6,J7,J8,J9,Jba,Jbb,Jbc,Jbd,Jbe,Jbf,Jbg,Jbh,Jbi,Jbj,Jbk,Jbl,Jbm,Jbn,Jbo,Jbp,Jbq,Jbr,Jbs,Jbt,List.map,Gcg,Gdg,Gag,Gbg,List.replicate,Geg,Gfg,Ggg,true_and])
    simp only [Bool.not_true,Bool.false_eq_true,if_false]
    exact hK _ _ ⟨_,rfl,e.trans e2⟩
  · rintro ρ H₁ hPt34
    refine by_c fun no=>?_
    obtain ⟨r2,rfl,e⟩ := hPt34
    refine no ?_;clear no
    try simp (disch := first | decide | omega) only [Jb,Jc,Jd,Je,Jf,Jg,Jh,Ji,Jj,Jk,Jl,Jm,Jn,Jo,Jp,Jq,Jr,Js,Jt,Ju,Jv,Jw,Jx,Jy,Jz,J0,J1,J2,J3,J4,J5,J6,J7,J8,J9,Jba,Jbb,Jbc,Jbd,Jbe,Jbf,Jbg,Jbh,Jbi,Jbj,Jbk,Jbl,Jbm,Jbn,Jbo,Jbp,Jbq,Jbr,Jbs,Jbt,List.map,Gcg,Gdg,Gag,Gbg,List.replicate,Geg,Gfg,Ggg,true_and]
    exact q H₁ e
set_option linter.all false
noncomputable def bh (A:Nat → Nat → Bool) (o:List Int) (p:Int):List Int := nbrs A (o.drop (o.idxOf p + 1)) p
noncomputable def IsOrd (m:Nat) (o:List Int):Prop := sortI o = rangeI m
theorem IsOrd.perm {m:Nat} {o:List Int} (h:IsOrd m o):o.Perm (rangeI m) := by
  have := sortI_perm o
  rw [h] at this
  exact this.symm
theorem IsOrd.len {m:Nat} {o:List Int} (h:IsOrd m o):o.length = m := by rw [h.perm.length_eq,rangeI_len]
theorem IsOrd.mem {m:Nat} {o:List Int} (h:IsOrd m o) {x:Int}:x ∈ o ↔ 0 ≤ x ∧ x < m := by rw [h.perm.mem_iff,rangeI_mem]
theorem IsOrd.nodup {m:Nat} {o:List Int} (h:IsOrd m o):o.Nodup := h.perm.nodup_iff.mpr rangeI_nodup
theorem isOrd_of {m:Nat} {o:List Int} (h1:o.Nodup) (h2:∀ x,x ∈ o ↔ 0 ≤ x ∧ x < m):IsOrd m o :=
  lt_ext (sortI_lt h1) rangeI_lt fun x=>by rw [sortI_mem,h2,rangeI_mem]
theorem idx_at {o:List Int} {j:Nat} {p:Int} (h:o.Nodup) (hj:o[j]? = some p):o.idxOf p = j := by
  have hm := List.mem_of_getElem? hj
  have hlt := List.idxOf_lt_length_of_mem hm
  refine nodup_getI h (x := p) ?_ hj
  rw [List.getElem?_eq_getElem hlt,List.getElem_idxOf]
theorem bh_at {A:Nat → Nat → Bool} {o:List Int} {j:Nat} {p:Int} (h:o.Nodup) (hj:o[j]? = some p):bh A o p = nbrs A (o.drop (j + 1)) p := by
  unfold bh; rw [idx_at h hj]
theorem bh_mem {A:Nat → Nat → Bool} {o:List Int} {p x:Int} (h:x ∈ bh A o p):x ∈ o := List.mem_of_mem_drop (List.mem_filter.mp h).1
theorem bh_len {A:Nat → Nat → Bool} {o:List Int} {p:Int}:(bh A o p).length ≤ o.length - 1 := by
  unfold bh nbrs
  refine Nat.le_trans (List.length_filter_le _ _) ?_
  rw [List.length_drop]; omega
noncomputable def Peo (A:Nat → Nat → Bool) (o:List Int):Prop := ∀ p ∈ o,fu A (bh A o p) = none
noncomputable def gp (A:Nat → Nat → Bool) (o:List Int):Option (Int × Int × Int) := o.findSome? fun p=>(fu A (bh A o p)).map fun q=>(p,q.1,q.2)
theorem gp_none {A:Nat → Nat → Bool} {o:List Int}:gp A o = none ↔ Peo A o := by
  unfold gp Peo
  rw [List.findSome?_eq_none_iff]
  simp
variable {G:GEnv} {n:Nat} {H H':AH} {Q:Post} {E:EP} {C:CS} {ρ:Loc}
theorem loop_gen {g:AH → Prop} {ys:List V} {t:Nat} {body:Loc → AH → (Loc → AH → Prop) → Prop} {N:Loc → AH → Prop} (I:Nat → Loc → AH → Prop) (h0:I 0 ρ H) (hg:∀ i ρ H,I i ρ H → g H)
    (step:∀ i x ρ H K,ys[i]? = some x → I i ρ H → (∀ ρ'' H'',I (i + 1) ρ'' H'' → K ρ'' H'') → body (ρ.set t (some x)) H K) (fin:∀ ρ H,I ys.length ρ H → N ρ H) :
    loop g (.one t) body N (ys.map .v) ρ H := by
  refine loop_ind (k := 0) I h0 (fun i x ρ H K hx hI hK=>⟨hg _ _ _ hI,?_⟩) fun ρ H hI=>⟨hg _ _ _ hI,fin ρ H (by simpa using hI)⟩
  rw [List.getElem?_map] at hx
  obtain ⟨j,hj,rfl⟩ := Option.map_eq_some_iff.mp hx
  exact step i j ρ H K hj (by simpa using hI) fun ρ'' H'' h=>hK ρ'' H'' (by simpa using h)
theorem r_index {a:Nat} {l:List Int} {k:Int} (h:LI H a l) (hk:k ∈ l):lmOp .index (.ref a) [.int k] H Q = Q (.int (l.idxOf k)) H := by
  unfold LI at h
  delta lmOp; dsimp only; (first | delta appendM | delta clearM | delta extendM | delta indexM | delta removeM); dsimp only; rw [h]; (try dsimp only); rw [ints_map]; (try dsimp only)
  exact propext ⟨fun h=>h.2,fun q=>⟨hk,q⟩⟩
structure Fns2 (G:GEnv):Prop where
  fns:Fns G
  isOrder:G.fn "is_order" = some f_is_order
  needOrder:G.fn "need_order" = some f_need_order
  behind:G.fn "those_behind" = some f_those_behind
  gap:G.fn "gap" = some f_gap
  needWhole:G.fn "need_whole" = some f_need_whole
  crowdAt:G.fn "crowd_at" = some f_crowd_at
  isFull:G.fn "is_full" = some f_is_full
  fullCrowds:G.fn "full_crowds" = some f_full_crowds
  leastFree:G.fn "least_free" = some f_least_free
  coloured:G.fn "coloured" = some f_coloured
theorem s_behind (F:Fns2 G) {w m r:Nat} {A:Nat → Nat → Bool} {o:List Int} {p:Int} (hm:m ≤ 60) (hW:WebR H w m A) (hL:LI H r o) (ho:IsOrd m o) (hp:p ∈ o)
    (q:∀ a H',Ext H H' → H a = none → LI H' a (bh A o p) → Q (.ref a) H'):callN G (n + 3) "those_behind" [.ref w,.ref r,.int p] H Q E := by
  have B := F.fns.base
  have hpr := ho.mem.mp hp
  refine call_of F.behind rfl ?_
  simp (disch := first | decide | omega) only [Jb,Jc,Jd,Je,Jf,Jg,Jh,Ji,Jj,Jk,Jl,Jm,Jn,Jo,Jp,Jq,Jr,Js,Jt,Ju,Jv,Jw,Jx,Jy,Jz,J0,J1,J2,J3,J4,J5,J6,J7,J8,J9,Jba,Jbb,Jbc,Jbd,Jbe,Jbf,Jbg,Jbh,Jbi,Jbj,Jbk,Jbl,Jbm,Jbn,Jbo,Jbp,Jbq,Jbr,Jbs,Jbt,List.map,Gcg,Gdg,Gag,Gbg,List.replicate,Geg,Gfg,Ggg,true_and,f_those_behind,e_lm,r_kindL hL,r_index hL hp]
  rw [e_compIf,c_val]
  simp (disch := first | decide | omega) only [Jb,Jc,Jd,Je,Jf,Jg,Jh,Ji,Jj,Jk,Jl,Jm,Jn,Jo,Jp,Jq,Jr,Js,Jt,Ju,Jv,Jw,Jx,Jy,Jz,J0,J1,J2,J3,J4,J5,J6,J7,J8,J9,Jba,Jbb,Jbc,Jbd,Jbe,Jbf,Jbg,Jbh,Jbi,Jbj,Jbk,Jbl,Jbm,Jbn,Jbo,Jbp,Jbq,Jbr,Jbs,Jbt,List.map,Gcg,Gdg,Gag,Gbg,List.replicate,Geg,Gfg,Ggg,true_and]
  rw [r_slice hL b_int b_none,cut_lo (by (first | lia | omega))]
  refine alloc_i fun s H₁ e1 _ v1=>?_
  rw [show ((o.idxOf p:Int) + 1).toNat = o.idxOf p + 1 by (first | lia | omega),← List.map_drop] at v1
  rw [r_srcL v1]
  refine by_c fun no=>?_
  obtain ⟨d,rs,w1,w2,w3⟩ := hW.ext e1
  refine no ?_;clear no
  refine ⟨by simp [big,ho.len]; (first | lia | omega),?_⟩
  refine (s_nbrs (c := f_those_behind_c1) B ⟨d,rs,w1,w2,w3⟩ (show LI H₁ s (o.drop (o.idxOf p + 1)) from v1) (fun x hx=>ho.mem.mp (List.mem_of_mem_drop hx)) hpr (by rw [List.length_drop,ho.len]; (first | lia | omega)) (fun y K' h0 h1 hK'=>?_) (fun a H₂ e2 n2 hL2=>?_)).2
  · simp (disch := first | decide | omega) only [Jb,Jc,Jd,Je,Jf,Jg,Jh,Ji,Jj,Jk,Jl,Jm,Jn,Jo,Jp,Jq,Jr,Js,Jt,Ju,Jv,Jw,Jx,Jy,Jz,J0,J1,J2,J3,J4,J5,J6,J7,J8,J9,Jba,Jbb,Jbc,Jbd,Jbe,Jbf,Jbg,Jbh,Jbi,Jbj,Jbk,Jbl,Jbm,Jbn,Jbo,Jbp,Jbq,Jbr,Jbs,Jbt,List.map,Gcg,Gdg,Gag,Gbg,List.replicate,Geg,Gfg,Ggg,true_and,f_those_behind_c1,e_meth,w1,w2,B.tied]
    exact s_tied B ⟨d,rs,w1,w2,w3⟩ hpr.1 hpr.2 h0 h1 hK'
  · exact q a H₂ (e1.trans e2) (e1.isNone n2) hL2
theorem s_isOrder (F:Fns2 G) {w m r:Nat} {A:Nat → Nat → Bool} {o:List Int} (hm:m ≤ 60) (hW:WebR H w m A) (hL:LI H r o) (hl:o.length < 64)
    (q:∀ H',Ext H H' → Q (.bool (decide (sortI o = rangeI m))) H'):callN G (n + 1) "is_order" [.ref w,.ref r] H Q E := by
  refine call_of F.isOrder rfl ?_
  simp (disch := first | decide | omega) only [Jb,Jc,Jd,Je,Jf,Jg,Jh,Ji,Jj,Jk,Jl,Jm,Jn,Jo,Jp,Jq,Jr,Js,Jt,Ju,Jv,Jw,Jx,Jy,Jz,J0,J1,J2,J3,J4,J5,J6,J7,J8,J9,Jba,Jbb,Jbc,Jbd,Jbe,Jbf,Jbg,Jbh,Jbi,Jbj,Jbk,Jbl,Jbm,Jbn,Jbo,Jbp,Jbq,Jbr,Jbs,Jbt,List.map,Gcg,Gdg,Gag,Gbg,List.replicate,Geg,Gfg,Ggg,true_and,f_is_order,r_sortL hL hl]
  refine alloc_i fun s H₁ e1 _ v1=>?_
  obtain ⟨d,rs,w1,w2,w3⟩ := hW.ext e1
  (try dsimp only); (try simp (disch := first | decide | omega) only [Jb,Jc,Jd,Je,Jf,Jg,Jh,Ji,Jj,Jk,Jl,Jm,Jn,Jo,Jp,Jq,Jr,Js,Jt,Ju,Jv,Jw,Jx,Jy,Jz,J0,J1,J2,J3,J4,J5,J6,J7,J8,J9,Jba,Jbb,Jbc,Jbd,Jbe,Jbf,Jbg,Jbh,Jbi,Jbj,Jbk,Jbl,Jbm,Jbn,Jbo,Jbp,Jbq,Jbr,Jbs,Jbt,List.map,Gcg,Gdg,Gag,Gbg,List.replicate,Geg,Gfg,Ggg,true_and])
  simp (disch := (first | lia | omega)) only [r_attr w1 w2 (show aget [(Att.many,V.int m),(Att.rows,V.ref rs)] .many = some (.int m) from rfl),Jbs]
  refine alloc_i fun s2 H₂ e2 _ v2=>?_
  rw [Int.toNat_natCast,rangeI_map] at v2
  (try dsimp only)
  rw [r_eqL (l := sortI o) (l' := rangeI m) (e2 _ _ v1) v2]
  exact q H₂ (e1.trans e2)
theorem s_needOrder (F:Fns2 G) {w m r:Nat} {A:Nat → Nat → Bool} {o:List Int} (hm:m ≤ 60) (hW:WebR H w m A) (hL:LI H r o) (ho:IsOrd m o)
    (q:∀ H',Ext H H' → Q .none H'):callN G (n + 2) "need_order" [.ref w,.ref r] H Q E := by
  refine call_of F.needOrder rfl ?_
  simp only [f_need_order,List.map,List.replicate,List.cons_append,List.nil_append]
  rw [J3,Ja]
  simp (disch := first | decide | omega) only [Jb,Jc,Jd,Je,Jf,Jg,Jh,Ji,Jj,Jk,Jl,Jm,Jn,Jo,Jp,Jq,Jr,Js,Jt,Ju,Jv,Jw,Jx,Jy,Jz,J0,J1,J2,J3,J4,J5,J6,J7,J8,J9,Jba,Jbb,Jbc,Jbd,Jbe,Jbf,Jbg,Jbh,Jbi,Jbj,Jbk,Jbl,Jbm,Jbn,Jbo,Jbp,Jbq,Jbr,Jbs,Jbt,List.map,Gcg,Gdg,Gag,Gbg,List.replicate,Geg,Gfg,Ggg,true_and,F.isOrder]
  refine s_isOrder F hm hW hL (by rw [ho.len]; (first | lia | omega)) fun H₁ e1=>?_
  rw [decide_eq_true (show sortI o = rangeI m from ho)]
  (try dsimp only); (try simp (disch := first | decide | omega) only [Jb,Jc,Jd,Je,Jf,Jg,Jh,Ji,Jj,Jk,Jl,Jm,Jn,Jo,Jp,Jq,Jr,Js,Jt,Ju,Jv,Jw,Jx,Jy,Jz,J0,J1,J2,J3,J4,J5,J6,J7,J8,J9,Jba,Jbb,Jbc,Jbd,Jbe,Jbf,Jbg,Jbh,Jbi,Jbj,Jbk,Jbl,Jbm,Jbn,Jbo,Jbp,Jbq,Jbr,Jbs,Jbt,List.map,Gcg,Gdg,Gag,Gbg,List.replicate,Geg,Gfg,Ggg,true_and])
  simp only [Bool.not_true,Bool.false_eq_true,if_false]
  exact q H₁ e1
theorem s_gap (F:Fns2 G) {w m r:Nat} {A:Nat → Nat → Bool} {o:List Int} (hm:m ≤ 60) (hW:WebR H w m A) (hL:LI H r o) (ho:IsOrd m o)
    (q:∀ H',Ext H H' → match gp A o with | none=>Q .none H' | some (p,x,y)=>∀ a,H' a = none → Q (.ref a) (upd H' a (.tuple [.int p,.int x,.int y]))):callN G (n + 4) "gap" [.ref w,.ref r] H Q E := by
  refine call_of F.gap rfl ?_
  simp only [f_gap,List.map,List.replicate,List.cons_append,List.nil_append]
  refine seq (fun ρ H₁=>ρ = [some (.ref w),some (.ref r),none,none] ∧ Ext H H₁) (fun N hN=>?_) ?_
  · simp (disch := first | decide | omega) only [Jb,Jc,Jd,Je,Jf,Jg,Jh,Ji,Jj,Jk,Jl,Jm,Jn,Jo,Jp,Jq,Jr,Js,Jt,Ju,Jv,Jw,Jx,Jy,Jz,J0,J1,J2,J3,J4,J5,J6,J7,J8,J9,Jba,Jbb,Jbc,Jbd,Jbe,Jbf,Jbg,Jbh,Jbi,Jbj,Jbk,Jbl,Jbm,Jbn,Jbo,Jbp,Jbq,Jbr,Jbs,Jbt,List.map,Gcg,Gdg,Gag,Gbg,List.replicate,Geg,Gfg,Ggg,true_and,F.needOrder]
    exact s_needOrder F hm hW hL ho fun H₁ e1=>hN _ _ ⟨rfl,e1⟩
  rintro _ H₀ ⟨rfl,e0⟩
  rw [J3,t_for,c_val]
  simp (disch := first | decide | omega) only [Jb,Jc,Jd,Je,Jf,Jg,Jh,Ji,Jj,Jk,Jl,Jm,Jn,Jo,Jp,Jq,Jr,Js,Jt,Ju,Jv,Jw,Jx,Jy,Jz,J0,J1,J2,J3,J4,J5,J6,J7,J8,J9,Jba,Jbb,Jbc,Jbd,Jbe,Jbf,Jbg,Jbh,Jbi,Jbj,Jbk,Jbl,Jbm,Jbn,Jbo,Jbp,Jbq,Jbr,Jbs,Jbt,List.map,Gcg,Gdg,Gag,Gbg,List.replicate,Geg,Gfg,Ggg,true_and]
  rw [r_srcL (hL.ext e0)]
  refine loop_list (fun i ρ H₁=>(Ex2 fun r2 r3=>ρ = [some (.ref w),some (.ref r),r2,r3] ∧ Ext H H₁ ∧ gp A o = (o.drop i).findSome? fun p=>(fu A (bh A o p)).map fun q=>(p,q.1,q.2))) ⟨_,_,rfl,e0,by rw [List.drop_zero]; rfl⟩ ?_ ?_ ?_
  · rintro i ρ H₁ ⟨r2,r3,rfl,e,hf⟩; exact hL.ext e
  · rintro i v ρ H₁ K hv ⟨r2,r3,rfl,e,hf⟩ hK
    obtain ⟨x,hx,rfl⟩ := LI.at_ (a := r) hv
    have hxo := List.mem_of_getElem? hx
    rw [drop_cons hx,List.findSome?_cons] at hf
    simp only [f_gap_b1,List.set_cons_succ,List.set_cons_zero]
    refine seq (fun ρ H₂=>∃ v3,ρ = [some (.ref w),some (.ref r),some (.int x),some v3] ∧ Ext H H₂ ∧ match fu A (bh A o x) with | none=>v3 = .none | some (y,z)=>∃ t,v3 = .ref t ∧ H₂ t = some (.tuple [.int y,.int z])) (fun N hN=>?_) ?_
    · simp (disch := first | decide | omega) only [Jb,Jc,Jd,Je,Jf,Jg,Jh,Ji,Jj,Jk,Jl,Jm,Jn,Jo,Jp,Jq,Jr,Js,Jt,Ju,Jv,Jw,Jx,Jy,Jz,J0,J1,J2,J3,J4,J5,J6,J7,J8,J9,Jba,Jbb,Jbc,Jbd,Jbe,Jbf,Jbg,Jbh,Jbi,Jbj,Jbk,Jbl,Jbm,Jbn,Jbo,Jbp,Jbq,Jbr,Jbs,Jbt,List.map,Gcg,Gdg,Gag,Gbg,List.replicate,Geg,Gfg,Ggg,true_and,F.fns.untied,F.behind]
      refine s_behind F hm (hW.ext e) (hL.ext e) ho hxo fun s H₂ e2 _ hL2=>?_
      refine s_firstUntied F.fns.base F.fns.untied (hW.ext (e.trans e2)) hL2 (fun y hy=>ho.mem.mp (bh_mem hy)) fun H₃ e3=>?_
      cases hfu:fu A (bh A o x) with
      | none =>
        refine hN _ _ ⟨_,rfl,(e.trans e2).trans e3,?_⟩
        rw [hfu]
      | some pr =>
        obtain ⟨y,z⟩ := pr
        intro t ht
        refine hN _ _ ⟨_,rfl,((e.trans e2).trans e3).trans (Ext.upd ht),?_⟩
        rw [hfu]
        exact ⟨t,rfl,upd_self⟩
    rintro _ H₂ ⟨v3,rfl,e2,h3⟩
    rw [J3,Ja]
    cases hfu:fu A (bh A o x) with
    | none =>
      rw [hfu] at h3 hf
      simp only at h3
      subst h3
      simp (disch := first | decide | omega) only [Jb,Jc,Jd,Je,Jf,Jg,Jh,Ji,Jj,Jk,Jl,Jm,Jn,Jo,Jp,Jq,Jr,Js,Jt,Ju,Jv,Jw,Jx,Jy,Jz,J0,J1,J2,J3,J4,J5,J6,J7,J8,J9,Jba,Jbb,Jbc,Jbd,Jbe,Jbf,Jbg,Jbh,Jbi,Jbj,Jbk,Jbl,Jbm,Jbn,Jbo,Jbp,Jbq,Jbr,Jbs,Jbt,List.map,Gcg,Gdg,Gag,Gbg,List.replicate,Geg,Gfg,Ggg,true_and]
      simp only [Bool.false_eq_true,if_false]
      exact hK _ _ ⟨_,_,rfl,e2,hf⟩
    | some pr =>
      obtain ⟨y,z⟩ := pr
      rw [hfu] at h3 hf
      obtain ⟨t,rfl,ht⟩ := h3
      simp (disch := first | decide | omega) only [Jb,Jc,Jd,Je,Jf,Jg,Jh,Ji,Jj,Jk,Jl,Jm,Jn,Jo,Jp,Jq,Jr,Js,Jt,Ju,Jv,Jw,Jx,Jy,Jz,J0,J1,J2,J3,J4,J5,J6,J7,J8,J9,Jba,Jbb,Jbc,Jbd,Jbe,Jbf,Jbg,Jbh,Jbi,Jbj,Jbk,Jbl,Jbm,Jbn,Jbo,Jbp,Jbq,Jbr,Jbs,Jbt,List.map,Gcg,Gdg,Gag,Gbg,List.replicate,Geg,Gfg,Ggg,true_and]
      simp only [if_true]
      simp (disch := first | decide | omega) only [Jb,Jc,Jd,Je,Jf,Jg,Jh,Ji,Jj,Jk,Jl,Jm,Jn,Jo,Jp,Jq,Jr,Js,Jt,Ju,Jv,Jw,Jx,Jy,Jz,J0,J1,J2,J3,J4,J5,J6,J7,J8,J9,Jba,Jbb,Jbc,Jbd,Jbe,Jbf,Jbg,Jbh,Jbi,Jbj,Jbk,Jbl,Jbm,Jbn,Jbo,Jbp,Jbq,Jbr,Jbs,Jbt,List.map,Gcg,Gdg,Gag,Gbg,List.replicate,Geg,Gfg,Ggg,true_and,r_subT (x := .int y) (k := 0) ht (by decide) rfl,r_subT (x := .int z) (k := 1) ht (by decide) rfl]
      have hq := q H₂ e2
      simp only [Option.map_some] at hf
      rw [hf] at hq
      exact hq
  · rintro ρ H₁ ⟨r2,r3,rfl,e,hf⟩
    rw [List.length_map,List.drop_of_length_le (Nat.le_refl _),List.findSome?_nil] at hf
    have hq := q H₁ e
    rw [hf] at hq
    try simp (disch := first | decide | omega) only [Jb,Jc,Jd,Je,Jf,Jg,Jh,Ji,Jj,Jk,Jl,Jm,Jn,Jo,Jp,Jq,Jr,Js,Jt,Ju,Jv,Jw,Jx,Jy,Jz,J0,J1,J2,J3,J4,J5,J6,J7,J8,J9,Jba,Jbb,Jbc,Jbd,Jbe,Jbf,Jbg,Jbh,Jbi,Jbj,Jbk,Jbl,Jbm,Jbn,Jbo,Jbp,Jbq,Jbr,Jbs,Jbt,List.map,Gcg,Gdg,Gag,Gbg,List.replicate,Geg,Gfg,Ggg,true_and]
    exact hq
theorem s_needWhole (F:Fns2 G) {w m r:Nat} {A:Nat → Nat → Bool} {o:List Int} (hm:m ≤ 60) (hW:WebR H w m A) (hL:LI H r o) (ho:IsOrd m o) (hp:Peo A o)
    (q:∀ H',Ext H H' → Q .none H'):callN G (n + 5) "need_whole" [.ref w,.ref r] H Q E := by
  refine call_of F.needWhole rfl ?_
  simp only [f_need_whole,List.map,List.replicate,List.cons_append,List.nil_append]
  rw [J3,Ja]
  simp (disch := first | decide | omega) only [Jb,Jc,Jd,Je,Jf,Jg,Jh,Ji,Jj,Jk,Jl,Jm,Jn,Jo,Jp,Jq,Jr,Js,Jt,Ju,Jv,Jw,Jx,Jy,Jz,J0,J1,J2,J3,J4,J5,J6,J7,J8,J9,Jba,Jbb,Jbc,Jbd,Jbe,Jbf,Jbg,Jbh,Jbi,Jbj,Jbk,Jbl,Jbm,Jbn,Jbo,Jbp,Jbq,Jbr,Jbs,Jbt,List.map,Gcg,Gdg,Gag,Gbg,List.replicate,Geg,Gfg,Ggg,true_and,F.gap]
  refine s_gap F hm hW hL ho fun H₁ e1=>?_
  rw [gp_none.mpr hp]
  (try dsimp only); (try simp (disch := first | decide | omega) only [Jb,Jc,Jd,Je,Jf,Jg,Jh,Ji,Jj,Jk,Jl,Jm,Jn,Jo,Jp,Jq,Jr,Js,Jt,Ju,Jv,Jw,Jx,Jy,Jz,J0,J1,J2,J3,J4,J5,J6,J7,J8,J9,Jba,Jbb,Jbc,Jbd,Jbe,Jbf,Jbg,Jbh,Jbi,Jbj,Jbk,Jbl,Jbm,Jbn,Jbo,Jbp,Jbq,Jbr,Jbs,Jbt,List.map,Gcg,Gdg,Gag,Gbg,List.replicate,Geg,Gfg,Ggg,true_and])
  simp only [Bool.false_eq_true,if_false]
  exact q H₁ e1
noncomputable def crowd (A:Nat → Nat → Bool) (o:List Int) (p:Int):List Int := sortI (p :: bh A o p)
theorem s_crowdAt (F:Fns2 G) {w m r:Nat} {A:Nat → Nat → Bool} {o:List Int} {p:Int} (hm:m ≤ 60) (hW:WebR H w m A) (hL:LI H r o) (ho:IsOrd m o) (hp:p ∈ o)
    (q:∀ a H',Ext H H' → H a = none → LI H' a (crowd A o p) → Q (.ref a) H'):callN G (n + 4) "crowd_at" [.ref w,.ref r,.int p] H Q E := by
  refine call_of F.crowdAt rfl ?_
  have hbl := bh_len (A := A) (o := o) (p := p)
  rw [ho.len] at hbl
  simp (disch := first | decide | omega) only [Jb,Jc,Jd,Je,Jf,Jg,Jh,Ji,Jj,Jk,Jl,Jm,Jn,Jo,Jp,Jq,Jr,Js,Jt,Ju,Jv,Jw,Jx,Jy,Jz,J0,J1,J2,J3,J4,J5,J6,J7,J8,J9,Jba,Jbb,Jbc,Jbd,Jbe,Jbf,Jbg,Jbh,Jbi,Jbj,Jbk,Jbl,Jbm,Jbn,Jbo,Jbp,Jbq,Jbr,Jbs,Jbt,List.map,Gcg,Gdg,Gag,Gbg,List.replicate,Geg,Gfg,Ggg,true_and,f_crowd_at]
  refine alloc_i fun s H₁ e1 _ v1=>?_
  (try dsimp only); (try simp (disch := first | decide | omega) only [Jb,Jc,Jd,Je,Jf,Jg,Jh,Ji,Jj,Jk,Jl,Jm,Jn,Jo,Jp,Jq,Jr,Js,Jt,Ju,Jv,Jw,Jx,Jy,Jz,J0,J1,J2,J3,J4,J5,J6,J7,J8,J9,Jba,Jbb,Jbc,Jbd,Jbe,Jbf,Jbg,Jbh,Jbi,Jbj,Jbk,Jbl,Jbm,Jbn,Jbo,Jbp,Jbq,Jbr,Jbs,Jbt,List.map,Gcg,Gdg,Gag,Gbg,List.replicate,Geg,Gfg,Ggg,true_and])
  refine ⟨by rw [F.behind]; rfl,?_⟩
  refine s_behind F hm (hW.ext e1) (hL.ext e1) ho hp fun s2 H₂ e2 _ v2=>?_
  (try dsimp only)
  rw [r_addL (e2 _ _ v1) v2 (by simp; omega)]
  refine alloc_i fun s3 H₃ e3 _ v3=>?_
  (try dsimp only)
  have v3':LI H₃ s3 (p :: bh A o p) := by unfold LI; rw [v3]; rfl
  rw [r_sortL v3' (by simp; omega)]
  exact alloc_i fun a H₄ e4 n4 v4=>q a H₄ (((e1.trans e2).trans e3).trans e4) (((e1.trans e2).trans e3).isNone n4) v4
noncomputable def isFull (m:Nat) (A:Nat → Nat → Bool) (c:List Int):Bool := (rangeI m).all fun p=>decide (p ∈ c) || !(c.all fun o=>A p.toNat o.toNat)
theorem s_isFull (F:Fns2 G) {w m r:Nat} {A:Nat → Nat → Bool} {c:List Int} (hm:m ≤ 60) (hW:WebR H w m A) (hL:LI H r c) (hl:c.length ≤ 4000) (hin:∀ x ∈ c,0 ≤ x ∧ x < m)
    (q:∀ H',Ext H H' → Q (.bool (isFull m A c)) H'):callN G (n + 3) "is_full" [.ref w,.ref r] H Q E := by
  have B := F.fns.base
  refine call_of F.isFull rfl ?_
  refine by_c fun no=>?_
  obtain ⟨d,rs,w1,w2,w3⟩ := hW
  refine no ?_;clear no
  have hW:WebR H w m A := ⟨d,rs,w1,w2,w3⟩
  simp (disch := first | decide | omega) only [Jb,Jc,Jd,Je,Jf,Jg,Jh,Ji,Jj,Jk,Jl,Jm,Jn,Jo,Jp,Jq,Jr,Js,Jt,Ju,Jv,Jw,Jx,Jy,Jz,J0,J1,J2,J3,J4,J5,J6,J7,J8,J9,Jba,Jbb,Jbc,Jbd,Jbe,Jbf,Jbg,Jbh,Jbi,Jbj,Jbk,Jbl,Jbm,Jbn,Jbo,Jbp,Jbq,Jbr,Jbs,Jbt,List.map,Gcg,Gdg,Gag,Gbg,List.replicate,Geg,Gfg,Ggg,true_and,f_is_full]
  rw [t_for,c_range]
  simp (disch := first | decide | omega) only [Jb,Jc,Jd,Je,Jf,Jg,Jh,Ji,Jj,Jk,Jl,Jm,Jn,Jo,Jp,Jq,Jr,Js,Jt,Ju,Jv,Jw,Jx,Jy,Jz,J0,J1,J2,J3,J4,J5,J6,J7,J8,J9,Jba,Jbb,Jbc,Jbd,Jbe,Jbf,Jbg,Jbh,Jbi,Jbj,Jbk,Jbl,Jbm,Jbn,Jbo,Jbp,Jbq,Jbr,Jbs,Jbt,List.map,Gcg,Gdg,Gag,Gbg,List.replicate,Geg,Gfg,Ggg,true_and,r_attr w1 w2 (show aget [(Att.many,V.int m),(Att.rows,V.ref rs)] .many = some (.int m) from rfl)]
  refine loop_range0 (fun i ρ H₁=>(Ex1 fun r2=>An3 (ρ = [some (.ref w),some (.ref r),r2]) (Ext H H₁) (∀ j:Nat,j < i → (decide ((j:Int) ∈ c) || !(c.all fun o=>A j o.toNat)) = true))) ⟨_,rfl,Ext.refl,by (first | lia | omega)⟩ ?_ ?_
  · rintro i ρ H₁ K hi hPt35 hK
    refine by_c fun no=>?_
    obtain ⟨r2,rfl,e,hall⟩ := hPt35
    refine no ?_;clear no
    have hi':i < m := by simpa using hi
    have hL1 := hL.ext e
    refine by_c fun no=>?_
    obtain ⟨d,rs,w1,w2,w3⟩ := hW.ext e
    refine no ?_;clear no
    simp only [f_is_full_b1,J3,J2,List.set_cons_succ,List.set_cons_zero]
    rw [Ja,Jj]
    simp (disch := first | decide | omega) only [Jb,Jc,Jd,Je,Jf,Jg,Jh,Ji,Jj,Jk,Jl,Jm,Jn,Jo,Jp,Jq,Jr,Js,Jt,Ju,Jv,Jw,Jx,Jy,Jz,J0,J1,J2,J3,J4,J5,J6,J7,J8,J9,Jba,Jbb,Jbc,Jbd,Jbe,Jbf,Jbg,Jbh,Jbi,Jbj,Jbk,Jbl,Jbm,Jbn,Jbo,Jbp,Jbq,Jbr,Jbs,Jbt,List.map,Gcg,Gdg,Gag,Gbg,List.replicate,Geg,Gfg,Ggg,true_and,r_notIn hL1]
    by_cases hic:(i:Int) ∈ c
    · rw [decide_eq_true hic]
      simp only [Bool.not_true,Bool.false_eq_true,if_false]
      refine hK _ _ ⟨_,rfl,e,fun j hj=>?_⟩
      by_cases hji:j = i
      · subst hji; simp [hic]
      · exact hall j (by (first | lia | omega))
    · rw [decide_eq_false hic]
      simp only [Bool.not_false,if_true]
      rw [e_comp,c_val]
      simp (disch := first | decide | omega) only [Jb,Jc,Jd,Je,Jf,Jg,Jh,Ji,Jj,Jk,Jl,Jm,Jn,Jo,Jp,Jq,Jr,Js,Jt,Ju,Jv,Jw,Jx,Jy,Jz,J0,J1,J2,J3,J4,J5,J6,J7,J8,J9,Jba,Jbb,Jbc,Jbd,Jbe,Jbf,Jbg,Jbh,Jbi,Jbj,Jbk,Jbl,Jbm,Jbn,Jbo,Jbp,Jbq,Jbr,Jbs,Jbt,List.map,Gcg,Gdg,Gag,Gbg,List.replicate,Geg,Gfg,Ggg,true_and]
      rw [r_srcL hL1]
      refine ⟨by simp [big]; (first | lia | omega),gather_map (h := fun o=>V.bool (A i o.toNat)) hL1 (fun x hx K' hK'=>?_) ?_⟩
      · have hxr := hin x hx
        simp (disch := first | decide | omega) only [Jb,Jc,Jd,Je,Jf,Jg,Jh,Ji,Jj,Jk,Jl,Jm,Jn,Jo,Jp,Jq,Jr,Js,Jt,Ju,Jv,Jw,Jx,Jy,Jz,J0,J1,J2,J3,J4,J5,J6,J7,J8,J9,Jba,Jbb,Jbc,Jbd,Jbe,Jbf,Jbg,Jbh,Jbi,Jbj,Jbk,Jbl,Jbm,Jbn,Jbo,Jbp,Jbq,Jbr,Jbs,Jbt,List.map,Gcg,Gdg,Gag,Gbg,List.replicate,Geg,Gfg,Ggg,true_and,f_is_full_e1,e_meth,w1,w2,B.tied]
        exact s_tied B ⟨d,rs,w1,w2,w3⟩ (by (first | lia | omega)) (by (first | lia | omega)) hxr.1 hxr.2 (by rw [Int.toNat_natCast]; exact hK')
      · refine alloc_i fun s H₂ e2 _ v2=>?_
        (try dsimp only)
        rw [r_all (l := c.map fun o=>A i o.toNat) (by rw [v2,List.map_map]; rfl)]
        (try dsimp only); (try simp (disch := first | decide | omega) only [Jb,Jc,Jd,Je,Jf,Jg,Jh,Ji,Jj,Jk,Jl,Jm,Jn,Jo,Jp,Jq,Jr,Js,Jt,Ju,Jv,Jw,Jx,Jy,Jz,J0,J1,J2,J3,J4,J5,J6,J7,J8,J9,Jba,Jbb,Jbc,Jbd,Jbe,Jbf,Jbg,Jbh,Jbi,Jbj,Jbk,Jbl,Jbm,Jbn,Jbo,Jbp,Jbq,Jbr,Jbs,Jbt,List.map,Gcg,Gdg,Gag,Gbg,List.replicate,Geg,Gfg,Ggg,true_and])
        have hal:(c.map fun o=>A i o.toNat).all id = c.all fun o=>A i o.toNat := by rw [List.all_map]; rfl
        rw [hal]
        split
        · rename_i h
          (try dsimp only); (try simp (disch := first | decide | omega) only [Jb,Jc,Jd,Je,Jf,Jg,Jh,Ji,Jj,Jk,Jl,Jm,Jn,Jo,Jp,Jq,Jr,Js,Jt,Ju,Jv,Jw,Jx,Jy,Jz,J0,J1,J2,J3,J4,J5,J6,J7,J8,J9,Jba,Jbb,Jbc,Jbd,Jbe,Jbf,Jbg,Jbh,Jbi,Jbj,Jbk,Jbl,Jbm,Jbn,Jbo,Jbp,Jbq,Jbr,Jbs,Jbt,List.map,Gcg,Gdg,Gag,Gbg,List.replicate,Geg,Gfg,Ggg,true_and])
          have hf:isFull m A c = false := by
            unfold isFull
            rw [List.all_eq_false]
            refine ⟨i,rangeI_mem.mpr ⟨by (first | lia | omega),by (first | lia | omega)⟩,?_⟩
            rw [decide_eq_false hic,Int.toNat_natCast,h]; simp
          have := q H₂ (e.trans e2)
          rw [hf] at this
          exact this
        · rename_i h
          (try dsimp only); (try simp (disch := first | decide | omega) only [Jb,Jc,Jd,Je,Jf,Jg,Jh,Ji,Jj,Jk,Jl,Jm,Jn,Jo,Jp,Jq,Jr,Js,Jt,Ju,Jv,Jw,Jx,Jy,Jz,J0,J1,J2,J3,J4,J5,J6,J7,J8,J9,Jba,Jbb,Jbc,Jbd,Jbe,Jbf,Jbg,Jbh,Jbi,Jbj,Jbk,Jbl,Jbm,Jbn,Jbo,Jbp,Jbq,Jbr,Jbs,Jbt,List.map,Gcg,Gdg,Gag,Gbg,List.replicate,Geg,Gfg,Ggg,true_and])
          refine hK _ _ ⟨_,rfl,e.trans e2,fun j hj=>?_⟩
          by_cases hji:j = i
          · subst hji; rw [Bool.not_eq_true] at h; rw [h]; simp
          · exact hall j (by (first | lia | omega))
  · rintro ρ H₁ hPt36
    refine by_c fun no=>?_
    obtain ⟨r2,rfl,e,hall⟩ := hPt36
    refine no ?_;clear no
    try simp (disch := first | decide | omega) only [Jb,Jc,Jd,Je,Jf,Jg,Jh,Ji,Jj,Jk,Jl,Jm,Jn,Jo,Jp,Jq,Jr,Js,Jt,Ju,Jv,Jw,Jx,Jy,Jz,J0,J1,J2,J3,J4,J5,J6,J7,J8,J9,Jba,Jbb,Jbc,Jbd,Jbe,Jbf,Jbg,Jbh,Jbi,Jbj,Jbk,Jbl,Jbm,Jbn,Jbo,Jbp,Jbq,Jbr,Jbs,Jbt,List.map,Gcg,Gdg,Gag,Gbg,List.replicate,Geg,Gfg,Ggg,true_and]
    have hf:isFull m A c = true := by
      unfold isFull
      rw [List.all_eq_true]
      intro x hx
      have := rangeI_mem.mp hx
      have h2 := hall x.toNat (by (first | lia | omega))
      rwa [show ((x.toNat:Nat):Int) = x by (first | lia | omega)] at h2
    have := q H₁ e
    rw [hf] at this
    exact this
set_option linter.all false
variable {G:GEnv} {n:Nat} {H H':AH} {Q:Post} {E:EP} {C:CS} {ρ:Loc}
noncomputable def crowdsOf (m:Nat) (A:Nat → Nat → Bool) (o:List Int):List (List Int) := (o.map (crowd A o)).filter (isFull m A)
theorem crowd_mem {A:Nat → Nat → Bool} {o:List Int} {p x:Int}:x ∈ crowd A o p ↔ x = p ∨ x ∈ bh A o p := by
  unfold crowd; rw [sortI_mem,List.mem_cons]
theorem crowd_len {A:Nat → Nat → Bool} {o:List Int} {p:Int} (hp:p ∈ o):(crowd A o p).length ≤ o.length := by
  unfold crowd; rw [sortI_length,List.length_cons]
  have := bh_len (A := A) (o := o) (p := p)
  have := List.length_pos_of_mem hp
  (first | lia | omega)
structure Made (H H':AH) (a:Nat) (as:List Nat) (rows:List (List Int)):Prop where
  ext:Ext H H'
  new:H a = none
  at_:H' a = some (.list (as.map V.ref))
  lists:RowsL H' as rows
  fr:∀ x ∈ as,x ≠ a ∧ H x = none
theorem Made.snoc {H₁:AH} {a x:Nat} {as:List Nat} {rows:List (List Int)} {r:List Int} (b:Made H H' a as rows) (e:Ext H' H₁) (hx:H' x = none) (h:LI H₁ x r) :
    Made H (upd H₁ a (.list ((as.map V.ref) ++ [.ref x]))) a (as ++ [x]) (rows ++ [r]) := by
  have hxa:x ≠ a := fun q=>by rw [q,b.at_] at hx; cases hx
  have hfr:∀ y ∈ as ++ [x],y ≠ a ∧ H y = none := fun y hy=>by
    rcases List.mem_append.mp hy with hy | hy
    · exact b.fr y hy
    · simp at hy; rw [hy]; exact ⟨hxa,b.ext.isNone hx⟩
  exact ⟨(b.ext.trans e).upd' b.new,b.new,by rw [upd_self]; simp,((b.lists.ext e).snoc h).upd fun y hy=>(hfr y hy).1,hfr⟩
theorem Made.mono {H₁:AH} {a:Nat} {as:List Nat} {rows:List (List Int)} (b:Made H H' a as rows) (e:Ext H' H₁):Made H H₁ a as rows := ⟨b.ext.trans e,b.new,e _ _ b.at_,b.lists.ext e,b.fr⟩
theorem s_fullCrowds (F:Fns2 G) {w m r:Nat} {A:Nat → Nat → Bool} {o:List Int} (hm:m ≤ 60) (hW:WebR H w m A) (hL:LI H r o) (ho:IsOrd m o) (hp:Peo A o)
    (q:∀ a as H',Made H H' a as (crowdsOf m A o) → Q (.ref a) H'):callN G (n + 6) "full_crowds" [.ref w,.ref r] H Q E := by
  refine call_of F.fullCrowds rfl ?_
  simp only [f_full_crowds,List.map,List.replicate,List.cons_append,List.nil_append]
  refine seq (fun ρ H₁=>ρ = [some (.ref w),some (.ref r),none,none,none] ∧ Ext H H₁) (fun N hN=>?_) ?_
  · simp (disch := first | decide | omega) only [Jb,Jc,Jd,Je,Jf,Jg,Jh,Ji,Jj,Jk,Jl,Jm,Jn,Jo,Jp,Jq,Jr,Js,Jt,Ju,Jv,Jw,Jx,Jy,Jz,J0,J1,J2,J3,J4,J5,J6,J7,J8,J9,Jba,Jbb,Jbc,Jbd,Jbe,Jbf,Jbg,Jbh,Jbi,Jbj,Jbk,Jbl,Jbm,Jbn,Jbo,Jbp,Jbq,Jbr,Jbs,Jbt,List.map,Gcg,Gdg,Gag,Gbg,List.replicate,Geg,Gfg,Ggg,true_and,F.needWhole]
    exact s_needWhole F hm hW hL ho hp fun H₁ e1=>hN _ _ ⟨rfl,e1⟩
  rintro _ H₀ ⟨rfl,e0⟩
  refine seq (fun ρ H₁=>∃ a,ρ = [some (.ref w),some (.ref r),some (.ref a),none,none] ∧ Made H H₁ a [] []) (fun N hN=>?_) ?_
  · simp (disch := first | decide | omega) only [Jb,Jc,Jd,Je,Jf,Jg,Jh,Ji,Jj,Jk,Jl,Jm,Jn,Jo,Jp,Jq,Jr,Js,Jt,Ju,Jv,Jw,Jx,Jy,Jz,J0,J1,J2,J3,J4,J5,J6,J7,J8,J9,Jba,Jbb,Jbc,Jbd,Jbe,Jbf,Jbg,Jbh,Jbi,Jbj,Jbk,Jbl,Jbm,Jbn,Jbo,Jbp,Jbq,Jbr,Jbs,Jbt,List.map,Gcg,Gdg,Gag,Gbg,List.replicate,Geg,Gfg,Ggg,true_and]
    exact alloc_i fun a H₁ e1 n1 v1=>hN _ _ ⟨a,rfl,⟨e0.trans e1,e0.isNone n1,v1,⟨rfl,by simp⟩,by simp⟩⟩
  rintro _ H₁ ⟨a,rfl,b⟩
  rw [J3,t_for,c_val]
  simp (disch := first | decide | omega) only [Jb,Jc,Jd,Je,Jf,Jg,Jh,Ji,Jj,Jk,Jl,Jm,Jn,Jo,Jp,Jq,Jr,Js,Jt,Ju,Jv,Jw,Jx,Jy,Jz,J0,J1,J2,J3,J4,J5,J6,J7,J8,J9,Jba,Jbb,Jbc,Jbd,Jbe,Jbf,Jbg,Jbh,Jbi,Jbj,Jbk,Jbl,Jbm,Jbn,Jbo,Jbp,Jbq,Jbr,Jbs,Jbt,List.map,Gcg,Gdg,Gag,Gbg,List.replicate,Geg,Gfg,Ggg,true_and]
  rw [r_srcL (hL.ext b.ext)]
  refine loop_list (fun i ρ H₁=>(Ex3 fun r3 r4 as=>ρ = [some (.ref w),some (.ref r),some (.ref a),r3,r4] ∧ Made H H₁ a as (((o.take i).map (crowd A o)).filter (isFull m A)))) ⟨_,_,[],rfl,by simpa using b⟩ ?_ ?_ ?_
  · rintro i ρ H₁ ⟨r3,r4,as,rfl,b⟩; exact hL.ext b.ext
  · rintro i v ρ H₁ K hv ⟨r3,r4,as,rfl,b⟩ hK
    obtain ⟨x,hx,rfl⟩ := LI.at_ (a := r) hv
    have hxo := List.mem_of_getElem? hx
    have hi := (List.getElem?_eq_some_iff.mp hx).1
    rw [ho.len] at hi
    simp only [f_full_crowds_b1,List.set_cons_succ,List.set_cons_zero]
    refine seq (fun ρ H₂=>(Ex1 fun c=>An4 (ρ = [some (.ref w),some (.ref r),some (.ref a),some (.int x),some (.ref c)]) (Ext H₁ H₂) (H₁ c = none) (LI H₂ c (crowd A o x)))) (fun N hN=>?_) ?_
    · simp (disch := first | decide | omega) only [Jb,Jc,Jd,Je,Jf,Jg,Jh,Ji,Jj,Jk,Jl,Jm,Jn,Jo,Jp,Jq,Jr,Js,Jt,Ju,Jv,Jw,Jx,Jy,Jz,J0,J1,J2,J3,J4,J5,J6,J7,J8,J9,Jba,Jbb,Jbc,Jbd,Jbe,Jbf,Jbg,Jbh,Jbi,Jbj,Jbk,Jbl,Jbm,Jbn,Jbo,Jbp,Jbq,Jbr,Jbs,Jbt,List.map,Gcg,Gdg,Gag,Gbg,List.replicate,Geg,Gfg,Ggg,true_and,F.crowdAt]
      exact s_crowdAt F hm (hW.ext b.ext) (hL.ext b.ext) ho hxo fun c H₂ e2 n2 v2=>hN _ _ ⟨c,rfl,e2,n2,v2⟩
    rintro _ H₂ ⟨c,rfl,e2,n2,v2⟩
    rw [J3,Ja]
    simp (disch := first | decide | omega) only [Jb,Jc,Jd,Je,Jf,Jg,Jh,Ji,Jj,Jk,Jl,Jm,Jn,Jo,Jp,Jq,Jr,Js,Jt,Ju,Jv,Jw,Jx,Jy,Jz,J0,J1,J2,J3,J4,J5,J6,J7,J8,J9,Jba,Jbb,Jbc,Jbd,Jbe,Jbf,Jbg,Jbh,Jbi,Jbj,Jbk,Jbl,Jbm,Jbn,Jbo,Jbp,Jbq,Jbr,Jbs,Jbt,List.map,Gcg,Gdg,Gag,Gbg,List.replicate,Geg,Gfg,Ggg,true_and,F.isFull]
    refine s_isFull F hm (hW.ext (b.ext.trans e2)) v2 (by have := crowd_len (A := A) hxo; rw [ho.len] at this; (first | lia | omega)) (fun y hy=>?_) fun H₃ e3=>?_
    · rcases crowd_mem.mp hy with rfl | h
      · exact ho.mem.mp hxo
      · exact ho.mem.mp (bh_mem h)
    have e23 := e2.trans e3
    (try dsimp only); (try simp (disch := first | decide | omega) only [Jb,Jc,Jd,Je,Jf,Jg,Jh,Ji,Jj,Jk,Jl,Jm,Jn,Jo,Jp,Jq,Jr,Js,Jt,Ju,Jv,Jw,Jx,Jy,Jz,J0,J1,J2,J3,J4,J5,J6,J7,J8,J9,Jba,Jbb,Jbc,Jbd,Jbe,Jbf,Jbg,Jbh,Jbi,Jbj,Jbk,Jbl,Jbm,Jbn,Jbo,Jbp,Jbq,Jbr,Jbs,Jbt,List.map,Gcg,Gdg,Gag,Gbg,List.replicate,Geg,Gfg,Ggg,true_and])
    have htk:((o.take (i + 1)).map (crowd A o)).filter (isFull m A) = ((o.take i).map (crowd A o)).filter (isFull m A) ++ (if isFull m A (crowd A o x) then [crowd A o x] else []) := by
      rw [List.take_add_one,hx,List.map_append,List.filter_append]
      simp only [Option.toList_some,List.map_cons,List.map_nil,List.filter_cons,List.filter_nil]
    split
    · rename_i hf
      rw [if_pos hf] at htk
      have hal:(as.map V.ref).length < 1048576 := by
        rw [List.length_map,b.lists.1]
        refine Nat.lt_of_le_of_lt (List.length_filter_le _ _) ?_
        rw [List.length_map,List.length_take]; (first | lia | omega)
      have ha1 := e23 _ _ b.at_
      simp (disch := first | decide | omega) only [Jb,Jc,Jd,Je,Jf,Jg,Jh,Ji,Jj,Jk,Jl,Jm,Jn,Jo,Jp,Jq,Jr,Js,Jt,Ju,Jv,Jw,Jx,Jy,Jz,J0,J1,J2,J3,J4,J5,J6,J7,J8,J9,Jba,Jbb,Jbc,Jbd,Jbe,Jbf,Jbg,Jbh,Jbi,Jbj,Jbk,Jbl,Jbm,Jbn,Jbo,Jbp,Jbq,Jbr,Jbs,Jbt,List.map,Gcg,Gdg,Gag,Gbg,List.replicate,Geg,Gfg,Ggg,true_and,e_lm,r_kindL ha1,r_append ha1 hal]
      refine hK _ _ ⟨_,_,as ++ [c],rfl,?_⟩
      rw [htk]
      exact b.snoc e23 n2 (v2.ext e3)
    · rename_i hf
      rw [if_neg hf,List.append_nil] at htk
      (try dsimp only); (try simp (disch := first | decide | omega) only [Jb,Jc,Jd,Je,Jf,Jg,Jh,Ji,Jj,Jk,Jl,Jm,Jn,Jo,Jp,Jq,Jr,Js,Jt,Ju,Jv,Jw,Jx,Jy,Jz,J0,J1,J2,J3,J4,J5,J6,J7,J8,J9,Jba,Jbb,Jbc,Jbd,Jbe,Jbf,Jbg,Jbh,Jbi,Jbj,Jbk,Jbl,Jbm,Jbn,Jbo,Jbp,Jbq,Jbr,Jbs,Jbt,List.map,Gcg,Gdg,Gag,Gbg,List.replicate,Geg,Gfg,Ggg,true_and])
      refine hK _ _ ⟨_,_,as,rfl,?_⟩
      rw [htk]
      exact b.mono e23
  · rintro ρ H₁ ⟨r3,r4,as,rfl,b⟩
    rw [List.length_map,List.take_of_length_le (Nat.le_refl _)] at b
    try simp (disch := first | decide | omega) only [Jb,Jc,Jd,Je,Jf,Jg,Jh,Ji,Jj,Jk,Jl,Jm,Jn,Jo,Jp,Jq,Jr,Js,Jt,Ju,Jv,Jw,Jx,Jy,Jz,J0,J1,J2,J3,J4,J5,J6,J7,J8,J9,Jba,Jbb,Jbc,Jbd,Jbe,Jbf,Jbg,Jbh,Jbi,Jbj,Jbk,Jbl,Jbm,Jbn,Jbo,Jbp,Jbq,Jbr,Jbs,Jbt,List.map,Gcg,Gdg,Gag,Gbg,List.replicate,Geg,Gfg,Ggg,true_and]
    exact q a as H₁ b
noncomputable def IsMex (c:Int) (l:List Int):Prop := 0 ≤ c ∧ c ∉ l ∧ ∀ j,0 ≤ j → j < c → j ∈ l
theorem nodup_sub_len:∀ {l l':List Int},l.Nodup → (∀ x ∈ l,x ∈ l') → l.length ≤ l'.length
  | [],_,_,_=>by simp
  | x :: r,l',h,hs=>by
    have hx := hs x (by simp)
    have hn := List.nodup_cons.mp h
    have := nodup_sub_len (l := r) (l' := l'.erase x) hn.2 fun y hy=>(List.mem_erase_of_ne (fun z=>hn.1 (by rw [← z]; exact hy))).mpr (hs y (by simp [hy]))
    rw [List.length_erase_of_mem hx] at this
    have := List.length_pos_of_mem hx
    rw [List.length_cons]; (first | lia | omega)
theorem mex_len {c:Int} {l:List Int} (h:∀ j,0 ≤ j → j < c → j ∈ l):c ≤ l.length := by
  have h2:(rangeI c.toNat).length ≤ l.length := nodup_sub_len rangeI_nodup fun x hx=>by
    have := rangeI_mem.mp hx
    exact h x this.1 (by (first | lia | omega))
  rw [rangeI_len] at h2
  (first | lia | omega)
theorem s_leastFree (F:Fns2 G) {u:Nat} {l:List Int} (hL:LI H u l) (q:∀ c,IsMex c l → Q (.int c) H):callN G (n + 1) "least_free" [.ref u] H Q E := by
  refine call_of F.leastFree rfl ?_
  simp only [f_least_free,List.map,List.replicate,List.cons_append,List.nil_append]
  refine seq (fun ρ H₁=>ρ = [some (.ref u),some (.int 0)] ∧ H = H₁) (fun N hN=>?_) ?_
  · simp (disch := first | decide | omega) only [Jb,Jc,Jd,Je,Jf,Jg,Jh,Ji,Jj,Jk,Jl,Jm,Jn,Jo,Jp,Jq,Jr,Js,Jt,Ju,Jv,Jw,Jx,Jy,Jz,J0,J1,J2,J3,J4,J5,J6,J7,J8,J9,Jba,Jbb,Jbc,Jbd,Jbe,Jbf,Jbg,Jbh,Jbi,Jbj,Jbk,Jbl,Jbm,Jbn,Jbo,Jbp,Jbq,Jbr,Jbs,Jbt,List.map,Gcg,Gdg,Gag,Gbg,List.replicate,Geg,Gfg,Ggg,true_and]; exact hN _ _ ⟨rfl,rfl⟩
  rintro _ _ ⟨rfl,rfl⟩
  rw [J3,t_while]
  refine ⟨fun k ρ H₁=>(Ex1 fun (c:Int)=>An6 (k = (l.length + 1 - c).toNat) (c ≤ l.length) (ρ = [some (.ref u),some (.int c)]) (H₁ = H) (0 ≤ c) (∀ j,0 ≤ j → j < c → j ∈ l)),⟨_,0,rfl,by (first | lia | omega),rfl,rfl,by (first | lia | omega),by intros; (first | lia | omega)⟩,?_⟩
  rintro k ρ H₁ ⟨c,rfl,hcl,rfl,rfl,h0,hall⟩
  simp (disch := first | decide | omega) only [Jb,Jc,Jd,Je,Jf,Jg,Jh,Ji,Jj,Jk,Jl,Jm,Jn,Jo,Jp,Jq,Jr,Js,Jt,Ju,Jv,Jw,Jx,Jy,Jz,J0,J1,J2,J3,J4,J5,J6,J7,J8,J9,Jba,Jbb,Jbc,Jbd,Jbe,Jbf,Jbg,Jbh,Jbi,Jbj,Jbk,Jbl,Jbm,Jbn,Jbo,Jbp,Jbq,Jbr,Jbs,Jbt,List.map,Gcg,Gdg,Gag,Gbg,List.replicate,Geg,Gfg,Ggg,true_and,r_in hL]
  by_cases hc:c ∈ l
  · rw [decide_eq_true hc]
    simp only [if_true]
    simp (disch := first | decide | omega) only [Jb,Jc,Jd,Je,Jf,Jg,Jh,Ji,Jj,Jk,Jl,Jm,Jn,Jo,Jp,Jq,Jr,Js,Jt,Ju,Jv,Jw,Jx,Jy,Jz,J0,J1,J2,J3,J4,J5,J6,J7,J8,J9,Jba,Jbb,Jbc,Jbd,Jbe,Jbf,Jbg,Jbh,Jbi,Jbj,Jbk,Jbl,Jbm,Jbn,Jbo,Jbp,Jbq,Jbr,Jbs,Jbt,List.map,Gcg,Gdg,Gag,Gbg,List.replicate,Geg,Gfg,Ggg,true_and,f_least_free_b1]
    have hall':∀ j,0 ≤ j → j < c + 1 → j ∈ l := fun j h1 h2=>by
      by_cases hj:j = c
      · subst hj; exact hc
      · exact hall j h1 (by (first | lia | omega))
    have hle:c + 1 ≤ l.length := mex_len hall'
    exact ⟨(l.length + 1 - (c + 1)).toNat,by (first | lia | omega),c + 1,rfl,hle,rfl,by first | rfl | trivial,by (first | lia | omega),hall'⟩
  · rw [decide_eq_false hc]
    simp only [Bool.false_eq_true,if_false]
    try simp (disch := first | decide | omega) only [Jb,Jc,Jd,Je,Jf,Jg,Jh,Ji,Jj,Jk,Jl,Jm,Jn,Jo,Jp,Jq,Jr,Js,Jt,Ju,Jv,Jw,Jx,Jy,Jz,J0,J1,J2,J3,J4,J5,J6,J7,J8,J9,Jba,Jbb,Jbc,Jbd,Jbe,Jbf,Jbg,Jbh,Jbi,Jbj,Jbk,Jbl,Jbm,Jbn,Jbo,Jbp,Jbq,Jbr,Jbs,Jbt,List.map,Gcg,Gdg,Gag,Gbg,List.replicate,Geg,Gfg,Ggg,true_and]
    exact q c ⟨h0,hc,hall⟩
noncomputable def Greedy (A:Nat → Nat → Bool) (o cols:List Int):Prop := cols.length = o.length ∧ ∀ p ∈ o,IsMex (cols.getD p.toNat 0) ((bh A o p).map fun x=>cols.getD x.toNat 0)
noncomputable def GrTo (A:Nat → Nat → Bool) (o cols:List Int) (k:Nat):Prop := ∀ j p,o[j]? = some p → k ≤ j → IsMex (cols.getD p.toNat 0) ((bh A o p).map fun x=>cols.getD x.toNat 0)
theorem GrTo.all {A:Nat → Nat → Bool} {o cols:List Int} (h:GrTo A o cols 0) (hl:cols.length = o.length):Greedy A o cols := ⟨hl,fun p hp=>by
  obtain ⟨j,hj⟩ := List.mem_iff_getElem?.mp hp
  exact h j p hj (Nat.zero_le _)⟩
theorem GrTo.none {A:Nat → Nat → Bool} {o cols:List Int}:GrTo A o cols o.length := fun j p hj hk=>absurd (List.getElem?_eq_some_iff.mp hj).1 (Nat.not_lt.mpr hk)
theorem GrTo.step {m k:Nat} {A:Nat → Nat → Bool} {o cols:List Int} {p c:Int} (ho:IsOrd m o) (hl:cols.length = m) (h:GrTo A o cols (k + 1)) (hp:o[k]? = some p) (hmex:IsMex c ((bh A o p).map fun x=>cols.getD x.toNat 0)):GrTo A o (cols.set p.toNat c) k := by
  intro j p' hj hmj
  have hpr := ho.mem.mp (List.mem_of_getElem? hp)
  have gset:∀ x:Int,0 ≤ x → x ≠ p → (cols.set p.toNat c).getD x.toNat 0 = cols.getD x.toNat 0 := fun x h0 hx=>by
    rw [List.getD_eq_getElem?_getD,List.getD_eq_getElem?_getD,List.getElem?_set_ne (by (first | lia | omega))]
  have hbp:(bh A o p').map (fun x=>(cols.set p.toNat c).getD x.toNat 0) = (bh A o p').map (fun x=>cols.getD x.toNat 0) := by
    refine List.map_congr_left fun x hx=>gset x (ho.mem.mp (bh_mem hx)).1 fun hxp=>?_
    subst hxp
    rw [bh_at ho.nodup hj] at hx
    obtain ⟨z,hz⟩ := List.mem_iff_getElem?.mp (List.mem_filter.mp hx).1
    rw [List.getElem?_drop] at hz
    have := nodup_getI ho.nodup hz hp
    (first | lia | omega)
  rw [hbp]
  by_cases hpp:p' = p
  · subst hpp
    have:(cols.set p'.toNat c).getD p'.toNat 0 = c := by
      rw [List.getD_eq_getElem?_getD,List.getElem?_set_self (by (first | lia | omega))]; rfl
    rw [this]; exact hmex
  · rw [gset p' (ho.mem.mp (List.mem_of_getElem? hj)).1 hpp]
    refine h j p' hj ?_
    have:j ≠ k := fun hz=>by
      rw [hz,hp] at hj; cases hj; exact hpp rfl
    (first | lia | omega)
theorem s_coloured (F:Fns2 G) {w m r:Nat} {A:Nat → Nat → Bool} {o:List Int} (hm:m ≤ 60) (hW:WebR H w m A) (hL:LI H r o) (ho:IsOrd m o) (hp:Peo A o)
    (q:∀ a cols H',Ext H H' → H a = none → LI H' a cols → Greedy A o cols → Q (.ref a) H'):callN G (n + 6) "coloured" [.ref w,.ref r] H Q E := by
  refine call_of F.coloured rfl ?_
  simp only [f_coloured,List.map,List.replicate,List.cons_append,List.nil_append]
  refine seq (fun ρ H₁=>ρ = [some (.ref w),some (.ref r),none,none] ∧ Ext H H₁) (fun N hN=>?_) ?_
  · simp (disch := first | decide | omega) only [Jb,Jc,Jd,Je,Jf,Jg,Jh,Ji,Jj,Jk,Jl,Jm,Jn,Jo,Jp,Jq,Jr,Js,Jt,Ju,Jv,Jw,Jx,Jy,Jz,J0,J1,J2,J3,J4,J5,J6,J7,J8,J9,Jba,Jbb,Jbc,Jbd,Jbe,Jbf,Jbg,Jbh,Jbi,Jbj,Jbk,Jbl,Jbm,Jbn,Jbo,Jbp,Jbq,Jbr,Jbs,Jbt,List.map,Gcg,Gdg,Gag,Gbg,List.replicate,Geg,Gfg,Ggg,true_and,F.needWhole]
    exact s_needWhole F hm hW hL ho hp fun H₁ e1=>hN _ _ ⟨rfl,e1⟩
  rintro _ H₀ ⟨rfl,e0⟩
  refine seq (fun ρ H₁=>(Ex1 fun a=>An4 (ρ = [some (.ref w),some (.ref r),none,some (.ref a)]) (Ext H H₁) (H a = none) (LI H₁ a (o.map fun _=>0)))) (fun N hN=>?_) ?_
  · rw [Jy,e_comp,c_val]
    simp (disch := first | decide | omega) only [Jb,Jc,Jd,Je,Jf,Jg,Jh,Ji,Jj,Jk,Jl,Jm,Jn,Jo,Jp,Jq,Jr,Js,Jt,Ju,Jv,Jw,Jx,Jy,Jz,J0,J1,J2,J3,J4,J5,J6,J7,J8,J9,Jba,Jbb,Jbc,Jbd,Jbe,Jbf,Jbg,Jbh,Jbi,Jbj,Jbk,Jbl,Jbm,Jbn,Jbo,Jbp,Jbq,Jbr,Jbs,Jbt,List.map,Gcg,Gdg,Gag,Gbg,List.replicate,Geg,Gfg,Ggg,true_and]
    rw [r_srcL (hL.ext e0)]
    refine ⟨by simp [big,ho.len]; (first | lia | omega),gather_map (h := fun _=>V.int 0) (hL.ext e0) (fun x hx K' hK'=>?_) ?_⟩
    · try simp (disch := first | decide | omega) only [Jb,Jc,Jd,Je,Jf,Jg,Jh,Ji,Jj,Jk,Jl,Jm,Jn,Jo,Jp,Jq,Jr,Js,Jt,Ju,Jv,Jw,Jx,Jy,Jz,J0,J1,J2,J3,J4,J5,J6,J7,J8,J9,Jba,Jbb,Jbc,Jbd,Jbe,Jbf,Jbg,Jbh,Jbi,Jbj,Jbk,Jbl,Jbm,Jbn,Jbo,Jbp,Jbq,Jbr,Jbs,Jbt,List.map,Gcg,Gdg,Gag,Gbg,List.replicate,Geg,Gfg,Ggg,true_and]
      exact hK'
    · refine alloc_i fun a H₁ e1 n1 v1=>hN _ _ ⟨a,rfl,e0.trans e1,e0.isNone n1,?_⟩
      unfold LI; rw [v1,List.map_map]; rfl
  rintro _ H₁ hPt37
  refine by_c fun no=>?_
  obtain ⟨a,rfl,e1,n1,v1⟩ := hPt37
  refine no ?_;clear no
  rw [J3,t_for,c_rev]
  simp (disch := first | decide | omega) only [Jb,Jc,Jd,Je,Jf,Jg,Jh,Ji,Jj,Jk,Jl,Jm,Jn,Jo,Jp,Jq,Jr,Js,Jt,Ju,Jv,Jw,Jx,Jy,Jz,J0,J1,J2,J3,J4,J5,J6,J7,J8,J9,Jba,Jbb,Jbc,Jbd,Jbe,Jbf,Jbg,Jbh,Jbi,Jbj,Jbk,Jbl,Jbm,Jbn,Jbo,Jbp,Jbq,Jbr,Jbs,Jbt,List.map,Gcg,Gdg,Gag,Gbg,List.replicate,Geg,Gfg,Ggg,true_and]
  rw [r_revL (hL.ext e1)]
  refine loop_gen (fun i ρ H₂=>(Ex2 fun r2 cols=>An5 (ρ = [some (.ref w),some (.ref r),r2,some (.ref a)]) (Ext H H₂) (LI H₂ a cols) (cols.length = m) (GrTo A o cols (m - i)))) ?_ ?_ ?_ ?_
  · exact ⟨_,_,rfl,e1,v1,by rw [List.length_map,ho.len],by rw [Nat.sub_zero,← ho.len]; exact GrTo.none⟩
  · rintro i ρ H₂ ⟨r2,cols,rfl,e,hc,hl,hall⟩; exact hL.ext e
  · rintro i v ρ H₂ K hv hPt38 hK
    refine by_c fun no=>?_
    obtain ⟨r2,cols,rfl,e,hc,hl,hall⟩ := hPt38
    refine no ?_;clear no
    rw [← List.map_reverse] at hv
    refine by_c fun no=>?_
    obtain ⟨p,hp',rfl⟩ := LI.at_ (a := r) hv
    refine no ?_;clear no
    have hi:i < m := by
      have := (List.getElem?_eq_some_iff.mp hp').1
      rwa [List.length_reverse,ho.len] at this
    rw [List.getElem?_reverse (by rw [ho.len]; exact hi),ho.len] at hp'
    have hpo := List.mem_of_getElem? hp'
    have hpr := ho.mem.mp hpo
    simp only [f_coloured_b1,J3,J2,List.set_cons_succ,List.set_cons_zero]
    rw [t_setitem,Jp]
    refine ⟨by rw [F.leastFree]; rfl,?_⟩
    rw [Jx,e_comp,c_val]
    simp (disch := first | decide | omega) only [Jb,Jc,Jd,Je,Jf,Jg,Jh,Ji,Jj,Jk,Jl,Jm,Jn,Jo,Jp,Jq,Jr,Js,Jt,Ju,Jv,Jw,Jx,Jy,Jz,J0,J1,J2,J3,J4,J5,J6,J7,J8,J9,Jba,Jbb,Jbc,Jbd,Jbe,Jbf,Jbg,Jbh,Jbi,Jbj,Jbk,Jbl,Jbm,Jbn,Jbo,Jbp,Jbq,Jbr,Jbs,Jbt,List.map,Gcg,Gdg,Gag,Gbg,List.replicate,Geg,Gfg,Ggg,true_and,F.behind]
    refine s_behind F hm (hW.ext e) (hL.ext e) ho hpo fun s H₃ e3 _ v3=>?_
    rw [r_srcL v3]
    have hbl := bh_len (A := A) (o := o) (p := p)
    rw [ho.len] at hbl
    refine ⟨by simp [big]; (first | lia | omega),gather_map (h := fun x=>V.int (cols.getD x.toNat 0)) v3 (fun x hx K' hK'=>?_) ?_⟩
    · have hxr := ho.mem.mp (bh_mem hx)
      have hxl:x.toNat < cols.length := by (first | lia | omega)
      have hsub:(cols.map V.int)[x.toNat]? = some (.int (cols.getD x.toNat 0)) := by
        rw [List.getElem?_map,List.getElem?_eq_getElem hxl,List.getD_eq_getElem?_getD,List.getElem?_eq_getElem hxl]; rfl
      simp (disch := first | decide | omega) only [Jb,Jc,Jd,Je,Jf,Jg,Jh,Ji,Jj,Jk,Jl,Jm,Jn,Jo,Jp,Jq,Jr,Js,Jt,Ju,Jv,Jw,Jx,Jy,Jz,J0,J1,J2,J3,J4,J5,J6,J7,J8,J9,Jba,Jbb,Jbc,Jbd,Jbe,Jbf,Jbg,Jbh,Jbi,Jbj,Jbk,Jbl,Jbm,Jbn,Jbo,Jbp,Jbq,Jbr,Jbs,Jbt,List.map,Gcg,Gdg,Gag,Gbg,List.replicate,Geg,Gfg,Ggg,true_and,f_coloured_e1,r_subL (hc.ext e3) hxr.1 hsub]
      exact hK'
    refine alloc_i fun u H₄ e4 _ v4=>?_
    have v4':LI H₄ u ((bh A o p).map fun x=>cols.getD x.toNat 0) := by unfold LI; rw [v4,List.map_map]; rfl
    (try dsimp only); (try simp (disch := first | decide | omega) only [Jb,Jc,Jd,Je,Jf,Jg,Jh,Ji,Jj,Jk,Jl,Jm,Jn,Jo,Jp,Jq,Jr,Js,Jt,Ju,Jv,Jw,Jx,Jy,Jz,J0,J1,J2,J3,J4,J5,J6,J7,J8,J9,Jba,Jbb,Jbc,Jbd,Jbe,Jbf,Jbg,Jbh,Jbi,Jbj,Jbk,Jbl,Jbm,Jbn,Jbo,Jbp,Jbq,Jbr,Jbs,Jbt,List.map,Gcg,Gdg,Gag,Gbg,List.replicate,Geg,Gfg,Ggg,true_and])
    refine s_leastFree F v4' fun c hmex=>?_
    (try dsimp only); (try simp (disch := first | decide | omega) only [Jb,Jc,Jd,Je,Jf,Jg,Jh,Ji,Jj,Jk,Jl,Jm,Jn,Jo,Jp,Jq,Jr,Js,Jt,Ju,Jv,Jw,Jx,Jy,Jz,J0,J1,J2,J3,J4,J5,J6,J7,J8,J9,Jba,Jbb,Jbc,Jbd,Jbe,Jbf,Jbg,Jbh,Jbi,Jbj,Jbk,Jbl,Jbm,Jbn,Jbo,Jbp,Jbq,Jbr,Jbs,Jbt,List.map,Gcg,Gdg,Gag,Gbg,List.replicate,Geg,Gfg,Ggg,true_and])
    have hc4 := (hc.ext e3).ext e4
    rw [r_setLI hc4 hpr.1 (by rw [hl]; exact hpr.2)]
    refine hK _ _ ⟨_,cols.set p.toNat c,rfl,((e.trans e3).trans e4).upd' n1,upd_self,by rw [List.length_set]; exact hl,?_⟩
    rw [show m - i = m - 1 - i + 1 by (first | lia | omega)] at hall
    rw [show m - (i + 1) = m - 1 - i by (first | lia | omega)]
    exact hall.step ho hl hp' hmex
  · rintro ρ H₂ hPt39
    refine by_c fun no=>?_
    obtain ⟨r2,cols,rfl,e,hc,hl,hall⟩ := hPt39
    refine no ?_;clear no
    try simp (disch := first | decide | omega) only [Jb,Jc,Jd,Je,Jf,Jg,Jh,Ji,Jj,Jk,Jl,Jm,Jn,Jo,Jp,Jq,Jr,Js,Jt,Ju,Jv,Jw,Jx,Jy,Jz,J0,J1,J2,J3,J4,J5,J6,J7,J8,J9,Jba,Jbb,Jbc,Jbd,Jbe,Jbf,Jbg,Jbh,Jbi,Jbj,Jbk,Jbl,Jbm,Jbn,Jbo,Jbp,Jbq,Jbr,Jbs,Jbt,List.map,Gcg,Gdg,Gag,Gbg,List.replicate,Geg,Gfg,Ggg,true_and]
    rw [List.length_reverse,List.length_map,ho.len,Nat.sub_self] at hall
    exact q a cols H₂ e n1 hc (hall.all (by rw [hl,ho.len]))
set_option linter.all false
noncomputable def Clique (A:Nat → Nat → Bool) (l:List Int):Prop := ∀ a ∈ l,∀ b ∈ l,a ≠ b → A a.toNat b.toNat = true
theorem fu_clique {A:Nat → Nat → Bool} {l:List Int} (g:Gr A) (hn:l.Nodup):fu A l = none ↔ Clique A l := by
  rw [fu_none]
  constructor
  · intro h a ha b hb hab
    obtain ⟨i,hi,rfl⟩ := List.mem_iff_getElem.mp ha
    obtain ⟨j,hj,rfl⟩ := List.mem_iff_getElem.mp hb
    rcases Nat.lt_trichotomy i j with q | q | q
    · exact List.pairwise_iff_getElem.mp h i j hi hj q
    · subst q; exact absurd rfl hab
    · rw [g.symm]; exact List.pairwise_iff_getElem.mp h j i hj hi q
  · intro h
    rw [List.pairwise_iff_getElem]
    intro i j hi hj hij
    exact h _ (List.getElem_mem _) _ (List.getElem_mem _) (List.pairwise_iff_getElem.mp hn i j hi hj hij)
noncomputable def Sim (A:Nat → Nat → Bool) (U:List Int) (p:Int):Prop := ∀ a ∈ U,∀ b ∈ U,A p.toNat a.toNat = true → A p.toNat b.toNat = true → a ≠ b → A a.toNat b.toNat = true
theorem simpl_iff {A:Nat → Nat → Bool} {U:List Int} {p:Int} (g:Gr A) (hn:U.Nodup):simpl A U p = true ↔ Sim A U p := by
  unfold simpl nbrs
  rw [Option.isNone_iff_eq_none,fu_clique g (hn.filter _)]
  unfold Clique Sim
  constructor
  · intro h a ha b hb h1 h2 hab
    exact h a (List.mem_filter.mpr ⟨ha,h1⟩) b (List.mem_filter.mpr ⟨hb,h2⟩) hab
  · intro h a ha b hb hab
    have h1 := List.mem_filter.mp ha
    have h2 := List.mem_filter.mp hb
    exact h a h1.1 b h2.1 h1.2 h2.2 hab
theorem takeAll_spec {A:Nat → Nat → Bool} (g:Gr A):∀ (k:Nat) (gn t:List Int),t.Nodup → t.length ≤ k → (Ex2 fun g2 t'=>An5 (takeAll A k gn t = (gn ++ g2,t')) ((g2 ++ t').Perm t) (ltg A t' = none) (t'.Nodup) (∀ (j:Nat) (p:Int),g2[j]? = some p → Clique A (nbrs A (g2.drop (j + 1) ++ t') p)))
  | 0,gn,t,hn,hl=>by
    have:t = [] := List.length_eq_zero_iff.mp (by (first | lia | omega))
    subst this
    exact ⟨[],[],by simp [takeAll],by simp,rfl,hn,by simp⟩
  | k + 1,gn,t,hn,hl=>by
    cases e:ltg A t with
    | none=>exact ⟨[],t,by rw [takeAll_stop e]; simp,by simp,e,hn,by simp⟩
    | some p =>
      have hp := ltg_mem e
      have hl' := List.length_erase_of_mem hp
      have hpos := List.length_pos_of_mem hp
      obtain ⟨g2,t',h1,h2,h3,h4,h5⟩ := takeAll_spec g k (gn ++ [p]) (t.erase p) (hn.erase p) (by (first | lia | omega))
      refine ⟨p :: g2,t',by rw [takeAll_succ e,h1]; simp,?_,h3,h4,fun j q hq=>?_⟩
      · exact (h2.cons p).trans (List.perm_cons_erase hp).symm
      · cases j with
        | succ j=>exact h5 j q (by simpa using hq)
        | zero =>
          simp at hq
          subst hq
          have hs:Sim A t p := (simpl_iff g hn).mp (List.find?_some e)
          intro a ha b hb hab
          have ha' := List.mem_filter.mp ha
          have hb' := List.mem_filter.mp hb
          have up:∀ z ∈ (p :: g2).drop (0 + 1) ++ t',z ∈ t := fun z hz=>List.mem_of_mem_erase (h2.mem_iff.mp (by simpa using hz))
          exact hs a (up a ha'.1) b (up b hb'.1) ha'.2 hb'.2 hab
set_option linter.all false
variable {G:GEnv} {n:Nat} {H H':AH} {Q:Post} {E:EP} {C:CS} {ρ:Loc}
noncomputable def VerR (H:AH) (v:Nat) (o r c k:V) (many:Int):Prop := ∃ d:Nat,H v = some (.inst .verdict d) ∧ H d = some (.ns [(.order,o),(.ring,r),(.crowd,c),(.colours,k),(.many,.int many)])
theorem s_verdict (hI:G.fn "Verdict.__init__" = some f_Verdict__init_) {o r c k:V} {many:Int} (q:∀ v H',Ext H H' → H v = none → VerR H' v o r c k many → Q (.ref v) H') :
    ∀ a d,H a = none → H d = none → a ≠ d → callN G (n + 1) (initOf .verdict) [.ref a,o,r,c,k,.int many] (upd (upd H d (.ns [])) a (.inst .verdict d)) (fun r H'=>r = .none ∧ Q (.ref a) H') E := by
  intro a d ha hd had
  refine call_of hI rfl ?_
  simp only [f_Verdict__init_,List.map,List.replicate,List.cons_append,List.nil_append]
  have h0:∀ (H₁:AH) (fs:List (Att × V)) (t:Att) (x:V),(Ext H H₁ ∧ H₁ a = some (.inst .verdict d) ∧ H₁ d = some (.ns fs)) → Ext H (upd H₁ d (.ns (aput fs t x))) ∧ upd H₁ d (.ns (aput fs t x)) a = some (.inst .verdict d) ∧ upd H₁ d (.ns (aput fs t x)) d = some (.ns (aput fs t x)) :=
    fun H₁ fs t x h=>⟨h.1.upd' hd,by rw [upd_ne had]; exact h.2.1,upd_self⟩
  have s0:Ext H (upd (upd H d (.ns [])) a (.inst .verdict d)) ∧ upd (upd H d (.ns [])) a (.inst .verdict d) a = some (.inst .verdict d) ∧ upd (upd H d (.ns [])) a (.inst .verdict d) d = some (.ns []) :=
    ⟨(Ext.upd hd).upd' ha,upd_self,by rw [upd_ne (Ne.symm had),upd_self]⟩
  generalize upd (upd H d (.ns [])) a (.inst .verdict d) = H₀ at *
  have s1 := h0 _ _ .order o s0
  have s2 := h0 _ _ .ring r s1
  have s3 := h0 _ _ .crowd c s2
  have s4 := h0 _ _ .colours k s3
  have s5 := h0 _ _ .many (.int many) s4
  simp only [J3,J2,t_setattr,Jg,List.getElem?_cons_zero,List.getElem?_cons_succ]
  rw [r_setattr s0.2.1 s0.2.2 (show (0:Nat) < 10 by decide)]
  rw [r_setattr s1.2.1 s1.2.2 (show (1:Nat) < 10 by decide)]
  rw [r_setattr s2.2.1 s2.2.2 (show (2:Nat) < 10 by decide)]
  rw [r_setattr s3.2.1 s3.2.2 (show (3:Nat) < 10 by decide)]
  rw [r_setattr s4.2.1 s4.2.2 (show (4:Nat) < 10 by decide)]
  exact ⟨trivial,q a _ s5.1 ha ⟨d,s5.2.1,s5.2.2⟩⟩
set_option linter.all false
noncomputable def tkStep (A:Nat → Nat → Bool) (s:List Int × List Int):List Int × List Int := match ltg A s.2 with
  | none=>s
  | some p=>(s.1 ++ [p],s.2.erase p)
theorem takeAll_last {A:Nat → Nat → Bool}:∀ {k:Nat} {g t:List Int},takeAll A (k + 1) g t = tkStep A (takeAll A k g t)
  | 0,g,t=>by
    unfold tkStep
    rw [takeAll]
    cases h:ltg A t <;> simp [takeAll,h]
  | k + 1,g,t=>by
    cases h:ltg A t with
    | none=>rw [takeAll_stop h,takeAll_stop h]; unfold tkStep; simp [h]
    | some p=>rw [takeAll_succ h,takeAll_succ h,takeAll_last]
variable {G:GEnv} {n:Nat} {H H':AH} {Q:Post} {E:EP} {C:CS} {ρ:Loc}
set_option linter.all false
theorem drop_iff {o:List Int} (hn:o.Nodup) {i:Nat} {x:Int}:x ∈ o.drop i ↔ x ∈ o ∧ i ≤ o.idxOf x := by
  constructor
  · intro h
    obtain ⟨j,hj⟩ := List.mem_iff_getElem?.mp h
    rw [List.getElem?_drop] at hj
    exact ⟨List.mem_of_getElem? hj,by rw [idx_at hn hj]; (first | lia | omega)⟩
  · rintro ⟨h,hi⟩
    have hlt := List.idxOf_lt_length_of_mem h
    refine List.mem_iff_getElem?.mpr ⟨o.idxOf x - i,?_⟩
    rw [List.getElem?_drop,Nat.add_sub_cancel' hi,List.getElem?_eq_getElem hlt,List.getElem_idxOf]
theorem idx_get {o:List Int} {x:Int} (hx:x ∈ o):o[o.idxOf x]? = some x := by
  rw [List.getElem?_eq_getElem (List.idxOf_lt_length_of_mem hx),List.getElem_idxOf]
theorem idx_inj {o:List Int} {x y:Int} (hx:x ∈ o) (hy:y ∈ o) (h:o.idxOf x = o.idxOf y):x = y := by
  have h1 := idx_get hx
  rw [h,idx_get hy] at h1
  exact (Option.some.inj h1).symm
theorem bh_iff {A:Nat → Nat → Bool} {o:List Int} {p x:Int} (hn:o.Nodup):x ∈ bh A o p ↔ x ∈ o ∧ o.idxOf p + 1 ≤ o.idxOf x ∧ A p.toNat x.toNat = true := by
  unfold bh nbrs
  rw [List.mem_filter,drop_iff hn]
  exact ⟨fun h=>⟨h.1.1,h.1.2,h.2⟩,fun h=>⟨⟨h.1,h.2.1⟩,h.2.2⟩⟩
theorem bh_nodup {A:Nat → Nat → Bool} {o:List Int} {p:Int} (hn:o.Nodup):(bh A o p).Nodup := (hn.sublist (List.drop_sublist _ _)).filter _
theorem peo_cl {A:Nat → Nat → Bool} {o:List Int} {p:Int} (g:Gr A) (hn:o.Nodup) (hp:Peo A o) (hm:p ∈ o):Clique A (bh A o p) := (fu_clique g (bh_nodup hn)).mp (hp p hm)
theorem ex_min (f:Int → Nat):∀ {l:List Int},l ≠ [] → ∃ p ∈ l,∀ x ∈ l,f p ≤ f x
  | [],h=>absurd rfl h
  | [a],_=>⟨a,by simp,by simp⟩
  | a :: b :: r,_=>by
    obtain ⟨p,hp,hm⟩ := ex_min f (l := b :: r) (by simp)
    by_cases h:f a ≤ f p
    · refine ⟨a,.head _,fun x hx=>?_⟩
      rcases List.mem_cons.mp hx with rfl | hx
      · exact Nat.le_refl _
      · exact Nat.le_trans h (hm x hx)
    · refine ⟨p,.tail _ hp,fun x hx=>?_⟩
      rcases List.mem_cons.mp hx with rfl | hx
      · (first | lia | omega)
      · exact hm x hx
theorem peo_ltg {m:Nat} {A:Nat → Nat → Bool} {o t:List Int} (g:Gr A) (ho:IsOrd m o) (hp:Peo A o) (hn:t.Nodup) (hin:∀ x ∈ t,0 ≤ x ∧ x < (m:Int)) (hst:ltg A t = none):t = [] := by
  refine Classical.byContradiction fun hne=>?_
  obtain ⟨p,hpt,hmin⟩ := ex_min (fun x=>o.idxOf x) hne
  have hpo := ho.mem.mpr (hin p hpt)
  have hcl := peo_cl g ho.nodup hp hpo
  have inb:∀ a ∈ t,A p.toNat a.toNat = true → a ∈ bh A o p := fun a ha hA=>by
    have hao := ho.mem.mpr (hin a ha)
    refine (bh_iff ho.nodup).mpr ⟨hao,?_,hA⟩
    refine Nat.lt_of_le_of_ne (hmin a ha) fun q=>?_
    have := idx_inj hpo hao q
    subst this
    rw [g.irr] at hA; cases hA
  have hs:Sim A t p := fun a ha b hb h1 h2 hab=>hcl a (inb a ha h1) b (inb b hb h2) hab
  have := List.find?_eq_none.mp hst p hpt
  rw [(simpl_iff g hn).mpr hs] at this
  exact this rfl
theorem taken_perm {m:Nat} {A:Nat → Nat → Bool} {t:List Int} (g:Gr A) (ht:t.Perm (rangeI m)) (h:(takeAll A m [] t).2 = []):IsOrd m (takeAll A m [] t).1 ∧ Peo A (takeAll A m [] t).1 := by
  obtain ⟨g2,t',h1,h2,h3,h4,h5⟩ := takeAll_spec g m [] t (ht.nodup_iff.mpr rangeI_nodup) (by rw [ht.length_eq,rangeI_len]; exact Nat.le_refl _)
  rw [h1] at h ⊢
  simp only [List.nil_append] at h h1 ⊢
  subst h
  rw [List.append_nil] at h2
  have h2' := h2.trans ht
  have hord:IsOrd m g2 := isOrd_of (h2'.nodup_iff.mpr rangeI_nodup) fun x=>by rw [h2'.mem_iff,rangeI_mem]
  refine ⟨hord,fun p hp=>?_⟩
  obtain ⟨j,hj⟩ := List.mem_iff_getElem?.mp hp
  rw [bh_at hord.nodup hj]
  unfold nbrs
  rw [fu_clique g ((hord.nodup.sublist (List.drop_sublist _ _)).filter _)]
  have := h5 j p hj
  rwa [List.append_nil] at this
theorem taken_chordal {m:Nat} {A:Nat → Nat → Bool} {o:List Int} (g:Gr A) (ho:IsOrd m o) (hp:Peo A o):(takeAll A m [] (rangeI m)).2 = [] := by
  obtain ⟨g2,t',h1,h2,h3,h4,_⟩ := takeAll_spec g m [] (rangeI m) rangeI_nodup (by rw [rangeI_len]; exact Nat.le_refl _)
  rw [h1]
  exact peo_ltg g ho hp h4 (fun x hx=>rangeI_mem.mp (h2.mem_iff.mp (List.mem_append_right _ hx))) h3
variable {G:GEnv} {n:Nat} {H H':AH} {Q:Post} {E:EP} {C:CS} {ρ:Loc}
structure FnsC (G:GEnv):Prop where
  fns2:Fns2 G
  longRing:G.fn "long_ring" = some f_long_ring
  init:G.fn "Verdict.__init__" = some f_Verdict__init_
  judged:G.fn "judged" = some f_judged
theorem s_longRingC (F:FnsC G) {w m:Nat} {A:Nat → Nat → Bool} (hm:m ≤ 60) (hW:WebR H w m A) (hnil:(takeAll A m [] (rangeI m)).2 = []) (q:∀ H',Ext H H' → Q .none H'):callN G (n + 6) "long_ring" [.ref w] H Q E := by
  have F1 := F.fns2.fns
  refine call_of F.longRing rfl ?_
  simp only [f_long_ring,List.map,List.replicate,List.cons_append,List.nil_append]
  rw [J3,t_for,c_val]
  simp (disch := first | decide | omega) only [Jb,Jc,Jd,Je,Jf,Jg,Jh,Ji,Jj,Jk,Jl,Jm,Jn,Jo,Jp,Jq,Jr,Js,Jt,Ju,Jv,Jw,Jx,Jy,Jz,J0,J1,J2,J3,J4,J5,J6,J7,J8,J9,Jba,Jbb,Jbc,Jbd,Jbe,Jbf,Jbg,Jbh,Jbi,Jbj,Jbk,Jbl,Jbm,Jbn,Jbo,Jbp,Jbq,Jbr,Jbs,Jbt,List.map,Gcg,Gdg,Gag,Gbg,List.replicate,Geg,Gfg,Ggg,true_and,F1.taken]
  refine s_taken F1 hW hm fun r a b H₁ e1 nr na nb hab hr hb ha=>?_
  rw [hnil] at ha
  (try dsimp only)
  rw [r_subT (x := .ref a) hr (by decide) rfl,r_srcL ha]
  refine loop_list (fun i ρ H₂=>H₁ = H₂) rfl ?_ ?_ ?_
  · rintro i ρ _ rfl; exact ha
  · rintro i v ρ H₂ K hv; cases hv
  · rintro ρ _ rfl
    try simp (disch := first | decide | omega) only [Jb,Jc,Jd,Je,Jf,Jg,Jh,Ji,Jj,Jk,Jl,Jm,Jn,Jo,Jp,Jq,Jr,Js,Jt,Ju,Jv,Jw,Jx,Jy,Jz,J0,J1,J2,J3,J4,J5,J6,J7,J8,J9,Jba,Jbb,Jbc,Jbd,Jbe,Jbf,Jbg,Jbh,Jbi,Jbj,Jbk,Jbl,Jbm,Jbn,Jbo,Jbp,Jbq,Jbr,Jbs,Jbt,List.map,Gcg,Gdg,Gag,Gbg,List.replicate,Geg,Gfg,Ggg,true_and]
    exact q _ e1
theorem s_judgedC (F:FnsC G) {w m:Nat} {A:Nat → Nat → Bool} (g:Gr A) (hm:m ≤ 60) (hW:WebR H w m A) (hnil:(takeAll A m [] (rangeI m)).2 = [])
    (q2:∀ v o c k lo lc lk H',Ext H H' → H v = none → VerR H' v (.ref o) .none (.ref c) (.ref k) (lc.length:Nat) → H o = none → H c = none → H k = none → o ≠ c → o ≠ k → c ≠ k → LI H' o lo → LI H' c lc → LI H' k lk →
      lo = (takeAll A m [] (rangeI m)).1 → IsOrd m lo → Peo A lo → (lc ∈ crowdsOf m A lo ∨ (lc = [] ∧ crowdsOf m A lo = [])) → (∀ r ∈ crowdsOf m A lo,r.length ≤ lc.length) → Greedy A lo lk → Q (.ref v) H') :
    callN G (n + 7) "judged" [.ref w] H Q E := by
  have F2 := F.fns2
  have F1 := F2.fns
  refine call_of F.judged rfl ?_
  simp only [f_judged,List.map,List.replicate,List.cons_append,List.nil_append]
  have hmk:(G.fn (initOf .verdict)).isSome = true := by rw [show initOf .verdict = Str.ofString "Verdict.__init__" from rfl,F.init]; rfl
  rw [J3,Jy,Jp]
  refine ⟨by rw [F.longRing]; rfl,?_⟩
  simp (disch := first | decide | omega) only [Jb,Jc,Jd,Je,Jf,Jg,Jh,Ji,Jj,Jk,Jl,Jm,Jn,Jo,Jp,Jq,Jr,Js,Jt,Ju,Jv,Jw,Jx,Jy,Jz,J0,J1,J2,J3,J4,J5,J6,J7,J8,J9,Jba,Jbb,Jbc,Jbd,Jbe,Jbf,Jbg,Jbh,Jbi,Jbj,Jbk,Jbl,Jbm,Jbn,Jbo,Jbp,Jbq,Jbr,Jbs,Jbt,List.map,Gcg,Gdg,Gag,Gbg,List.replicate,Geg,Gfg,Ggg,true_and]
  refine s_longRingC F hm hW hnil fun H₁ e1=>?_
  (try dsimp only)
  obtain ⟨ho,hp⟩ := taken_perm g (.refl _) hnil
  rw [Ja]
  simp (disch := first | decide | omega) only [Jb,Jc,Jd,Je,Jf,Jg,Jh,Ji,Jj,Jk,Jl,Jm,Jn,Jo,Jp,Jq,Jr,Js,Jt,Ju,Jv,Jw,Jx,Jy,Jz,J0,J1,J2,J3,J4,J5,J6,J7,J8,J9,Jba,Jbb,Jbc,Jbd,Jbe,Jbf,Jbg,Jbh,Jbi,Jbj,Jbk,Jbl,Jbm,Jbn,Jbo,Jbp,Jbq,Jbr,Jbs,Jbt,List.map,Gcg,Gdg,Gag,Gbg,List.replicate,Geg,Gfg,Ggg,true_and]
  simp only [Bool.false_eq_true,if_false]
  refine ⟨by rw [F1.taken]; rfl,?_⟩
  refine s_taken F1 (hW.ext e1) hm fun r a b H₂ e2 nr na nb hab hr hb ha=>?_
  (try dsimp only); (try simp (disch := first | decide | omega) only [Jb,Jc,Jd,Je,Jf,Jg,Jh,Ji,Jj,Jk,Jl,Jm,Jn,Jo,Jp,Jq,Jr,Js,Jt,Ju,Jv,Jw,Jx,Jy,Jz,J0,J1,J2,J3,J4,J5,J6,J7,J8,J9,Jba,Jbb,Jbc,Jbd,Jbe,Jbf,Jbg,Jbh,Jbi,Jbj,Jbk,Jbl,Jbm,Jbn,Jbo,Jbp,Jbq,Jbr,Jbs,Jbt,List.map,Gcg,Gdg,Gag,Gbg,List.replicate,Geg,Gfg,Ggg,true_and])
  rw [r_subT (x := .ref b) hr (by decide) rfl]
  (try dsimp only); (try simp (disch := first | decide | omega) only [Jb,Jc,Jd,Je,Jf,Jg,Jh,Ji,Jj,Jk,Jl,Jm,Jn,Jo,Jp,Jq,Jr,Js,Jt,Ju,Jv,Jw,Jx,Jy,Jz,J0,J1,J2,J3,J4,J5,J6,J7,J8,J9,Jba,Jbb,Jbc,Jbd,Jbe,Jbf,Jbg,Jbh,Jbi,Jbj,Jbk,Jbl,Jbm,Jbn,Jbo,Jbp,Jbq,Jbr,Jbs,Jbt,List.map,Gcg,Gdg,Gag,Gbg,List.replicate,Geg,Gfg,Ggg,true_and])
  refine alloc_i fun gr H₃ e3 ngr vgr=>?_
  (try dsimp only)
  have hbg:b ≠ gr := hb.ne_none ngr
  have hb3 := hb.ext e3
  have e13 := (e1.trans e2).trans e3
  generalize hlo:(takeAll A m [] (rangeI m)).1 = lo at *
  rw [t_for,c_val]
  simp (disch := first | decide | omega) only [Jb,Jc,Jd,Je,Jf,Jg,Jh,Ji,Jj,Jk,Jl,Jm,Jn,Jo,Jp,Jq,Jr,Js,Jt,Ju,Jv,Jw,Jx,Jy,Jz,J0,J1,J2,J3,J4,J5,J6,J7,J8,J9,Jba,Jbb,Jbc,Jbd,Jbe,Jbf,Jbg,Jbh,Jbi,Jbj,Jbk,Jbl,Jbm,Jbn,Jbo,Jbp,Jbq,Jbr,Jbs,Jbt,List.map,Gcg,Gdg,Gag,Gbg,List.replicate,Geg,Gfg,Ggg,true_and,F2.fullCrowds]
  refine s_fullCrowds F2 hm (hW.ext e13) hb3 ho hp fun fa as H₄ md=>?_
  (try dsimp only)
  rw [r_srcL md.at_]
  have e14 := e13.trans md.ext
  have hb4 := hb3.ext md.ext
  have hlen:as.length = (crowdsOf m A lo).length := md.lists.1
  refine loop_list (fun i ρ H₅=>(Ex3 fun r4 c lc=>An6 (ρ = [some (.ref w),some .none,some (.ref b),some (.ref c),r4]) (Ext H₄ H₅) (LI H₅ c lc) (H₂ c = none) ((lc ∈ (crowdsOf m A lo).take i ∨ (lc = [] ∧ (crowdsOf m A lo).take i = []))) (∀ r ∈ (crowdsOf m A lo).take i,r.length ≤ lc.length)))
    ⟨_,gr,[],rfl,Ext.refl,md.ext _ _ vgr,ngr,.inr ⟨rfl,by simp⟩,by simp⟩ ?_ ?_ ?_
  · rintro i ρ H₅ ⟨r4,c,lc,rfl,e5,_⟩; exact e5 _ _ md.at_
  · rintro i v ρ H₅ K hv hPt40 hK
    refine by_c fun no=>?_
    obtain ⟨r4,c,lc,rfl,e5,hc5,nc,hor,hle⟩ := hPt40
    refine no ?_;clear no
    rw [List.getElem?_map] at hv
    refine by_c fun no=>?_
    obtain ⟨x,hx,rfl⟩ := Option.map_eq_some_iff.mp hv
    refine no ?_;clear no
    have hxl := (List.getElem?_eq_some_iff.mp hx).1
    have hri:(crowdsOf m A lo)[i]? = some ((crowdsOf m A lo)[i]'(by rw [← hlen]; exact hxl)) := List.getElem?_eq_getElem _
    generalize (crowdsOf m A lo)[i]'(by rw [← hlen]; exact hxl) = ri at hri
    have hxr:LI H₅ x ri := (md.lists.2 i x ri hx hri).ext e5
    have hx3:H₂ x = none := e3.isNone (md.fr x (List.mem_of_getElem? hx)).2
    have htk:(crowdsOf m A lo).take (i + 1) = (crowdsOf m A lo).take i ++ [ri] := by rw [List.take_add_one,hri]; rfl
    simp only [f_judged_b1,J3,J2,List.set_cons_succ,List.set_cons_zero]
    refine i_ite (decide ((lc.length:Int) < ri.length)) (fun Q' h'=>?_) ?_
    · simp (disch := first | decide | omega) only [Jb,Jc,Jd,Je,Jf,Jg,Jh,Ji,Jj,Jk,Jl,Jm,Jn,Jo,Jp,Jq,Jr,Js,Jt,Ju,Jv,Jw,Jx,Jy,Jz,J0,J1,J2,J3,J4,J5,J6,J7,J8,J9,Jba,Jbb,Jbc,Jbd,Jbe,Jbf,Jbg,Jbh,Jbi,Jbj,Jbk,Jbl,Jbm,Jbn,Jbo,Jbp,Jbq,Jbr,Jbs,Jbt,List.map,Gcg,Gdg,Gag,Gbg,List.replicate,Geg,Gfg,Ggg,true_and,r_lenL hxr,r_lenL hc5]
      rw [List.length_map,List.length_map]; exact h'
    split
    · rename_i hh
      simp only [decide_eq_true_eq] at hh
      simp (disch := first | decide | omega) only [Jb,Jc,Jd,Je,Jf,Jg,Jh,Ji,Jj,Jk,Jl,Jm,Jn,Jo,Jp,Jq,Jr,Js,Jt,Ju,Jv,Jw,Jx,Jy,Jz,J0,J1,J2,J3,J4,J5,J6,J7,J8,J9,Jba,Jbb,Jbc,Jbd,Jbe,Jbf,Jbg,Jbh,Jbi,Jbj,Jbk,Jbl,Jbm,Jbn,Jbo,Jbp,Jbq,Jbr,Jbs,Jbt,List.map,Gcg,Gdg,Gag,Gbg,List.replicate,Geg,Gfg,Ggg,true_and]
      refine hK _ _ ⟨_,x,ri,rfl,e5,hxr,hx3,.inl (by rw [htk]; simp),fun r hr=>?_⟩
      rw [htk] at hr
      rcases List.mem_append.mp hr with hr | hr
      · have := hle r hr; (first | lia | omega)
      · simp at hr; rw [hr]; exact Nat.le_refl _
    · rename_i hh
      simp only [decide_eq_true_eq] at hh
      simp (disch := first | decide | omega) only [Jb,Jc,Jd,Je,Jf,Jg,Jh,Ji,Jj,Jk,Jl,Jm,Jn,Jo,Jp,Jq,Jr,Js,Jt,Ju,Jv,Jw,Jx,Jy,Jz,J0,J1,J2,J3,J4,J5,J6,J7,J8,J9,Jba,Jbb,Jbc,Jbd,Jbe,Jbf,Jbg,Jbh,Jbi,Jbj,Jbk,Jbl,Jbm,Jbn,Jbo,Jbp,Jbq,Jbr,Jbs,Jbt,List.map,Gcg,Gdg,Gag,Gbg,List.replicate,Geg,Gfg,Ggg,true_and]
      refine hK _ _ ⟨_,c,lc,rfl,e5,hc5,nc,?_,fun r hr=>?_⟩
      · rcases hor with hor | ⟨rfl,hor⟩
        · exact .inl (by rw [htk]; exact List.mem_append_left _ hor)
        · have hz:ri = [] := List.length_eq_zero_iff.mp (by have h9 := hh; rw [List.length_nil] at h9; (first | lia | omega))
          exact .inl (by rw [htk,hz]; simp)
      · rw [htk] at hr
        rcases List.mem_append.mp hr with hr | hr
        · exact hle r hr
        · simp at hr; rw [hr]; (first | lia | omega)
  · rintro ρ H₅ hPt41
    refine by_c fun no=>?_
    obtain ⟨r4,c,lc,rfl,e5,hc5,nc,hor,hle⟩ := hPt41
    refine no ?_;clear no
    rw [List.length_map,hlen,List.take_of_length_le (Nat.le_refl _)] at hor hle
    (try simp (disch := first | decide | omega) only [Jb,Jc,Jd,Je,Jf,Jg,Jh,Ji,Jj,Jk,Jl,Jm,Jn,Jo,Jp,Jq,Jr,Js,Jt,Ju,Jv,Jw,Jx,Jy,Jz,J0,J1,J2,J3,J4,J5,J6,J7,J8,J9,Jba,Jbb,Jbc,Jbd,Jbe,Jbf,Jbg,Jbh,Jbi,Jbj,Jbk,Jbl,Jbm,Jbn,Jbo,Jbp,Jbq,Jbr,Jbs,Jbt,List.map,Gcg,Gdg,Gag,Gbg,List.replicate,Geg,Gfg,Ggg,true_and])
    rw [e_mk]
    refine ⟨hmk,?_⟩
    simp (disch := first | decide | omega) only [Jb,Jc,Jd,Je,Jf,Jg,Jh,Ji,Jj,Jk,Jl,Jm,Jn,Jo,Jp,Jq,Jr,Js,Jt,Ju,Jv,Jw,Jx,Jy,Jz,J0,J1,J2,J3,J4,J5,J6,J7,J8,J9,Jba,Jbb,Jbc,Jbd,Jbe,Jbf,Jbg,Jbh,Jbi,Jbj,Jbk,Jbl,Jbm,Jbn,Jbo,Jbp,Jbq,Jbr,Jbs,Jbt,List.map,Gcg,Gdg,Gag,Gbg,List.replicate,Geg,Gfg,Ggg,true_and,F2.coloured]
    have e15 := e14.trans e5
    have hb5 := hb4.ext e5
    refine s_coloured F2 hm (hW.ext e15) hb5 ho hp fun k lk H₆ e6 nk hk hgr=>?_
    (try dsimp only); (try simp (disch := first | decide | omega) only [Jb,Jc,Jd,Je,Jf,Jg,Jh,Ji,Jj,Jk,Jl,Jm,Jn,Jo,Jp,Jq,Jr,Js,Jt,Ju,Jv,Jw,Jx,Jy,Jz,J0,J1,J2,J3,J4,J5,J6,J7,J8,J9,Jba,Jbb,Jbc,Jbd,Jbe,Jbf,Jbg,Jbh,Jbi,Jbj,Jbk,Jbl,Jbm,Jbn,Jbo,Jbp,Jbq,Jbr,Jbs,Jbt,List.map,Gcg,Gdg,Gag,Gbg,List.replicate,Geg,Gfg,Ggg,true_and])
    rw [r_lenL (hc5.ext e6),List.length_map]
    refine s_verdict F.init fun v H₇ e7 nv hv=>?_
    have e12 := e1.trans e2
    exact q2 v b c k lo lc lk H₇ ((e15.trans e6).trans e7) ((e15.trans e6).isNone nv) hv (e1.isNone nb) (e12.isNone nc) (e15.isNone nk)
      (hb.ne_none nc) (hb5.ne_none nk) (hc5.ne_none nk) ((hb5.ext e6).ext e7) ((hc5.ext e6).ext e7) (hk.ext e7) rfl ho hp hor hle hgr
set_option linter.all false
variable {G:GEnv} {n:Nat} {H H':AH} {Q:Post} {E:EP} {C:CS} {ρ:Loc}
noncomputable def unref:V → Nat
  | .ref a=>a
  | _=>0
theorem unref_all:∀ {xs:List V},(∀ x ∈ xs,∃ a,x = .ref a) → (xs.map unref).map V.ref = xs
  | [],_=>rfl
  | x :: r,h=>by
    obtain ⟨a,rfl⟩ := h x (by simp)
    rw [List.map_cons,List.map_cons,unref_all fun y hy=>h y (by simp [hy])]
    rfl
theorem perm_refs {xs:List V} {ks:List Nat} (h:xs.Perm (ks.map V.ref)):∃ ks':List Nat,xs = ks'.map V.ref ∧ ks'.Perm ks := by
  have h1 := unref_all (xs := xs) fun x hx=>by
    obtain ⟨a,_,rfl⟩ := List.mem_map.mp (h.mem_iff.mp hx)
    exact ⟨a,rfl⟩
  refine ⟨xs.map unref,h1.symm,?_⟩
  have h2 := h.map unref
  rw [List.map_map] at h2
  have:ks.map (unref ∘ V.ref) = ks := by
    have e:(unref ∘ V.ref) = id := by funext x; rfl
    rw [e,List.map_id]
  rwa [this] at h2
theorem r_sortT {a:Nat} {ks:List Nat} (h:H a = some (.list (ks.map V.ref))) (hl:ks.length < 64) (hp:∀ x ∈ ks,(Ex2 fun (c i:Int)=>H x = some (.tuple [.int c,.int i])))
    (q:∀ ks':List Nat,ks'.Perm ks → alloc (.list (ks'.map V.ref)) H Q):biOp .sorted [.ref a] H Q := by
  delta biOp; dsimp only; delta sortOp; dsimp only; rw [h]; dsimp only
  cases ks with
  | nil=>exact ⟨by decide,q [] (.refl _)⟩
  | cons x r =>
    refine ⟨by simpa using hl,?_,fun xs' hx'=>?_⟩
    · rw [List.all_eq_true]
      intro v hv
      obtain ⟨y,hy,rfl⟩ := List.mem_map.mp hv
      obtain ⟨c,i,e⟩ := hp y hy
      show (match H y with | some (.tuple [.int _,.int _])=>true | _=>false) = true
      rw [e]
    · obtain ⟨ks',rfl,h2⟩ := perm_refs hx'
      exact q ks' h2
noncomputable def sndOf (H:AH) (x:Nat):Int := match H x with
  | some (.tuple [_,.int i])=>i
  | _=>0
theorem sndOf_at {x:Nat} {c i:Int} (h:H x = some (.tuple [.int c,.int i])):sndOf H x = i := by unfold sndOf; rw [h]
theorem s_keyed (B:Base G) (hG:G.fn "_law_keyed" = some f_law_keyed) {ns:List Int} {m:Nat} (hm:m ≤ 60) (q:∀ a l H',Ext H H' → H a = none → LI H' a l → l.Perm (rangeI m) → Q (.ref a) H') :
    callN G (n + 2) "_law_keyed" [.script ns,.int m] H Q E := by
  refine call_of hG rfl ?_
  simp only [f_law_keyed,List.map,List.replicate,List.cons_append,List.nil_append]
  refine seq (fun ρ H₁=>(Ex2 fun (k:Nat) (ks:List Nat)=>An5 (ρ = [some (.script ns),some (.int m),some (.ref k)]) (Ext H H₁) (H₁ k = some (.list (ks.map V.ref))) (ks.length = m) (∀ (i x:Nat),ks[i]? = some x → ∃ c:Int,H₁ x = some (.tuple [.int c,.int (i:Int)])))) (fun N hN=>?_) ?_
  · rw [Jy,e_comp,c_range]
    simp (disch := first | decide | omega) only [Jb,Jc,Jd,Je,Jf,Jg,Jh,Ji,Jj,Jk,Jl,Jm,Jn,Jo,Jp,Jq,Jr,Js,Jt,Ju,Jv,Jw,Jx,Jy,Jz,J0,J1,J2,J3,J4,J5,J6,J7,J8,J9,Jba,Jbb,Jbc,Jbd,Jbe,Jbf,Jbg,Jbh,Jbi,Jbj,Jbk,Jbl,Jbm,Jbn,Jbo,Jbp,Jbq,Jbr,Jbs,Jbt,List.map,Gcg,Gdg,Gag,Gbg,List.replicate,Geg,Gfg,Ggg,true_and]
    refine ⟨by simp [big]; (first | lia | omega),?_⟩
    refine gather_ind (k := 0) (fun j acc H₁=>(Ex1 fun (ks:List Nat)=>An4 (acc = ks.map V.ref) (Ext H H₁) (ks.length = j) (∀ (i x:Nat),ks[i]? = some x → ∃ c:Int,H₁ x = some (.tuple [.int c,.int (i:Int)])))) ⟨[],rfl,Ext.refl,rfl,by simp⟩ ?_ ?_
    · rintro j x acc H₁ K' hx' ⟨ks,rfl,e,hl,hall⟩ hK'
      rw [List.getElem?_map] at hx'
      obtain ⟨j',hj,rfl⟩ := Option.map_eq_some_iff.mp hx'
      obtain ⟨hlt,he⟩ := List.getElem?_eq_some_iff.mp hj
      simp at hlt he
      subst he
      refine ⟨trivial,_,rfl,?_⟩
      simp (disch := first | decide | omega) only [Jb,Jc,Jd,Je,Jf,Jg,Jh,Ji,Jj,Jk,Jl,Jm,Jn,Jo,Jp,Jq,Jr,Js,Jt,Ju,Jv,Jw,Jx,Jy,Jz,J0,J1,J2,J3,J4,J5,J6,J7,J8,J9,Jba,Jbb,Jbc,Jbd,Jbe,Jbf,Jbg,Jbh,Jbi,Jbj,Jbk,Jbl,Jbm,Jbn,Jbo,Jbp,Jbq,Jbr,Jbs,Jbt,List.map,Gcg,Gdg,Gag,Gbg,List.replicate,Geg,Gfg,Ggg,true_and,f_law_keyed_e1,r_mul,B.cellAt,B.mixed]
      refine ⟨.inl (by decide),?_⟩
      try simp (disch := first | decide | omega) only [Jb,Jc,Jd,Je,Jf,Jg,Jh,Ji,Jj,Jk,Jl,Jm,Jn,Jo,Jp,Jq,Jr,Js,Jt,Ju,Jv,Jw,Jx,Jy,Jz,J0,J1,J2,J3,J4,J5,J6,J7,J8,J9,Jba,Jbb,Jbc,Jbd,Jbe,Jbf,Jbg,Jbh,Jbi,Jbj,Jbk,Jbl,Jbm,Jbn,Jbo,Jbp,Jbq,Jbr,Jbs,Jbt,List.map,Gcg,Gdg,Gag,Gbg,List.replicate,Geg,Gfg,Ggg,true_and]
      refine s_cellAt B.cellAt (by (first | lia | omega)) ?_
      try simp (disch := first | decide | omega) only [Jb,Jc,Jd,Je,Jf,Jg,Jh,Ji,Jj,Jk,Jl,Jm,Jn,Jo,Jp,Jq,Jr,Js,Jt,Ju,Jv,Jw,Jx,Jy,Jz,J0,J1,J2,J3,J4,J5,J6,J7,J8,J9,Jba,Jbb,Jbc,Jbd,Jbe,Jbf,Jbg,Jbh,Jbi,Jbj,Jbk,Jbl,Jbm,Jbn,Jbo,Jbp,Jbq,Jbr,Jbs,Jbt,List.map,Gcg,Gdg,Gag,Gbg,List.replicate,Geg,Gfg,Ggg,true_and]
      refine ⟨.inl (by decide),?_⟩
      refine s_mixed B.mixed fun c c0 c1=>?_
      try simp (disch := first | decide | omega) only [Jb,Jc,Jd,Je,Jf,Jg,Jh,Ji,Jj,Jk,Jl,Jm,Jn,Jo,Jp,Jq,Jr,Js,Jt,Ju,Jv,Jw,Jx,Jy,Jz,J0,J1,J2,J3,J4,J5,J6,J7,J8,J9,Jba,Jbb,Jbc,Jbd,Jbe,Jbf,Jbg,Jbh,Jbi,Jbj,Jbk,Jbl,Jbm,Jbn,Jbo,Jbp,Jbq,Jbr,Jbs,Jbt,List.map,Gcg,Gdg,Gag,Gbg,List.replicate,Geg,Gfg,Ggg,true_and]
      refine alloc_i fun y H₂ e2 n2 v2=>hK' _ _ ⟨ks ++ [y],by simp,e.trans e2,by simp [hl],fun i z hz=>?_⟩
      rcases Nat.lt_or_ge i ks.length with hlt' | hge
      · rw [List.getElem?_append_left hlt'] at hz
        obtain ⟨c',hc'⟩ := hall i z hz
        exact ⟨c',e2 _ _ hc'⟩
      · have hi := (List.getElem?_eq_some_iff.mp hz).1
        simp at hi
        have hij:i = j := by (first | lia | omega)
        subst hij
        rw [List.getElem?_append_right hge,show i - ks.length = 0 by (first | lia | omega)] at hz
        simp at hz
        subst hz
        exact ⟨c,v2⟩
    · rintro acc H₁ ⟨ks,rfl,e,hl,hall⟩
      refine ⟨trivial,?_⟩
      refine alloc_i fun k H₂ e2 n2 v2=>hN _ _ ⟨k,ks,rfl,e.trans e2,v2,by simpa using hl,fun i x hx=>?_⟩
      obtain ⟨c,hc⟩ := hall i x hx
      exact ⟨c,e2 _ _ hc⟩
  rintro _ H₁ ⟨k,ks,rfl,e,hk,hl,hall⟩
  rw [J3,J0,e_comp,c_val]
  simp (disch := first | decide | omega) only [Jb,Jc,Jd,Je,Jf,Jg,Jh,Ji,Jj,Jk,Jl,Jm,Jn,Jo,Jp,Jq,Jr,Js,Jt,Ju,Jv,Jw,Jx,Jy,Jz,J0,J1,J2,J3,J4,J5,J6,J7,J8,J9,Jba,Jbb,Jbc,Jbd,Jbe,Jbf,Jbg,Jbh,Jbi,Jbj,Jbk,Jbl,Jbm,Jbn,Jbo,Jbp,Jbq,Jbr,Jbs,Jbt,List.map,Gcg,Gdg,Gag,Gbg,List.replicate,Geg,Gfg,Ggg,true_and]
  refine r_sortT hk (by (first | lia | omega)) (fun x hx=>?_) fun ks' hperm=>?_
  · obtain ⟨i,hi⟩ := List.mem_iff_getElem?.mp hx
    obtain ⟨c,hc⟩ := hall i x hi
    exact ⟨c,i,hc⟩
  refine alloc_i fun s H₂ e2 n2 v2=>?_
  (try dsimp only)
  rw [r_srcL v2]
  have hall2:∀ (i x:Nat),ks[i]? = some x → ∃ c:Int,H₂ x = some (.tuple [.int c,.int (i:Int)]) := fun i x hx=>by
    obtain ⟨c,hc⟩ := hall i x hx
    exact ⟨c,e2 _ _ hc⟩
  refine ⟨by simp [big,hperm.length_eq,hl]; (first | lia | omega),gather_det (f := fun v=>match v with | .ref x=>some (.int (sndOf H₂ x)) | _=>none) v2 (fun v hv K hK=>?_) ?_⟩
  · obtain ⟨x,hx,rfl⟩ := List.mem_map.mp hv
    obtain ⟨i,hi⟩ := List.mem_iff_getElem?.mp (hperm.mem_iff.mp hx)
    obtain ⟨c,hc⟩ := hall2 i x hi
    have hK:K (some (.int (sndOf H₂ x))) H₂ := hK
    rw [sndOf_at hc] at hK
    simp (disch := first | decide | omega) only [Jb,Jc,Jd,Je,Jf,Jg,Jh,Ji,Jj,Jk,Jl,Jm,Jn,Jo,Jp,Jq,Jr,Js,Jt,Ju,Jv,Jw,Jx,Jy,Jz,J0,J1,J2,J3,J4,J5,J6,J7,J8,J9,Jba,Jbb,Jbc,Jbd,Jbe,Jbf,Jbg,Jbh,Jbi,Jbj,Jbk,Jbl,Jbm,Jbn,Jbo,Jbp,Jbq,Jbr,Jbs,Jbt,List.map,Gcg,Gdg,Gag,Gbg,List.replicate,Geg,Gfg,Ggg,true_and,f_law_keyed_e2,r_subT (x := .int i) (k := 1) hc (by decide) rfl]
    exact hK
  · have e1:(ks'.map V.ref).filterMap (fun v=>match v with | .ref x=>some (V.int (sndOf H₂ x)) | _=>none) = (ks'.map (sndOf H₂)).map V.int := by
      rw [List.filterMap_map,List.map_map,← List.filterMap_eq_map]
      rfl
    rw [e1]
    refine alloc_i fun a H₃ e3 n3 v3=>q a _ H₃ ((e.trans e2).trans e3) ((e.trans e2).isNone n3) v3 ?_
    have e4:ks.map (sndOf H₂) = rangeI m := by
      unfold rangeI natI
      refine List.ext_getElem (by simp [hl]) fun i h1 h2=>?_
      have hi:i < ks.length := by simpa using h1
      obtain ⟨c,hc⟩ := hall2 i ks[i] (List.getElem?_eq_getElem hi)
      simp [sndOf_at hc]
    rw [← e4]
    exact hperm.map _
theorem s_order (B:Base G) (hK:G.fn "_law_keyed" = some f_law_keyed) (hU:G.fn "_law_untied" = some f_law_untied) (hF:G.fn "_law_free" = some f_law_free) (hG:G.fn "_law_order" = some f_law_order_07) {ns:List Int} {a m:Nat} {A:Nat → Nat → Bool} (g:Gr A) (hm:m ≤ 60) (hN:NearR H a m A)
    (q0:∀ H',Ext H H' → Q .none H') (q1:∀ b o H',Ext H H' → H b = none → LI H' b o → IsOrd m o → Peo A o → Q (.ref b) H'):callN G (n + 3) "_law_order" [.script ns,.ref a] H Q E := by
  refine by_c fun no=>?_
  obtain ⟨as,n1,n2,n3⟩ := hN
  refine no ?_;clear no
  have hN:NearR H a m A := ⟨as,n1,n2,n3⟩
  have hlen:(as.map V.ref).length = m := by rw [List.length_map,n2]
  refine call_of hG rfl ?_
  simp only [f_law_order_07,List.map,List.replicate,List.cons_append,List.nil_append]
  refine seq (fun ρ H₁=>(Ex2 fun th t=>An5 (ρ = [some (.script ns),some (.ref a),some (.ref th),none,none,none]) (Ext H H₁) (H th = none) (LI H₁ th t) (t.Perm (rangeI m)))) (fun N hN'=>?_) ?_
  · simp (disch := first | decide | omega) only [Jb,Jc,Jd,Je,Jf,Jg,Jh,Ji,Jj,Jk,Jl,Jm,Jn,Jo,Jp,Jq,Jr,Js,Jt,Ju,Jv,Jw,Jx,Jy,Jz,J0,J1,J2,J3,J4,J5,J6,J7,J8,J9,Jba,Jbb,Jbc,Jbd,Jbe,Jbf,Jbg,Jbh,Jbi,Jbj,Jbk,Jbl,Jbm,Jbn,Jbo,Jbp,Jbq,Jbr,Jbs,Jbt,List.map,Gcg,Gdg,Gag,Gbg,List.replicate,Geg,Gfg,Ggg,true_and,hK,r_lenL n1]
    rw [hlen]
    exact s_keyed B hK hm fun th t H₁ e1 n1 v1 hp=>hN' _ _ ⟨th,t,rfl,e1,n1,v1,hp⟩
  rintro _ H₁ hPt42
  refine by_c fun no=>?_
  obtain ⟨th,t,rfl,e1,nt,vt,hperm⟩ := hPt42
  refine no ?_;clear no
  refine seq (fun ρ H₂=>(Ex1 fun od=>An6 (ρ = [some (.script ns),some (.ref a),some (.ref th),some (.ref od),none,none]) (Ext H H₂) (H od = none) (th ≠ od) (LI H₂ th t) (LI H₂ od []))) (fun N hN'=>?_) ?_
  · simp (disch := first | decide | omega) only [Jb,Jc,Jd,Je,Jf,Jg,Jh,Ji,Jj,Jk,Jl,Jm,Jn,Jo,Jp,Jq,Jr,Js,Jt,Ju,Jv,Jw,Jx,Jy,Jz,J0,J1,J2,J3,J4,J5,J6,J7,J8,J9,Jba,Jbb,Jbc,Jbd,Jbe,Jbf,Jbg,Jbh,Jbi,Jbj,Jbk,Jbl,Jbm,Jbn,Jbo,Jbp,Jbq,Jbr,Jbs,Jbt,List.map,Gcg,Gdg,Gag,Gbg,List.replicate,Geg,Gfg,Ggg,true_and]
    exact alloc_i fun od H₂ e2 n2 v2=>hN' _ _ ⟨od,rfl,e1.trans e2,e1.isNone n2,vt.ne_none n2,vt.ext e2,v2⟩
  rintro _ H₂ hPt43
  refine by_c fun no=>?_
  obtain ⟨od,rfl,e2,no,hto,vt2,vo2⟩ := hPt43
  refine no ?_;clear no
  have htl:t.length = m := by rw [hperm.length_eq,rangeI_len]
  rw [J3,t_for,c_range]
  simp (disch := first | decide | omega) only [Jb,Jc,Jd,Je,Jf,Jg,Jh,Ji,Jj,Jk,Jl,Jm,Jn,Jo,Jp,Jq,Jr,Js,Jt,Ju,Jv,Jw,Jx,Jy,Jz,J0,J1,J2,J3,J4,J5,J6,J7,J8,J9,Jba,Jbb,Jbc,Jbd,Jbe,Jbf,Jbg,Jbh,Jbi,Jbj,Jbk,Jbl,Jbm,Jbn,Jbo,Jbp,Jbq,Jbr,Jbs,Jbt,List.map,Gcg,Gdg,Gag,Gbg,List.replicate,Geg,Gfg,Ggg,true_and,r_lenL (e2 _ _ n1)]
  (try rw [Jbq (by (first | lia | omega)) (by rw [hlen]; (first | lia | omega))])
  rw [hlen]
  refine loop_range0 (fun i ρ H₃=>(Ex2 fun r4 r5=>An7 (ρ = [some (.script ns),some (.ref a),some (.ref th),some (.ref od),r4,r5]) (Ext H H₃) (LI H₃ od (takeAll A i [] t).1) (LI H₃ th (takeAll A i [] t).2) ((takeAll A i [] t).1.length = i) ((takeAll A i [] t).1.length + (takeAll A i [] t).2.length = m) (∀ x ∈ (takeAll A i [] t).2,0 ≤ x ∧ x < (m:Int)))) ?_ ?_ ?_
  · exact ⟨_,_,rfl,e2,vo2,vt2,rfl,by show 0 + t.length = m; (first | lia | omega),fun x hx=>rangeI_mem.mp (hperm.mem_iff.mp hx)⟩
  · rintro i ρ H₃ K hi hPt44 hK'
    refine by_c fun no=>?_
    obtain ⟨r4,r5,rfl,e3,ho,ht,hgl,htl',hin⟩ := hPt44
    refine no ?_;clear no
    have hi':i < m := by simpa using hi
    have hlast:takeAll A (i + 1) [] t = tkStep A (takeAll A i [] t) := takeAll_last
    generalize takeAll A i [] t = st at *
    obtain ⟨gn,tt⟩ := st
    simp only at ho ht hgl htl' hin
    simp (disch := first | decide | omega) only [Jb,Jc,Jd,Je,Jf,Jg,Jh,Ji,Jj,Jk,Jl,Jm,Jn,Jo,Jp,Jq,Jr,Js,Jt,Ju,Jv,Jw,Jx,Jy,Jz,J0,J1,J2,J3,J4,J5,J6,J7,J8,J9,Jba,Jbb,Jbc,Jbd,Jbe,Jbf,Jbg,Jbh,Jbi,Jbj,Jbk,Jbl,Jbm,Jbn,Jbo,Jbp,Jbq,Jbr,Jbs,Jbt,List.map,Gcg,Gdg,Gag,Gbg,List.replicate,Geg,Gfg,Ggg,true_and,f_law_order_07_b1,hF]
    refine s_lawFree hU hF (hN.ext e3) ht hin (by (first | lia | omega)) fun H₄ e4=>?_
    have ho4 := ho.ext e4
    have ht4 := ht.ext e4
    (try dsimp only)
    unfold tkStep at hlast
    cases hl:ltg A tt with
    | none =>
      rw [Ja]
      simp (disch := first | decide | omega) only [Jb,Jc,Jd,Je,Jf,Jg,Jh,Ji,Jj,Jk,Jl,Jm,Jn,Jo,Jp,Jq,Jr,Js,Jt,Ju,Jv,Jw,Jx,Jy,Jz,J0,J1,J2,J3,J4,J5,J6,J7,J8,J9,Jba,Jbb,Jbc,Jbd,Jbe,Jbf,Jbg,Jbh,Jbi,Jbj,Jbk,Jbl,Jbm,Jbn,Jbo,Jbp,Jbq,Jbr,Jbs,Jbt,List.map,Gcg,Gdg,Gag,Gbg,List.replicate,Geg,Gfg,Ggg,true_and,Option.getD_none]
      simp only [show decide ((-1:Int) < 0) = true by decide,if_true]
      try simp (disch := first | decide | omega) only [Jb,Jc,Jd,Je,Jf,Jg,Jh,Ji,Jj,Jk,Jl,Jm,Jn,Jo,Jp,Jq,Jr,Js,Jt,Ju,Jv,Jw,Jx,Jy,Jz,J0,J1,J2,J3,J4,J5,J6,J7,J8,J9,Jba,Jbb,Jbc,Jbd,Jbe,Jbf,Jbg,Jbh,Jbi,Jbj,Jbk,Jbl,Jbm,Jbn,Jbo,Jbp,Jbq,Jbr,Jbs,Jbt,List.map,Gcg,Gdg,Gag,Gbg,List.replicate,Geg,Gfg,Ggg,true_and]
      exact q0 _ (e3.trans e4)
    | some p =>
      simp only [hl] at hlast
      have hpm := ltg_mem hl
      have hpr := hin p hpm
      have hel := List.length_erase_of_mem hpm
      have hpos := List.length_pos_of_mem hpm
      rw [Ja]
      simp (disch := first | decide | omega) only [Jb,Jc,Jd,Je,Jf,Jg,Jh,Ji,Jj,Jk,Jl,Jm,Jn,Jo,Jp,Jq,Jr,Js,Jt,Ju,Jv,Jw,Jx,Jy,Jz,J0,J1,J2,J3,J4,J5,J6,J7,J8,J9,Jba,Jbb,Jbc,Jbd,Jbe,Jbf,Jbg,Jbh,Jbi,Jbj,Jbk,Jbl,Jbm,Jbn,Jbo,Jbp,Jbq,Jbr,Jbs,Jbt,List.map,Gcg,Gdg,Gag,Gbg,List.replicate,Geg,Gfg,Ggg,true_and,Option.getD_some]
      simp only [show decide (p < (0:Int)) = false by simp; (first | lia | omega),Bool.false_eq_true,if_false]
      have hbl:(gn.map V.int).length < 1048576 := by rw [List.length_map]; (first | lia | omega)
      have ht5:LI (upd H₄ od (.list (gn.map V.int ++ [.int p]))) th tt := ht4.upd_ne hto
      simp (disch := first | decide | omega) only [Jb,Jc,Jd,Je,Jf,Jg,Jh,Ji,Jj,Jk,Jl,Jm,Jn,Jo,Jp,Jq,Jr,Js,Jt,Ju,Jv,Jw,Jx,Jy,Jz,J0,J1,J2,J3,J4,J5,J6,J7,J8,J9,Jba,Jbb,Jbc,Jbd,Jbe,Jbf,Jbg,Jbh,Jbi,Jbj,Jbk,Jbl,Jbm,Jbn,Jbo,Jbp,Jbq,Jbr,Jbs,Jbt,List.map,Gcg,Gdg,Gag,Gbg,List.replicate,Geg,Gfg,Ggg,true_and,e_lm,r_kindL ho4,r_append ho4 hbl,r_kindL ht5,r_remove ht5 hpm]
      refine hK' _ _ ?_
      rw [hlast]
      exact ⟨_,_,rfl,((e3.trans e4).upd' no).upd' nt,LI.upd_ne (by unfold LI; rw [upd_self]; simp) (Ne.symm hto),upd_self,by simp [hgl],by simp; (first | lia | omega),fun x hx=>hin x (List.mem_of_mem_erase hx)⟩
  · rintro ρ H₃ hPt45
    refine by_c fun no=>?_
    obtain ⟨r4,r5,rfl,e3,ho,ht,hgl,htl',hin⟩ := hPt45
    refine no ?_;clear no
    rw [Int.toNat_natCast] at ho ht hgl htl'
    obtain ⟨h1,h2⟩ := taken_perm g hperm (List.length_eq_zero_iff.mp (by (first | lia | omega)))
    try simp (disch := first | decide | omega) only [Jb,Jc,Jd,Je,Jf,Jg,Jh,Ji,Jj,Jk,Jl,Jm,Jn,Jo,Jp,Jq,Jr,Js,Jt,Ju,Jv,Jw,Jx,Jy,Jz,J0,J1,J2,J3,J4,J5,J6,J7,J8,J9,Jba,Jbb,Jbc,Jbd,Jbe,Jbf,Jbg,Jbh,Jbi,Jbj,Jbk,Jbl,Jbm,Jbn,Jbo,Jbp,Jbq,Jbr,Jbs,Jbt,List.map,Gcg,Gdg,Gag,Gbg,List.replicate,Geg,Gfg,Ggg,true_and]
    exact q1 od _ H₃ e3 no ho h1 h2
theorem s_leastOrder {fn:Str} (hU:G.fn "_law_untied" = some f_law_untied) (hF:G.fn "_law_free" = some f_law_free) (hG:G.fn fn = some f_law_least_order) {a m:Nat} {A:Nat → Nat → Bool} {o:List Int} (g:Gr A) (hm:m ≤ 60) (hN:NearR H a m A) (hio:IsOrd m o) (hpo:Peo A o)
    (q1:∀ b o H',Ext H H' → H b = none → LI H' b o → IsOrd m o → Peo A o → o = (takeAll A m [] (rangeI m)).1 → Q (.ref b) H'):callN G (n + 3) fn [.ref a] H Q E := by
  refine by_c fun no=>?_
  obtain ⟨as,n1,n2,n3⟩ := hN
  refine no ?_;clear no
  have hN:NearR H a m A := ⟨as,n1,n2,n3⟩
  have hlen:(as.map V.ref).length = m := by rw [List.length_map,n2]
  refine call_of hG rfl ?_
  simp only [f_law_least_order,List.map,List.replicate,List.cons_append,List.nil_append]
  refine seq (fun ρ H₁=>(Ex1 fun th=>An4 (ρ = [some (.ref a),some (.ref th),none,none]) (Ext H H₁) (H th = none) (LI H₁ th (rangeI m)))) (fun N hN'=>?_) ?_
  · simp (disch := first | decide | omega) only [Jb,Jc,Jd,Je,Jf,Jg,Jh,Ji,Jj,Jk,Jl,Jm,Jn,Jo,Jp,Jq,Jr,Js,Jt,Ju,Jv,Jw,Jx,Jy,Jz,J0,J1,J2,J3,J4,J5,J6,J7,J8,J9,Jba,Jbb,Jbc,Jbd,Jbe,Jbf,Jbg,Jbh,Jbi,Jbj,Jbk,Jbl,Jbm,Jbn,Jbo,Jbp,Jbq,Jbr,Jbs,Jbt,List.map,Gcg,Gdg,Gag,Gbg,List.replicate,Geg,Gfg,Ggg,true_and,r_lenL n1]
    (try rw [Jbs (by (first | lia | omega))])
    (try rw [hlen])
    refine alloc_i fun th H₁ e1 n1 v1=>hN' _ _ ⟨th,rfl,e1,n1,?_⟩
    unfold LI; rw [v1,Int.toNat_natCast,rangeI_map]
  rintro _ H₁ hPt46
  refine by_c fun no=>?_
  obtain ⟨th,rfl,e1,nt,vt⟩ := hPt46
  refine no ?_;clear no
  refine seq (fun ρ H₂=>(Ex1 fun od=>An6 (ρ = [some (.ref a),some (.ref th),some (.ref od),none]) (Ext H H₂) (H od = none) (th ≠ od) (LI H₂ th (rangeI m)) (LI H₂ od []))) (fun N hN'=>?_) ?_
  · simp (disch := first | decide | omega) only [Jb,Jc,Jd,Je,Jf,Jg,Jh,Ji,Jj,Jk,Jl,Jm,Jn,Jo,Jp,Jq,Jr,Js,Jt,Ju,Jv,Jw,Jx,Jy,Jz,J0,J1,J2,J3,J4,J5,J6,J7,J8,J9,Jba,Jbb,Jbc,Jbd,Jbe,Jbf,Jbg,Jbh,Jbi,Jbj,Jbk,Jbl,Jbm,Jbn,Jbo,Jbp,Jbq,Jbr,Jbs,Jbt,List.map,Gcg,Gdg,Gag,Gbg,List.replicate,Geg,Gfg,Ggg,true_and]
    exact alloc_i fun od H₂ e2 n2 v2=>hN' _ _ ⟨od,rfl,e1.trans e2,e1.isNone n2,vt.ne_none n2,vt.ext e2,v2⟩
  rintro _ H₂ hPt47
  refine by_c fun no=>?_
  obtain ⟨od,rfl,e2,no,hto,vt2,vo2⟩ := hPt47
  refine no ?_;clear no
  rw [J3,t_for,c_range]
  simp (disch := first | decide | omega) only [Jb,Jc,Jd,Je,Jf,Jg,Jh,Ji,Jj,Jk,Jl,Jm,Jn,Jo,Jp,Jq,Jr,Js,Jt,Ju,Jv,Jw,Jx,Jy,Jz,J0,J1,J2,J3,J4,J5,J6,J7,J8,J9,Jba,Jbb,Jbc,Jbd,Jbe,Jbf,Jbg,Jbh,Jbi,Jbj,Jbk,Jbl,Jbm,Jbn,Jbo,Jbp,Jbq,Jbr,Jbs,Jbt,List.map,Gcg,Gdg,Gag,Gbg,List.replicate,Geg,Gfg,Ggg,true_and,r_lenL (e2 _ _ n1)]
  (try rw [Jbq (by (first | lia | omega)) (by rw [hlen]; (first | lia | omega))])
  rw [hlen]
  refine loop_range0 (fun i ρ H₃=>(Ex1 fun r3=>An8 (ρ = [some (.ref a),some (.ref th),some (.ref od),r3]) (Ext H H₃) (LI H₃ od (takeAll A i [] (rangeI m)).1) (LI H₃ th (takeAll A i [] (rangeI m)).2) ((takeAll A i [] (rangeI m)).1.length = i) ((takeAll A i [] (rangeI m)).1.length + (takeAll A i [] (rangeI m)).2.length = m) ((takeAll A i [] (rangeI m)).2.Nodup) (∀ x ∈ (takeAll A i [] (rangeI m)).2,0 ≤ x ∧ x < (m:Int)))) ?_ ?_ ?_
  · exact ⟨_,rfl,e2,vo2,vt2,rfl,by show 0 + (rangeI m).length = m; rw [rangeI_len]; (first | lia | omega),rangeI_nodup,fun x hx=>rangeI_mem.mp hx⟩
  · rintro i ρ H₃ K hi hPt48 hK'
    refine by_c fun no=>?_
    obtain ⟨r3,rfl,e3,ho,ht,hgl,htl',hnd,hin⟩ := hPt48
    refine no ?_;clear no
    have hi':i < m := by simpa using hi
    have hlast:takeAll A (i + 1) [] (rangeI m) = tkStep A (takeAll A i [] (rangeI m)) := takeAll_last
    generalize takeAll A i [] (rangeI m) = st at *
    obtain ⟨gn,tt⟩ := st
    simp only at ho ht hgl htl' hnd hin
    unfold tkStep at hlast
    cases hl:ltg A tt with
    | none =>
      have := peo_ltg g hio hpo hnd hin hl
      subst this
      simp at htl'
      (first | lia | omega)
    | some p =>
      simp only [hl] at hlast
      have hpm := ltg_mem hl
      have hpr := hin p hpm
      have hel := List.length_erase_of_mem hpm
      have hpos := List.length_pos_of_mem hpm
      have hbl:(gn.map V.int).length < 1048576 := by rw [List.length_map]; (first | lia | omega)
      simp (disch := first | decide | omega) only [Jb,Jc,Jd,Je,Jf,Jg,Jh,Ji,Jj,Jk,Jl,Jm,Jn,Jo,Jp,Jq,Jr,Js,Jt,Ju,Jv,Jw,Jx,Jy,Jz,J0,J1,J2,J3,J4,J5,J6,J7,J8,J9,Jba,Jbb,Jbc,Jbd,Jbe,Jbf,Jbg,Jbh,Jbi,Jbj,Jbk,Jbl,Jbm,Jbn,Jbo,Jbp,Jbq,Jbr,Jbs,Jbt,List.map,Gcg,Gdg,Gag,Gbg,List.replicate,Geg,Gfg,Ggg,true_and,f_law_least_order_b1,hF,e_lm,r_kindL ho]
      refine s_lawFree hU hF (hN.ext e3) ht hin (by (first | lia | omega)) fun H₄ e4=>?_
      have ho4 := ho.ext e4
      have ht4 := ht.ext e4
      (try dsimp only)
      rw [hl,Option.getD_some,r_append ho4 hbl]
      have ht5:LI (upd H₄ od (.list (gn.map V.int ++ [.int p]))) th tt := ht4.upd_ne hto
      have ho5:LI (upd H₄ od (.list (gn.map V.int ++ [.int p]))) od (gn ++ [p]) := by unfold LI; rw [upd_self]; simp
      have hsub:(gn ++ [p])[i]? = some p := by rw [List.getElem?_append_right (by (first | lia | omega)),hgl]; simp
      simp (disch := first | decide | omega) only [Jb,Jc,Jd,Je,Jf,Jg,Jh,Ji,Jj,Jk,Jl,Jm,Jn,Jo,Jp,Jq,Jr,Js,Jt,Ju,Jv,Jw,Jx,Jy,Jz,J0,J1,J2,J3,J4,J5,J6,J7,J8,J9,Jba,Jbb,Jbc,Jbd,Jbe,Jbf,Jbg,Jbh,Jbi,Jbj,Jbk,Jbl,Jbm,Jbn,Jbo,Jbp,Jbq,Jbr,Jbs,Jbt,List.map,Gcg,Gdg,Gag,Gbg,List.replicate,Geg,Gfg,Ggg,true_and,e_lm,r_kindL ht5,r_subL ho5 (Int.natCast_nonneg i) (LI.sub (a := od) hsub),r_remove ht5 hpm]
      refine hK' _ _ ?_
      rw [hlast]
      exact ⟨_,rfl,((e3.trans e4).upd' no).upd' nt,LI.upd_ne ho5 (Ne.symm hto),upd_self,by simp [hgl],by simp; (first | lia | omega),hnd.erase p,fun x hx=>hin x (List.mem_of_mem_erase hx)⟩
  · rintro ρ H₃ hPt49
    refine by_c fun no=>?_
    obtain ⟨r3,rfl,e3,ho,ht,hgl,htl',hnd,hin⟩ := hPt49
    refine no ?_;clear no
    rw [Int.toNat_natCast] at ho ht hgl htl'
    obtain ⟨h1,h2⟩ := taken_perm (m := m) (A := A) g (.refl _) (List.length_eq_zero_iff.mp (by (first | lia | omega)))
    try simp (disch := first | decide | omega) only [Jb,Jc,Jd,Je,Jf,Jg,Jh,Ji,Jj,Jk,Jl,Jm,Jn,Jo,Jp,Jq,Jr,Js,Jt,Ju,Jv,Jw,Jx,Jy,Jz,J0,J1,J2,J3,J4,J5,J6,J7,J8,J9,Jba,Jbb,Jbc,Jbd,Jbe,Jbf,Jbg,Jbh,Jbi,Jbj,Jbk,Jbl,Jbm,Jbn,Jbo,Jbp,Jbq,Jbr,Jbs,Jbt,List.map,Gcg,Gdg,Gag,Gbg,List.replicate,Geg,Gfg,Ggg,true_and]
    exact q1 od _ H₃ e3 no ho h1 h2 rfl
set_option linter.all false
variable {G:GEnv} {n:Nat} {H H':AH} {Q:Post} {E:EP} {C:CS} {ρ:Loc}
noncomputable def pickS (A:Nat → Nat → Bool) (l:List Int) (x:Int):List Int := if l.any (fun y=>A x.toNat y.toNat) then l else l ++ [x]
noncomputable def picks (A:Nat → Nat → Bool) (o:List Int):List Int := o.foldl (pickS A) []
theorem picks_snoc {A:Nat → Nat → Bool} {o:List Int} {i:Nat} {x:Int} (h:o[i]? = some x):picks A (o.take (i + 1)) = pickS A (picks A (o.take i)) x := by
  unfold picks
  rw [List.take_add_one,h,Option.toList_some,List.foldl_append]; rfl
theorem picks_sub {A:Nat → Nat → Bool}:∀ (o l:List Int) {x:Int},x ∈ o.foldl (pickS A) l → x ∈ l ∨ x ∈ o
  | [],l,x,h=>.inl h
  | y :: r,l,x,h=>by
    rw [List.foldl_cons] at h
    rcases picks_sub r _ h with h | h
    · unfold pickS at h
      split at h
      · exact .inl h
      · rcases List.mem_append.mp h with h | h
        · exact .inl h
        · simp at h; exact .inr (by rw [h]; exact .head _)
    · exact .inr (.tail _ h)
theorem picks_len {A:Nat → Nat → Bool}:∀ (o l:List Int),(o.foldl (pickS A) l).length ≤ l.length + o.length
  | [],l=>by simp
  | y :: r,l=>by
    rw [List.foldl_cons]
    have := picks_len (A := A) r (pickS A l y)
    have h2:(pickS A l y).length ≤ l.length + 1 := by
      unfold pickS
      split <;> simp
    rw [List.length_cons]; (first | lia | omega)
theorem Made.updO {a p:Nat} {as:List Nat} {rows:List (List Int)} {o:O} (b:Made H H' a as rows) (hp:H p = none) (ha:a ≠ p) (has:∀ x ∈ as,x ≠ p):Made H (upd H' p o) a as rows :=
  ⟨b.ext.upd' hp,b.new,by rw [upd_ne ha]; exact b.at_,b.lists.upd has,b.fr⟩
theorem s_apart (F:Fns2 G) (hG:G.fn "apart" = some f_apart) {w m r:Nat} {A:Nat → Nat → Bool} {o:List Int} (hm:m ≤ 60) (hW:WebR H w m A) (hL:LI H r o) (ho:IsOrd m o) (hp:Peo A o)
    (q:∀ t p c as H',Made H H' c as ((picks A o).map (crowd A o)) → H p = none → p ≠ c → (∀ x ∈ as,x ≠ p) → LI H' p (picks A o) → H t = none → H' t = some (.tuple [.ref p,.ref c]) → Q (.ref t) H'):callN G (n + 6) "apart" [.ref w,.ref r] H Q E := by
  have B := F.fns.base
  refine call_of hG rfl ?_
  simp only [f_apart,List.map,List.replicate,List.cons_append,List.nil_append]
  refine seq (fun ρ H₁=>ρ = [some (.ref w),some (.ref r),none,none,none] ∧ Ext H H₁) (fun N hN=>?_) ?_
  · simp (disch := first | decide | omega) only [Jb,Jc,Jd,Je,Jf,Jg,Jh,Ji,Jj,Jk,Jl,Jm,Jn,Jo,Jp,Jq,Jr,Js,Jt,Ju,Jv,Jw,Jx,Jy,Jz,J0,J1,J2,J3,J4,J5,J6,J7,J8,J9,Jba,Jbb,Jbc,Jbd,Jbe,Jbf,Jbg,Jbh,Jbi,Jbj,Jbk,Jbl,Jbm,Jbn,Jbo,Jbp,Jbq,Jbr,Jbs,Jbt,List.map,Gcg,Gdg,Gag,Gbg,List.replicate,Geg,Gfg,Ggg,true_and,F.needWhole]
    exact s_needWhole F hm hW hL ho hp fun H₁ e1=>hN _ _ ⟨rfl,e1⟩
  rintro _ H₀ ⟨rfl,e0⟩
  refine seq (fun ρ H₁=>(Ex1 fun p=>An4 (ρ = [some (.ref w),some (.ref r),some (.ref p),none,none]) (Ext H H₁) (H p = none) (LI H₁ p []))) (fun N hN=>?_) ?_
  · simp (disch := first | decide | omega) only [Jb,Jc,Jd,Je,Jf,Jg,Jh,Ji,Jj,Jk,Jl,Jm,Jn,Jo,Jp,Jq,Jr,Js,Jt,Ju,Jv,Jw,Jx,Jy,Jz,J0,J1,J2,J3,J4,J5,J6,J7,J8,J9,Jba,Jbb,Jbc,Jbd,Jbe,Jbf,Jbg,Jbh,Jbi,Jbj,Jbk,Jbl,Jbm,Jbn,Jbo,Jbp,Jbq,Jbr,Jbs,Jbt,List.map,Gcg,Gdg,Gag,Gbg,List.replicate,Geg,Gfg,Ggg,true_and]
    exact alloc_i fun a H₁ e1 n1 v1=>hN _ _ ⟨a,rfl,e0.trans e1,e0.isNone n1,v1⟩
  rintro _ H₁ hPt50
  refine by_c fun no=>?_
  obtain ⟨p,rfl,e1,np,vp⟩ := hPt50
  refine no ?_;clear no
  refine seq (fun ρ H₂=>(Ex1 fun c=>An4 (ρ = [some (.ref w),some (.ref r),some (.ref p),some (.ref c),none]) (Made H H₂ c [] []) (p ≠ c) (LI H₂ p []))) (fun N hN=>?_) ?_
  · simp (disch := first | decide | omega) only [Jb,Jc,Jd,Je,Jf,Jg,Jh,Ji,Jj,Jk,Jl,Jm,Jn,Jo,Jp,Jq,Jr,Js,Jt,Ju,Jv,Jw,Jx,Jy,Jz,J0,J1,J2,J3,J4,J5,J6,J7,J8,J9,Jba,Jbb,Jbc,Jbd,Jbe,Jbf,Jbg,Jbh,Jbi,Jbj,Jbk,Jbl,Jbm,Jbn,Jbo,Jbp,Jbq,Jbr,Jbs,Jbt,List.map,Gcg,Gdg,Gag,Gbg,List.replicate,Geg,Gfg,Ggg,true_and]
    exact alloc_i fun a H₂ e2 n2 v2=>hN _ _ ⟨a,rfl,⟨e1.trans e2,e1.isNone n2,v2,⟨rfl,by simp⟩,by simp⟩,vp.ne_none n2,vp.ext e2⟩
  rintro _ H₂ hPt51
  refine by_c fun no=>?_
  obtain ⟨c,rfl,b,hpc,vp2⟩ := hPt51
  refine no ?_;clear no
  rw [J3,t_for,c_val]
  simp (disch := first | decide | omega) only [Jb,Jc,Jd,Je,Jf,Jg,Jh,Ji,Jj,Jk,Jl,Jm,Jn,Jo,Jp,Jq,Jr,Js,Jt,Ju,Jv,Jw,Jx,Jy,Jz,J0,J1,J2,J3,J4,J5,J6,J7,J8,J9,Jba,Jbb,Jbc,Jbd,Jbe,Jbf,Jbg,Jbh,Jbi,Jbj,Jbk,Jbl,Jbm,Jbn,Jbo,Jbp,Jbq,Jbr,Jbs,Jbt,List.map,Gcg,Gdg,Gag,Gbg,List.replicate,Geg,Gfg,Ggg,true_and]
  rw [r_srcL (hL.ext b.ext)]
  refine loop_list (fun i ρ H₃=>(Ex2 fun r4 as=>An4 (ρ = [some (.ref w),some (.ref r),some (.ref p),some (.ref c),r4]) (Made H H₃ c as ((picks A (o.take i)).map (crowd A o))) (LI H₃ p (picks A (o.take i))) (∀ x ∈ as,x ≠ p))) ⟨_,[],rfl,by rw [List.take_zero]; exact b,by rw [List.take_zero]; exact vp2,by simp⟩ ?_ ?_ ?_
  · rintro i ρ H₃ ⟨r4,as,rfl,b,_⟩; exact hL.ext b.ext
  · rintro i v ρ H₃ K hv hPt52 hK
    refine by_c fun no=>?_
    obtain ⟨r4,as,rfl,b,vp3,has⟩ := hPt52
    refine no ?_;clear no
    refine by_c fun no=>?_
    obtain ⟨x,hx,rfl⟩ := LI.at_ (a := r) hv
    refine no ?_;clear no
    have hxo := List.mem_of_getElem? hx
    have hxr := ho.mem.mp hxo
    have hi := (List.getElem?_eq_some_iff.mp hx).1
    rw [ho.len] at hi
    have hsn := picks_snoc (A := A) hx
    have hpl:(picks A (o.take i)).length ≤ 60 := by
      have := picks_len (A := A) (o.take i) []
      rw [List.length_take,List.length_nil] at this
      unfold picks
      (first | lia | omega)
    have hin:∀ y ∈ picks A (o.take i),0 ≤ y ∧ y < (m:Int) := fun y hy=>by
      rcases picks_sub _ _ hy with h | h
      · cases h
      · exact ho.mem.mp (List.mem_of_mem_take h)
    generalize picks A (o.take i) = pk at *
    refine by_c fun no=>?_
    obtain ⟨d,rs,w1,w2,w3⟩ := hW.ext b.ext
    refine no ?_;clear no
    simp only [f_apart_b1,J3,J2,List.set_cons_succ,List.set_cons_zero]
    rw [Ja,Jh]
    rw [Jq]
    rw [Jx,e_comp,c_val]
    simp (disch := first | decide | omega) only [Jb,Jc,Jd,Je,Jf,Jg,Jh,Ji,Jj,Jk,Jl,Jm,Jn,Jo,Jp,Jq,Jr,Js,Jt,Ju,Jv,Jw,Jx,Jy,Jz,J0,J1,J2,J3,J4,J5,J6,J7,J8,J9,Jba,Jbb,Jbc,Jbd,Jbe,Jbf,Jbg,Jbh,Jbi,Jbj,Jbk,Jbl,Jbm,Jbn,Jbo,Jbp,Jbq,Jbr,Jbs,Jbt,List.map,Gcg,Gdg,Gag,Gbg,List.replicate,Geg,Gfg,Ggg,true_and]
    rw [r_srcL vp3]
    refine ⟨by simp [big]; (first | lia | omega),gather_map (h := fun y=>V.bool (A x.toNat y.toNat)) vp3 (fun y hy K' hK'=>?_) ?_⟩
    · have hyr := hin y hy
      simp (disch := first | decide | omega) only [Jb,Jc,Jd,Je,Jf,Jg,Jh,Ji,Jj,Jk,Jl,Jm,Jn,Jo,Jp,Jq,Jr,Js,Jt,Ju,Jv,Jw,Jx,Jy,Jz,J0,J1,J2,J3,J4,J5,J6,J7,J8,J9,Jba,Jbb,Jbc,Jbd,Jbe,Jbf,Jbg,Jbh,Jbi,Jbj,Jbk,Jbl,Jbm,Jbn,Jbo,Jbp,Jbq,Jbr,Jbs,Jbt,List.map,Gcg,Gdg,Gag,Gbg,List.replicate,Geg,Gfg,Ggg,true_and,f_apart_e1,e_meth,w1,w2,B.tied]
      exact s_tied B ⟨d,rs,w1,w2,w3⟩ hxr.1 hxr.2 hyr.1 hyr.2 hK'
    refine alloc_i fun s H₄ e4 _ v4=>?_
    (try dsimp only)
    rw [r_any (l := pk.map fun y=>A x.toNat y.toNat) (by rw [v4,List.map_map]; rfl)]
    (try dsimp only); (try simp (disch := first | decide | omega) only [Jb,Jc,Jd,Je,Jf,Jg,Jh,Ji,Jj,Jk,Jl,Jm,Jn,Jo,Jp,Jq,Jr,Js,Jt,Ju,Jv,Jw,Jx,Jy,Jz,J0,J1,J2,J3,J4,J5,J6,J7,J8,J9,Jba,Jbb,Jbc,Jbd,Jbe,Jbf,Jbg,Jbh,Jbi,Jbj,Jbk,Jbl,Jbm,Jbn,Jbo,Jbp,Jbq,Jbr,Jbs,Jbt,List.map,Gcg,Gdg,Gag,Gbg,List.replicate,Geg,Gfg,Ggg,true_and])
    have hal:(pk.map fun y=>A x.toNat y.toNat).any id = pk.any fun y=>A x.toNat y.toNat := by rw [List.any_map]; rfl
    rw [hal]
    unfold pickS at hsn
    by_cases hany:(pk.any fun y=>A x.toNat y.toNat) = true
    · rw [hany]
      rw [if_pos hany] at hsn
      simp only [Bool.not_true,Bool.false_eq_true,if_false]
      try simp (disch := first | decide | omega) only [Jb,Jc,Jd,Je,Jf,Jg,Jh,Ji,Jj,Jk,Jl,Jm,Jn,Jo,Jp,Jq,Jr,Js,Jt,Ju,Jv,Jw,Jx,Jy,Jz,J0,J1,J2,J3,J4,J5,J6,J7,J8,J9,Jba,Jbb,Jbc,Jbd,Jbe,Jbf,Jbg,Jbh,Jbi,Jbj,Jbk,Jbl,Jbm,Jbn,Jbo,Jbp,Jbq,Jbr,Jbs,Jbt,List.map,Gcg,Gdg,Gag,Gbg,List.replicate,Geg,Gfg,Ggg,true_and]
      exact hK _ _ ⟨_,as,rfl,by rw [hsn]; exact b.mono e4,by rw [hsn]; exact vp3.ext e4,has⟩
    · rw [if_neg hany] at hsn
      rw [Bool.not_eq_true] at hany
      rw [hany]
      simp only [Bool.not_false,if_true]
      have vp4 := vp3.ext e4
      have b4 := b.mono e4
      have hal4:(as.map V.ref).length < 1048576 := by rw [List.length_map,b.lists.1,List.length_map]; (first | lia | omega)
      have b5:Made H (upd H₄ p (.list (pk.map V.int ++ [.int x]))) c as (pk.map (crowd A o)) := b4.updO np (Ne.symm hpc) has
      have vp5:LI (upd H₄ p (.list (pk.map V.int ++ [.int x]))) p (pk ++ [x]) := by unfold LI; rw [upd_self]; simp
      simp (disch := first | decide | omega) only [Jb,Jc,Jd,Je,Jf,Jg,Jh,Ji,Jj,Jk,Jl,Jm,Jn,Jo,Jp,Jq,Jr,Js,Jt,Ju,Jv,Jw,Jx,Jy,Jz,J0,J1,J2,J3,J4,J5,J6,J7,J8,J9,Jba,Jbb,Jbc,Jbd,Jbe,Jbf,Jbg,Jbh,Jbi,Jbj,Jbk,Jbl,Jbm,Jbn,Jbo,Jbp,Jbq,Jbr,Jbs,Jbt,List.map,Gcg,Gdg,Gag,Gbg,List.replicate,Geg,Gfg,Ggg,true_and,e_lm,r_kindL vp4,r_append vp4 (show (pk.map V.int).length < 1048576 by rw [List.length_map]; (first | lia | omega)),r_kindL b5.at_,F.crowdAt]
      generalize upd H₄ p (.list (pk.map V.int ++ [.int x])) = H₅ at *
      refine s_crowdAt F hm (hW.ext b5.ext) (hL.ext b5.ext) ho hxo fun y H₆ e6 n6 v6=>?_
      (try dsimp only)
      rw [r_append (e6 _ _ b5.at_) hal4]
      have hyp:y ≠ p := Ne.symm (vp5.ne_none n6)
      refine hK _ _ ⟨_,as ++ [y],rfl,?_,?_,fun z hz=>?_⟩
      · rw [hsn,List.map_append]
        exact b5.snoc e6 n6 v6
      · rw [hsn]
        exact (vp5.ext e6).upd_ne hpc
      · rcases List.mem_append.mp hz with hz | hz
        · exact has z hz
        · simp at hz; rw [hz]; exact hyp
  · rintro ρ H₃ hPt53
    refine by_c fun no=>?_
    obtain ⟨r4,as,rfl,b,vp3,has⟩ := hPt53
    refine no ?_;clear no
    rw [List.length_map,List.take_of_length_le (Nat.le_refl _)] at b vp3
    try simp (disch := first | decide | omega) only [Jb,Jc,Jd,Je,Jf,Jg,Jh,Ji,Jj,Jk,Jl,Jm,Jn,Jo,Jp,Jq,Jr,Js,Jt,Ju,Jv,Jw,Jx,Jy,Jz,J0,J1,J2,J3,J4,J5,J6,J7,J8,J9,Jba,Jbb,Jbc,Jbd,Jbe,Jbf,Jbg,Jbh,Jbi,Jbj,Jbk,Jbl,Jbm,Jbn,Jbo,Jbp,Jbq,Jbr,Jbs,Jbt,List.map,Gcg,Gdg,Gag,Gbg,List.replicate,Geg,Gfg,Ggg,true_and]
    exact alloc_i fun t H₄ e4 n4 v4=>q t p c as H₄ (b.mono e4) np hpc has (vp3.ext e4) (b.ext.isNone n4) v4
set_option linter.all false
theorem dedup_fold:∀ (l d:List Int),d.Nodup → (l.foldl (fun d k=>if d.any (· == k) then d else d ++ [k]) d).Nodup ∧ ∀ x,x ∈ l.foldl (fun d k=>if d.any (· == k) then d else d ++ [k]) d ↔ x ∈ d ∨ x ∈ l
  | [],d,h=>⟨h,by simp⟩
  | k :: r,d,h=>by
    rw [List.foldl_cons]
    by_cases hk:k ∈ d
    · have e:d.any (· == k) = true := List.any_eq_true.mpr ⟨k,hk,by simp⟩
      rw [if_pos e]
      obtain ⟨h1,h2⟩ := dedup_fold r d h
      refine ⟨h1,fun x=>?_⟩
      rw [h2,List.mem_cons]
      constructor
      · rintro (q | q)
        · exact .inl q
        · exact .inr (.inr q)
      · rintro (q | rfl | q)
        · exact .inl q
        · exact .inl hk
        · exact .inr q
    · have e:¬ d.any (· == k) = true := fun q=>by
        obtain ⟨y,hy,hyk⟩ := List.any_eq_true.mp q
        rw [eq_of_beq hyk] at hy
        exact hk hy
      rw [if_neg e]
      obtain ⟨h1,h2⟩ := dedup_fold r (d ++ [k]) (List.nodup_append.mpr ⟨h,by simp,fun a ha b hb q=>by simp at hb; subst hb q; exact hk ha⟩)
      refine ⟨h1,fun x=>?_⟩
      rw [h2,List.mem_append,List.mem_singleton,or_assoc,List.mem_cons]
theorem dedup_nodup {l:List Int}:(dedupI l).Nodup := (dedup_fold l [] (by simp)).1
theorem dedup_mem {l:List Int} {x:Int}:x ∈ dedupI l ↔ x ∈ l := by
  have := (dedup_fold l [] (by simp)).2 x
  unfold dedupI
  rw [this]; simp
variable {G:GEnv} {n:Nat} {H H':AH} {Q:Post} {E:EP} {C:CS} {ρ:Loc}
theorem s_lawBehind (hG:G.fn "_law_behind" = some f_law_behind) {a m r i:Nat} {A:Nat → Nat → Bool} {o:List Int} {p:Int} (hm:m ≤ 60) (hN:NearR H a m A) (hL:LI H r o) (ho:IsOrd m o) (hi:o[i]? = some p)
    (q:∀ s H',Ext H H' → H s = none → LI H' s (bh A o p) → Q (.ref s) H'):callN G (n + 1) "_law_behind" [.ref a,.ref r,.int (i:Int)] H Q E := by
  refine call_of hG rfl ?_
  have hpr := ho.mem.mp (List.mem_of_getElem? hi)
  simp only [f_law_behind,List.map,List.replicate,List.cons_append,List.nil_append]
  rw [J3,J0,e_compIf,c_val]
  simp (disch := first | decide | omega) only [Jb,Jc,Jd,Je,Jf,Jg,Jh,Ji,Jj,Jk,Jl,Jm,Jn,Jo,Jp,Jq,Jr,Js,Jt,Ju,Jv,Jw,Jx,Jy,Jz,J0,J1,J2,J3,J4,J5,J6,J7,J8,J9,Jba,Jbb,Jbc,Jbd,Jbe,Jbf,Jbg,Jbh,Jbi,Jbj,Jbk,Jbl,Jbm,Jbn,Jbo,Jbp,Jbq,Jbr,Jbs,Jbt,List.map,Gcg,Gdg,Gag,Gbg,List.replicate,Geg,Gfg,Ggg,true_and]
  rw [r_slice hL b_int b_none,cut_lo (by (first | lia | omega))]
  refine alloc_i fun s H₁ e1 _ v1=>?_
  rw [show ((i:Int) + 1).toNat = i + 1 by (first | lia | omega),← List.map_drop] at v1
  rw [r_srcL v1]
  have hL1 := hL.ext e1
  refine by_c fun no=>?_
  obtain ⟨as,z,a1,a2,a3,a4⟩ := (hN.ext e1).row hpr.1 hpr.2
  refine no ?_;clear no
  refine ⟨by simp [big,ho.len]; (first | lia | omega),gather_sift (p := fun y=>A p.toNat y.toNat) v1 (fun y hy K' hK'=>?_) ?_⟩
  · have hyr := ho.mem.mp (List.mem_of_mem_drop hy)
    simp (disch := first | decide | omega) only [Jb,Jc,Jd,Je,Jf,Jg,Jh,Ji,Jj,Jk,Jl,Jm,Jn,Jo,Jp,Jq,Jr,Js,Jt,Ju,Jv,Jw,Jx,Jy,Jz,J0,J1,J2,J3,J4,J5,J6,J7,J8,J9,Jba,Jbb,Jbc,Jbd,Jbe,Jbf,Jbg,Jbh,Jbi,Jbj,Jbk,Jbl,Jbm,Jbn,Jbo,Jbp,Jbq,Jbr,Jbs,Jbt,List.map,Gcg,Gdg,Gag,Gbg,List.replicate,Geg,Gfg,Ggg,true_and,f_law_behind_c1,r_subL hL1 (Int.natCast_nonneg i) (LI.sub (a := r) hi),r_subL a1 hpr.1 a3,r_in a4,mem_adj hyr.1 hyr.2]
    split
    · rename_i h; rw [if_pos h] at hK'; exact hK'
    · rename_i h; rw [if_neg h] at hK'; exact hK'
  refine alloc_i fun s2 H₂ e2 n2 v2=>q s2 H₂ (e1.trans e2) (e1.isNone n2) ?_
  rw [bh_at ho.nodup hi]
  exact v2
structure FR (G:GEnv):Prop where
  behind:G.fn "_law_behind" = some f_law_behind
  whole:G.fn "_law_whole" = some f_law_whole
  numbers:G.fn "_law_numbers" = some f_law_numbers
set_option linter.all false
variable {G:GEnv} {n:Nat} {H H':AH} {Q:Post} {E:EP} {C:CS} {ρ:Loc}
noncomputable def hidQ (H:AH) (p q:Nat):AH := fun z=>if z = p ∨ z = q then none else H z
theorem hidQ_ext {p q:Nat}:Ext (hidQ H p q) H := fun z o e=>by
  unfold hidQ at e
  split at e
  · cases e
  · exact e
theorem hidQ_at {p q z:Nat} {o:O} (h:H z = some o) (h1:z ≠ p) (h2:z ≠ q):hidQ H p q z = some o := by
  unfold hidQ; rw [if_neg fun w=>w.elim h1 h2]; exact h
theorem hidQ_of {p q:Nat} (e:Ext H H') (hp:H p = none) (hq:H q = none):Ext H (hidQ H' p q) := fun z o h=>hidQ_at (e _ _ h) (fun w=>by rw [w,hp] at h; cases h) fun w=>by rw [w,hq] at h; cases h
theorem hidQ_p {p q:Nat}:hidQ H p q p = none := by unfold hidQ; rw [if_pos (.inl rfl)]
theorem hidQ_q {p q:Nat}:hidQ H p q q = none := by unfold hidQ; rw [if_pos (.inr rfl)]
theorem hidQ_mono {p q:Nat} (e:Ext H H'):Ext (hidQ H p q) (hidQ H' p q) := hidQ_of (hidQ_ext.trans e) hidQ_p hidQ_q
theorem hidQ_none {p q z:Nat} (h:H z = none):hidQ H p q z = none := by
  unfold hidQ
  split
  · rfl
  · exact h
theorem hidQ_upd {p q z:Nat} {o:O} (e:Ext (hidQ H p q) H') (h:z = p ∨ z = q ∨ H z = none):Ext (hidQ H p q) (upd H' z o) := e.upd' (by
  rcases h with rfl | rfl | h
  · exact hidQ_p
  · exact hidQ_q
  · exact hidQ_none h)
structure FH (G:GEnv):Prop where
  fc:FnsC G
  fr:FR G
  many:G.fn "_law_many" = some f_law_many_02
  keyed:G.fn "_law_keyed" = some f_law_keyed
  untied:G.fn "_law_untied" = some f_law_untied
  free:G.fn "_law_free" = some f_law_free
  order:G.fn "_law_order" = some f_law_order_07
  least:G.fn "_law_least_order" = some f_law_least_order
  stays:G.fn "_law_stays" = some f_law_stays
  apart:G.fn "apart" = some f_apart
theorem headC (F:FH G) (H:AH) {ns:List Int} {rest:List S} {N:Loc → AH → Prop} (q:∀ H',Q (.bool true) H')
    (k:∀ (m:Nat) (A:Nat → Nat → Bool) (t nr od w hd kp le:Nat) (o lo:List Int) (H':AH),m ≤ 60 → Gr A → NearR (hidQ H' hd kp) nr m A → WebR (hidQ H' hd kp) w m A → LI (hidQ H' hd kp) od o → LI (hidQ H' hd kp) le lo → IsOrd m o → Peo A o → IsOrd m lo → Peo A lo →
      H' hd = some (.list []) → H' kp = some (.list []) → hd ≠ kp →
      wpSs G (callN G (n + 7)) rest [some (.script ns),some (.int m),some (.ref t),some (.ref nr),some (.ref od),some (.ref w),some (.ref hd),some (.ref kp),some (.ref le),none,none,none] H' N Q E) :
    wpSs G (callN G (n + 7)) (.assign 1 (.call "_law_many" [(.var 0)]) :: .assign 2 (.call "_law_ties" [(.var 0),(.var 1),(.call "_law_rows" [(.var 0),(.var 1)])]) :: .assign 3 (.call "_law_near" [(.var 1),(.var 2)]) :: .assign 4 (.call "_law_order" [(.var 0),(.var 3)]) :: .ite (.cmp .Is (.var 4) .cnone) [.ret (.cbool true)] [] :: .assign 5 (.call "web_of" [(.var 1),(.bi .list [(.var 2)])]) :: .assign 6 (.list []) :: .assign 7 (.list []) :: .assign 8 (.call "_law_least_order" [(.var 3)]) :: rest)
      [some (.script ns),none,none,none,none,none,none,none,none,none,none,none] H N Q E := by
  have F1 := F.fc.fns2.fns
  have B := F1.base
  refine seq (fun ρ H₁=>(Ex1 fun (m:Nat)=>An3 (m ≤ 60) (ρ = [some (.script ns),some (.int m),none,none,none,none,none,none,none,none,none,none]) (H = H₁))) (fun N hN=>?_) ?_
  · simp (disch := first | decide | omega) only [Jb,Jc,Jd,Je,Jf,Jg,Jh,Ji,Jj,Jk,Jl,Jm,Jn,Jo,Jp,Jq,Jr,Js,Jt,Ju,Jv,Jw,Jx,Jy,Jz,J0,J1,J2,J3,J4,J5,J6,J7,J8,J9,Jba,Jbb,Jbc,Jbd,Jbe,Jbf,Jbg,Jbh,Jbi,Jbj,Jbk,Jbl,Jbm,Jbn,Jbo,Jbp,Jbq,Jbr,Jbs,Jbt,List.map,Gcg,Gdg,Gag,Gbg,List.replicate,Geg,Gfg,Ggg,true_and,F.many]
    exact s_many B.cellAt F.many fun m hm=>hN _ _ ⟨m,hm,rfl,rfl⟩
  rintro _ _ ⟨m,hm,rfl,rfl⟩
  refine seq (fun ρ H₂=>(Ex3 fun (t:Nat) (ts:List Nat) (ps:List (Int × Int))=>An4 (ρ = [some (.script ns),some (.int m),some (.ref t),none,none,none,none,none,none,none,none,none]) (H₂ t = some (.list (ts.map V.ref))) (PairsL H₂ ts ps) (Good m ps))) (fun N hN=>?_) ?_
  · simp (disch := first | decide | omega) only [Jb,Jc,Jd,Je,Jf,Jg,Jh,Ji,Jj,Jk,Jl,Jm,Jn,Jo,Jp,Jq,Jr,Js,Jt,Ju,Jv,Jw,Jx,Jy,Jz,J0,J1,J2,J3,J4,J5,J6,J7,J8,J9,Jba,Jbb,Jbc,Jbd,Jbe,Jbf,Jbg,Jbh,Jbi,Jbj,Jbk,Jbl,Jbm,Jbn,Jbo,Jbp,Jbq,Jbr,Jbs,Jbt,List.map,Gcg,Gdg,Gag,Gbg,List.replicate,Geg,Gfg,Ggg,true_and,B.ties,B.rows]
    refine s_rows B hm fun a as rows H₁ e _ h1 h2 h3=>?_
    exact s_ties B hm h1 h2 h3 fun t ts ps H₂ e _ h1 h2 h4 _=>hN _ _ ⟨t,ts,ps,rfl,h1,h2,good_of h3 h4⟩
  rintro _ H₂ ⟨t,ts,ps,rfl,hT,hP,hgood⟩
  have g := gr_of hgood
  refine seq (fun ρ H₃=>(Ex1 fun (nr:Nat)=>An3 (ρ = [some (.script ns),some (.int m),some (.ref t),some (.ref nr),none,none,none,none,none,none,none,none]) (Ext H₂ H₃) (NearR H₃ nr m (adjB ps)))) (fun N hN=>?_) ?_
  · simp (disch := first | decide | omega) only [Jb,Jc,Jd,Je,Jf,Jg,Jh,Ji,Jj,Jk,Jl,Jm,Jn,Jo,Jp,Jq,Jr,Js,Jt,Ju,Jv,Jw,Jx,Jy,Jz,J0,J1,J2,J3,J4,J5,J6,J7,J8,J9,Jba,Jbb,Jbc,Jbd,Jbe,Jbf,Jbg,Jbh,Jbi,Jbj,Jbk,Jbl,Jbm,Jbn,Jbo,Jbp,Jbq,Jbr,Jbs,Jbt,List.map,Gcg,Gdg,Gag,Gbg,List.replicate,Geg,Gfg,Ggg,true_and,B.near]
    exact s_near B hm hT hP hgood fun x H₃ e _ h=>hN _ _ ⟨x,rfl,e,h⟩
  rintro _ H₃ ⟨nr,rfl,e3,hNear⟩
  refine seq (fun ρ H₄=>(Ex1 fun v4=>An3 (ρ = [some (.script ns),some (.int m),some (.ref t),some (.ref nr),some v4,none,none,none,none,none,none,none]) (Ext H₃ H₄) ((v4 = .none ∨ (Ex2 fun (od:Nat) (o:List Int)=>An4 (v4 = .ref od) (LI H₄ od o) (IsOrd m o) (Peo (adjB ps) o)))))) (fun N hN=>?_) ?_
  · simp (disch := first | decide | omega) only [Jb,Jc,Jd,Je,Jf,Jg,Jh,Ji,Jj,Jk,Jl,Jm,Jn,Jo,Jp,Jq,Jr,Js,Jt,Ju,Jv,Jw,Jx,Jy,Jz,J0,J1,J2,J3,J4,J5,J6,J7,J8,J9,Jba,Jbb,Jbc,Jbd,Jbe,Jbf,Jbg,Jbh,Jbi,Jbj,Jbk,Jbl,Jbm,Jbn,Jbo,Jbp,Jbq,Jbr,Jbs,Jbt,List.map,Gcg,Gdg,Gag,Gbg,List.replicate,Geg,Gfg,Ggg,true_and,F.order]
    exact s_order B F.keyed F.untied F.free F.order g hm hNear (fun H₄ e4=>hN _ _ ⟨_,rfl,e4,.inl rfl⟩) fun b o H₄ e4 _ v4 h1 h2=>hN _ _ ⟨_,rfl,e4,.inr ⟨b,o,rfl,v4,h1,h2⟩⟩
  rintro _ H₄ ⟨v4,rfl,e4,h4⟩
  rcases h4 with rfl | ⟨od,o,rfl,vo,hio,hpo⟩
  · rw [J3,Ja]
    simp (disch := first | decide | omega) only [Jb,Jc,Jd,Je,Jf,Jg,Jh,Ji,Jj,Jk,Jl,Jm,Jn,Jo,Jp,Jq,Jr,Js,Jt,Ju,Jv,Jw,Jx,Jy,Jz,J0,J1,J2,J3,J4,J5,J6,J7,J8,J9,Jba,Jbb,Jbc,Jbd,Jbe,Jbf,Jbg,Jbh,Jbi,Jbj,Jbk,Jbl,Jbm,Jbn,Jbo,Jbp,Jbq,Jbr,Jbs,Jbt,List.map,Gcg,Gdg,Gag,Gbg,List.replicate,Geg,Gfg,Ggg,true_and]
    simp only [if_true]
    try simp (disch := first | decide | omega) only [Jb,Jc,Jd,Je,Jf,Jg,Jh,Ji,Jj,Jk,Jl,Jm,Jn,Jo,Jp,Jq,Jr,Js,Jt,Ju,Jv,Jw,Jx,Jy,Jz,J0,J1,J2,J3,J4,J5,J6,J7,J8,J9,Jba,Jbb,Jbc,Jbd,Jbe,Jbf,Jbg,Jbh,Jbi,Jbj,Jbk,Jbl,Jbm,Jbn,Jbo,Jbp,Jbq,Jbr,Jbs,Jbt,List.map,Gcg,Gdg,Gag,Gbg,List.replicate,Geg,Gfg,Ggg,true_and]
    exact q _
  refine seq (fun ρ H₅=>ρ = [some (.script ns),some (.int m),some (.ref t),some (.ref nr),some (.ref od),none,none,none,none,none,none,none] ∧ H₄ = H₅) (fun N hN=>?_) ?_
  · rw [Ja]
    simp (disch := first | decide | omega) only [Jb,Jc,Jd,Je,Jf,Jg,Jh,Ji,Jj,Jk,Jl,Jm,Jn,Jo,Jp,Jq,Jr,Js,Jt,Ju,Jv,Jw,Jx,Jy,Jz,J0,J1,J2,J3,J4,J5,J6,J7,J8,J9,Jba,Jbb,Jbc,Jbd,Jbe,Jbf,Jbg,Jbh,Jbi,Jbj,Jbk,Jbl,Jbm,Jbn,Jbo,Jbp,Jbq,Jbr,Jbs,Jbt,List.map,Gcg,Gdg,Gag,Gbg,List.replicate,Geg,Gfg,Ggg,true_and]
    simp only [Bool.false_eq_true,if_false]
    exact hN _ _ ⟨rfl,rfl⟩
  rintro _ _ ⟨rfl,rfl⟩
  refine seq (fun ρ H₅=>(Ex1 fun (w:Nat)=>An3 (ρ = [some (.script ns),some (.int m),some (.ref t),some (.ref nr),some (.ref od),some (.ref w),none,none,none,none,none,none]) (Ext H₄ H₅) (WebR H₅ w m (adjB ps)))) (fun N hN=>?_) ?_
  · simp (disch := first | decide | omega) only [Jb,Jc,Jd,Je,Jf,Jg,Jh,Ji,Jj,Jk,Jl,Jm,Jn,Jo,Jp,Jq,Jr,Js,Jt,Ju,Jv,Jw,Jx,Jy,Jz,J0,J1,J2,J3,J4,J5,J6,J7,J8,J9,Jba,Jbb,Jbc,Jbd,Jbe,Jbf,Jbg,Jbh,Jbi,Jbj,Jbk,Jbl,Jbm,Jbn,Jbo,Jbp,Jbq,Jbr,Jbs,Jbt,List.map,Gcg,Gdg,Gag,Gbg,List.replicate,Geg,Gfg,Ggg,true_and,B.webOf,r_listL (e4 _ _ (e3 _ _ hT))]
    refine alloc_i fun t' H₅ e5 _ v5=>?_
    exact s_webOf B hm v5 (hP.ext ((e3.trans e4).trans e5)) hgood fun w H₆ e6 _ h=>hN _ _ ⟨w,rfl,e5.trans e6,h⟩
  rintro _ H₅ ⟨w,rfl,e5,hWeb⟩
  have hN5 := (hNear.ext e4).ext e5
  have vo5 := vo.ext e5
  generalize adjB ps = A at *
  refine seq (fun ρ H₆=>(Ex1 fun hd=>An4 (ρ = [some (.script ns),some (.int m),some (.ref t),some (.ref nr),some (.ref od),some (.ref w),some (.ref hd),none,none,none,none,none]) (Ext H₅ H₆) (H₅ hd = none) (H₆ hd = some (.list [])))) (fun N hN=>?_) ?_
  · simp (disch := first | decide | omega) only [Jb,Jc,Jd,Je,Jf,Jg,Jh,Ji,Jj,Jk,Jl,Jm,Jn,Jo,Jp,Jq,Jr,Js,Jt,Ju,Jv,Jw,Jx,Jy,Jz,J0,J1,J2,J3,J4,J5,J6,J7,J8,J9,Jba,Jbb,Jbc,Jbd,Jbe,Jbf,Jbg,Jbh,Jbi,Jbj,Jbk,Jbl,Jbm,Jbn,Jbo,Jbp,Jbq,Jbr,Jbs,Jbt,List.map,Gcg,Gdg,Gag,Gbg,List.replicate,Geg,Gfg,Ggg,true_and]
    exact alloc_i fun hd H₆ e6 n6 v6=>hN _ _ ⟨hd,rfl,e6,n6,v6⟩
  rintro _ H₆ ⟨hd,rfl,e6,n6,v6⟩
  refine seq (fun ρ H₇=>(Ex1 fun kp=>An6 (ρ = [some (.script ns),some (.int m),some (.ref t),some (.ref nr),some (.ref od),some (.ref w),some (.ref hd),some (.ref kp),none,none,none,none]) (Ext H₅ H₇) (H₅ kp = none) (hd ≠ kp) (H₇ hd = some (.list [])) (H₇ kp = some (.list [])))) (fun N hN=>?_) ?_
  · simp (disch := first | decide | omega) only [Jb,Jc,Jd,Je,Jf,Jg,Jh,Ji,Jj,Jk,Jl,Jm,Jn,Jo,Jp,Jq,Jr,Js,Jt,Ju,Jv,Jw,Jx,Jy,Jz,J0,J1,J2,J3,J4,J5,J6,J7,J8,J9,Jba,Jbb,Jbc,Jbd,Jbe,Jbf,Jbg,Jbh,Jbi,Jbj,Jbk,Jbl,Jbm,Jbn,Jbo,Jbp,Jbq,Jbr,Jbs,Jbt,List.map,Gcg,Gdg,Gag,Gbg,List.replicate,Geg,Gfg,Ggg,true_and]
    refine alloc_i fun kp H₇ e7 n7 v7=>hN _ _ ⟨kp,rfl,e6.trans e7,e6.isNone n7,fun z=>?_,e7 _ _ v6,v7⟩
    rw [← z,v6] at n7; cases n7
  rintro _ H₇ ⟨kp,rfl,e7,n7,hhk,v7,v7'⟩
  refine seq (fun ρ H₈=>(Ex2 fun (le:Nat) (lo:List Int)=>An5 (ρ = [some (.script ns),some (.int m),some (.ref t),some (.ref nr),some (.ref od),some (.ref w),some (.ref hd),some (.ref kp),some (.ref le),none,none,none]) (Ext H₇ H₈) (LI (hidQ H₈ hd kp) le lo) (IsOrd m lo) (Peo A lo))) (fun N hN=>?_) ?_
  · simp (disch := first | decide | omega) only [Jb,Jc,Jd,Je,Jf,Jg,Jh,Ji,Jj,Jk,Jl,Jm,Jn,Jo,Jp,Jq,Jr,Js,Jt,Ju,Jv,Jw,Jx,Jy,Jz,J0,J1,J2,J3,J4,J5,J6,J7,J8,J9,Jba,Jbb,Jbc,Jbd,Jbe,Jbf,Jbg,Jbh,Jbi,Jbj,Jbk,Jbl,Jbm,Jbn,Jbo,Jbp,Jbq,Jbr,Jbs,Jbt,List.map,Gcg,Gdg,Gag,Gbg,List.replicate,Geg,Gfg,Ggg,true_and,F.least]
    refine s_leastOrder F.untied F.free F.least g hm (hN5.ext e7) hio hpo fun b lo H₈ e8 n8 v8 h1 h2 _=>hN _ _ ⟨b,lo,rfl,e8,hidQ_at v8 (fun z=>?_) (fun z=>?_),h1,h2⟩
    · rw [z,v7] at n8; cases n8
    · rw [z,v7'] at n8; cases n8
  rintro _ H₈ ⟨le,lo,rfl,e8,vle,h1,h2⟩
  have e58 := hidQ_of (e7.trans e8) n6 n7
  exact k m A t nr od w hd kp le o lo H₈ hm g (hN5.ext e58) (hWeb.ext e58) (vo5.ext e58) vle hio hpo h1 h2 (e8 _ _ v7) (e8 _ _ v7') hhk
theorem lastC (F:FH G) {m nr w hd kp:Nat} {A:Nat → Nat → Bool} {ks:List Nat} {r0 r1 r2 r4 r6 r8 r9 r10 r11:Option V} {c:X} {N:Loc → AH → Prop} (hm:m ≤ 60) (hN:NearR (hidQ H hd kp) nr m A) (hW:WebR (hidQ H hd kp) w m A) (hk:H kp = some (.list (ks.map V.ref))) (hl:ks.length ≤ 3)
    (hc:∀ (ρ:Loc) (H₁:AH),Ext H H₁ → ∀ x ∈ ks,∀ Q':Post,Q' (.bool false) H₁ → wpE G (callN G (n + 7)) c (some (.ref x) :: ρ) H₁ Q' EF) (q:∀ H',Q (.bool true) H') :
    wpSs G (callN G (n + 7)) [.ret (.and (.call "_law_stays" [(.var 5),(.var 3)]) (.cmp .Eq (.compIf 1 (.val (.var 7)) c (.var 0)) (.list [])))] [r0,r1,r2,some (.ref nr),r4,some (.ref w),r6,some (.ref kp),r8,r9,r10,r11] H N Q E := by
  have F1 := F.fc.fns2.fns
  rw [J3,J0,Jj,Jp]
  refine ⟨by rw [F.stays]; rfl,?_⟩
  simp (disch := first | decide | omega) only [Jb,Jc,Jd,Je,Jf,Jg,Jh,Ji,Jj,Jk,Jl,Jm,Jn,Jo,Jp,Jq,Jr,Js,Jt,Ju,Jv,Jw,Jx,Jy,Jz,J0,J1,J2,J3,J4,J5,J6,J7,J8,J9,Jba,Jbb,Jbc,Jbd,Jbe,Jbf,Jbg,Jbh,Jbi,Jbj,Jbk,Jbl,Jbm,Jbn,Jbo,Jbp,Jbq,Jbr,Jbs,Jbt,List.map,Gcg,Gdg,Gag,Gbg,List.replicate,Geg,Gfg,Ggg,true_and]
  refine s_stays F1.base F1.beside F.fr.whole F.fr.numbers F.stays hm (hW.ext hidQ_ext) (hN.ext hidQ_ext) fun H₁ e1=>?_
  (try dsimp only); (try simp (disch := first | decide | omega) only [Jb,Jc,Jd,Je,Jf,Jg,Jh,Ji,Jj,Jk,Jl,Jm,Jn,Jo,Jp,Jq,Jr,Js,Jt,Ju,Jv,Jw,Jx,Jy,Jz,J0,J1,J2,J3,J4,J5,J6,J7,J8,J9,Jba,Jbb,Jbc,Jbd,Jbe,Jbf,Jbg,Jbh,Jbi,Jbj,Jbk,Jbl,Jbm,Jbn,Jbo,Jbp,Jbq,Jbr,Jbs,Jbt,List.map,Gcg,Gdg,Gag,Gbg,List.replicate,Geg,Gfg,Ggg,true_and])
  simp only [if_true]
  rw [e_compIf,c_val]
  simp (disch := first | decide | omega) only [Jb,Jc,Jd,Je,Jf,Jg,Jh,Ji,Jj,Jk,Jl,Jm,Jn,Jo,Jp,Jq,Jr,Js,Jt,Ju,Jv,Jw,Jx,Jy,Jz,J0,J1,J2,J3,J4,J5,J6,J7,J8,J9,Jba,Jbb,Jbc,Jbd,Jbe,Jbf,Jbg,Jbh,Jbi,Jbj,Jbk,Jbl,Jbm,Jbn,Jbo,Jbp,Jbq,Jbr,Jbs,Jbt,List.map,Gcg,Gdg,Gag,Gbg,List.replicate,Geg,Gfg,Ggg,true_and]
  rw [r_srcL (e1 _ _ hk)]
  refine ⟨by simp [big]; (first | lia | omega),gather_det (f := fun _=>none) (e1 _ _ hk) (fun v hv K hK=>?_) ?_⟩
  · obtain ⟨x,hx,rfl⟩ := List.mem_map.mp hv
    refine hc _ H₁ e1 x hx _ ?_
    (try dsimp only); (try simp (disch := first | decide | omega) only [Jb,Jc,Jd,Je,Jf,Jg,Jh,Ji,Jj,Jk,Jl,Jm,Jn,Jo,Jp,Jq,Jr,Js,Jt,Ju,Jv,Jw,Jx,Jy,Jz,J0,J1,J2,J3,J4,J5,J6,J7,J8,J9,Jba,Jbb,Jbc,Jbd,Jbe,Jbf,Jbg,Jbh,Jbi,Jbj,Jbk,Jbl,Jbm,Jbn,Jbo,Jbp,Jbq,Jbr,Jbs,Jbt,List.map,Gcg,Gdg,Gag,Gbg,List.replicate,Geg,Gfg,Ggg,true_and])
    simpa using hK
  · rw [show (ks.map V.ref).filterMap (fun _=>(none:Option V)) = [] by simp]
    refine alloc_i fun s1 H₂ e2 _ v2=>?_
    (try dsimp only); (try simp (disch := first | decide | omega) only [Jb,Jc,Jd,Je,Jf,Jg,Jh,Ji,Jj,Jk,Jl,Jm,Jn,Jo,Jp,Jq,Jr,Js,Jt,Ju,Jv,Jw,Jx,Jy,Jz,J0,J1,J2,J3,J4,J5,J6,J7,J8,J9,Jba,Jbb,Jbc,Jbd,Jbe,Jbf,Jbg,Jbh,Jbi,Jbj,Jbk,Jbl,Jbm,Jbn,Jbo,Jbp,Jbq,Jbr,Jbs,Jbt,List.map,Gcg,Gdg,Gag,Gbg,List.replicate,Geg,Gfg,Ggg,true_and])
    refine alloc_i fun s2 H₃ e3 _ v3=>?_
    (try dsimp only); (try simp (disch := first | decide | omega) only [Jb,Jc,Jd,Je,Jf,Jg,Jh,Ji,Jj,Jk,Jl,Jm,Jn,Jo,Jp,Jq,Jr,Js,Jt,Ju,Jv,Jw,Jx,Jy,Jz,J0,J1,J2,J3,J4,J5,J6,J7,J8,J9,Jba,Jbb,Jbc,Jbd,Jbe,Jbf,Jbg,Jbh,Jbi,Jbj,Jbk,Jbl,Jbm,Jbn,Jbo,Jbp,Jbq,Jbr,Jbs,Jbt,List.map,Gcg,Gdg,Gag,Gbg,List.replicate,Geg,Gfg,Ggg,true_and])
    rw [r_eqL (l := []) (l' := []) (e3 _ _ v2) v3]
    simpa using q _
set_option linter.all false
/-! what full_crowds gives,in plain words -/
theorem crowd_in {m:Nat} {A:Nat → Nat → Bool} {o:List Int} {p x:Int} (ho:IsOrd m o) (hp:p ∈ o) (h:x ∈ crowd A o p):x ∈ o := by
  rcases crowd_mem.mp h with rfl | h
  · exact hp
  · exact bh_mem h
theorem crowd_nodup {m:Nat} {A:Nat → Nat → Bool} {o:List Int} {p:Int} (ho:IsOrd m o):(p :: bh A o p).Nodup := by
  rw [List.nodup_cons]
  refine ⟨fun q=>?_,bh_nodup ho.nodup⟩
  have := ((bh_iff ho.nodup).mp q).2.1
  (first | lia | omega)
theorem crowd_lt {m:Nat} {A:Nat → Nat → Bool} {o:List Int} {p:Int} (ho:IsOrd m o):(crowd A o p).Pairwise (· < ·) := sortI_lt (crowd_nodup ho)
theorem crowd_cl {m:Nat} {A:Nat → Nat → Bool} {o:List Int} {p:Int} (g:Gr A) (ho:IsOrd m o) (hp:Peo A o) (hpo:p ∈ o):Clique A (crowd A o p) := by
  intro a ha b hb hab
  rcases crowd_mem.mp ha with rfl | ha <;> rcases crowd_mem.mp hb with rfl | hb
  · exact absurd rfl hab
  · exact ((bh_iff ho.nodup).mp hb).2.2
  · rw [g.symm]; exact ((bh_iff ho.nodup).mp ha).2.2
  · exact peo_cl g ho.nodup hp hpo a ha b hb hab
theorem crowd_late {m:Nat} {A:Nat → Nat → Bool} {o:List Int} {p x:Int} (ho:IsOrd m o) (h:x ∈ crowd A o p):o.idxOf p ≤ o.idxOf x := by
  rcases crowd_mem.mp h with rfl | h
  · exact Nat.le_refl _
  · have := ((bh_iff ho.nodup).mp h).2.1
    (first | lia | omega)
theorem crowd_ne {m:Nat} {A:Nat → Nat → Bool} {o:List Int} {p q:Int} (ho:IsOrd m o) (h:o.idxOf p < o.idxOf q):crowd A o p ≠ crowd A o q := fun e=>by
  have h1:p ∈ crowd A o q := by rw [← e]; exact crowd_mem.mpr (.inl rfl)
  have := crowd_late ho h1
  (first | lia | omega)
variable {G:GEnv} {n:Nat} {H H':AH} {Q:Post} {E:EP} {C:CS} {ρ:Loc}
set_option linter.all false
theorem crowd_inj {m:Nat} {A:Nat → Nat → Bool} {o:List Int} {p q:Int} (ho:IsOrd m o) (hp:p ∈ o) (hq:q ∈ o) (h:crowd A o p = crowd A o q):p = q := by
  rcases Nat.lt_trichotomy (o.idxOf p) (o.idxOf q) with z | z | z
  · exact absurd h (crowd_ne ho z)
  · exact idx_inj hp hq z
  · exact absurd h.symm (crowd_ne ho z)
variable {G:GEnv} {n:Nat} {H H':AH} {Q:Post} {E:EP} {C:CS} {ρ:Loc}
set_option linter.all false
variable {G:GEnv} {n:Nat} {H H':AH} {Q:Post} {E:EP} {C:CS} {ρ:Loc}
theorem LI.same {y:Nat} {r r':List Int} (h:LI H y r) (h':LI H y r'):r = r' := by
  unfold LI at h h'
  rw [h] at h'
  have h2:ints? (r.map V.int) = ints? (r'.map V.int) := congrArg (fun (o:Option O)=>match o with | some (.list xs)=>ints? xs | _=>none) h'
  rw [ints_map,ints_map] at h2
  exact Option.some.inj h2
theorem Made.set0 {a x:Nat} {as:List Nat} {rows:List (List Int)} {r r':List Int} (b:Made H H' a as rows) (hn:rows.Nodup) (hx:as[0]? = some x) (hr:rows[0]? = some r):Made H (upd H' x (.list (r'.map V.int))) a as (rows.set 0 r') := by
  have hf := b.fr x (List.mem_of_getElem? hx)
  refine ⟨b.ext.upd' hf.2,b.new,by rw [upd_ne (Ne.symm hf.1)]; exact b.at_,⟨by rw [List.length_set]; exact b.lists.1,fun i y s h1 h2=>?_⟩,b.fr⟩
  by_cases hi:i = 0
  · subst hi
    rw [hx] at h1
    cases h1
    rw [List.getElem?_set_self (List.getElem?_eq_some_iff.mp hr).1] at h2
    cases h2
    exact upd_self
  · rw [List.getElem?_set_ne (Ne.symm hi)] at h2
    have h3 := b.lists.2 i y s h1 h2
    refine h3.upd_ne fun z=>?_
    subst z
    have := (b.lists.2 0 _ r hx hr).same h3
    subst this
    obtain ⟨l1,e1⟩ := List.getElem?_eq_some_iff.mp hr
    obtain ⟨l2,e2⟩ := List.getElem?_eq_some_iff.mp h2
    exact List.pairwise_iff_getElem.mp hn 0 i l1 l2 (by (first | lia | omega)) (by rw [e1,e2])
theorem gather_copies {a:Nat} {as:List Nat} {rows:List (List Int)} {elt:Loc → AH → (Option V → AH → Prop) → Prop} {Q:List V → AH → Prop} {y:Option V} (hA:H a = some (.list (as.map V.ref))) (hR:RowsL H as rows)
    (step:∀ x r H₁ (K:Option V → AH → Prop),LI H₁ x r → (∀ b,H₁ b = none → K (some (.ref b)) (upd H₁ b (.list (r.map V.int)))) → elt (some (.ref x) :: ρ) H₁ K)
    (fin:∀ (bs:List Nat) H₁,Ext H H₁ → RowsL H₁ bs rows → (∀ x ∈ bs,H x = none) → Q (bs.map V.ref) H₁) :
    gather (fun H'=>H' a = some (.list (as.map V.ref))) (.one 0) elt Q ((as.map V.ref).map .v) [] (y :: ρ) H := by
  refine gather_ind (k := 0) (fun j acc H₁=>(Ex1 fun (bs:List Nat)=>An4 (acc = bs.map V.ref) (Ext H H₁) (RowsL H₁ bs (rows.take j)) (∀ x ∈ bs,H x = none))) ⟨[],rfl,Ext.refl,⟨rfl,by simp⟩,by simp⟩ ?_ ?_
  · rintro j x acc H₁ K hx ⟨bs,rfl,e,hl,hb⟩ hK
    rw [List.getElem?_map,List.getElem?_map] at hx
    obtain ⟨v,hv,rfl⟩ := Option.map_eq_some_iff.mp hx
    obtain ⟨x,hx',rfl⟩ := Option.map_eq_some_iff.mp hv
    have hxl := (List.getElem?_eq_some_iff.mp hx').1
    have hri := List.getElem?_eq_getElem (l := rows) (i := j) (by rw [← hR.1]; exact hxl)
    generalize rows[j]'(by rw [← hR.1]; exact hxl) = r at hri
    refine ⟨e _ _ hA,_,rfl,step x r H₁ K ((hR.2 j x r hx' hri).ext e) fun b hb0=>hK _ _ ⟨bs ++ [b],by simp,e.trans (Ext.upd hb0),?_,fun z hz=>?_⟩⟩
    · rw [show 0 + j + 1 = j + 1 by (first | lia | omega),List.take_add_one,hri]
      rw [Nat.zero_add] at hl
      exact (hl.ext (Ext.upd hb0)).snoc upd_self
    · rcases List.mem_append.mp hz with hz | hz
      · exact hb z hz
      · simp at hz; rw [hz]; exact e.isNone hb0
  · rintro acc H₁ ⟨bs,rfl,e,hl,hb⟩
    rw [List.length_map,List.length_map,Nat.zero_add,List.take_of_length_le (by rw [hR.1]; exact Nat.le_refl _)] at hl
    exact ⟨e _ _ hA,fin bs H₁ e hl hb⟩
theorem allO_t:∀ {l:List (Option Bool)},(∀ x ∈ l,x = some true) → allO l = some true
  | [],_=>rfl
  | x :: r,h=>by
    rw [h x (by simp)]
    show (allO r).map (true && ·) = some true
    rw [allO_t fun y hy=>h y (by simp [hy])]
    rfl
theorem eqD_rows {n a b:Nat} {as bs:List Nat} {rows:List (List Int)} (h:H a = some (.list (as.map V.ref))) (h':H b = some (.list (bs.map V.ref))) (hR:RowsL H as rows) (hS:RowsL H bs rows):eqD (n + 1 + 1) H (.ref a) (.ref b) = some true := by
  rw [eqD_LL h h',if_pos (by rw [List.length_map,List.length_map,hR.1,hS.1])]
  refine allO_t fun x hx=>?_
  obtain ⟨i,hi,rfl⟩ := List.mem_iff_getElem.mp hx
  rw [List.length_zipWith,List.length_map,List.length_map] at hi
  have h1:i < as.length := by omega
  have h2:i < bs.length := by omega
  rw [List.getElem_zipWith,List.getElem_map,List.getElem_map,eqD_LI (hR.2 i _ _ (List.getElem?_eq_getElem h1) (List.getElem?_eq_getElem (by rw [← hR.1]; exact h1))) (hS.2 i _ _ (List.getElem?_eq_getElem h2) (List.getElem?_eq_getElem (by rw [← hR.1]; exact h1))),decide_eq_true rfl]
theorem RowsL.hid {p q:Nat} {as:List Nat} {rows:List (List Int)} (h:RowsL H as rows) (hn:∀ x ∈ as,x ≠ p ∧ x ≠ q):RowsL (hidQ H p q) as rows := ⟨h.1,fun i x r h1 h2=>hidQ_at (h.2 i x r h1 h2) (hn x (List.mem_of_getElem? h1)).1 (hn x (List.mem_of_getElem? h1)).2⟩
set_option linter.all false
theorem picks_subl {A:Nat → Nat → Bool}:∀ (o l:List Int),(o.foldl (pickS A) l).Sublist (l ++ o)
  | [],l=>by simp
  | y :: r,l=>by
    rw [List.foldl_cons]
    refine (picks_subl r _).trans ?_
    unfold pickS
    split
    · exact (List.Sublist.refl l).append (List.sublist_cons_self _ _)
    · rw [List.append_assoc]; exact List.Sublist.refl _
theorem filter_subl:∀ {l o:List Int},l.Sublist o → o.Nodup → o.filter (fun x=>decide (x ∈ l)) = l
  | _,_,.slnil,_=>rfl
  | l,a :: o,.cons _ h,hn=>by
    have ha:a ∉ l := fun q=>(List.nodup_cons.mp hn).1 (h.subset q)
    rw [List.filter_cons_of_neg (by simpa using ha)]
    exact filter_subl h (List.nodup_cons.mp hn).2
  | a :: l,_ :: o,.cons₂ _ h,hn=>by
    rw [List.filter_cons_of_pos (by simp)]
    congr 1
    rw [← filter_subl h (List.nodup_cons.mp hn).2]
    refine List.filter_congr fun x hx=>?_
    have:x ≠ a := fun e=>(List.nodup_cons.mp hn).1 (e ▸ hx)
    rw [filter_subl h (List.nodup_cons.mp hn).2]
    simp [this]
theorem picks_apart {A:Nat → Nat → Bool} (g:Gr A):∀ (o l:List Int),(∀ x ∈ l,∀ y ∈ l,A x.toNat y.toNat = false) → ∀ x ∈ o.foldl (pickS A) l,∀ y ∈ o.foldl (pickS A) l,A x.toNat y.toNat = false
  | [],l,h=>h
  | z :: r,l,h=>by
    rw [List.foldl_cons]
    refine picks_apart g r _ ?_
    unfold pickS
    split
    · exact h
    · rename_i hz
      have hz':∀ y ∈ l,A z.toNat y.toNat = false := fun y hy=>by
        cases q:A z.toNat y.toNat with
        | false=>rfl
        | true=>exact absurd (List.any_eq_true.mpr ⟨y,hy,q⟩) hz
      intro x hx y hy
      rcases List.mem_append.mp hx with hx | hx <;> rcases List.mem_append.mp hy with hy | hy
      · exact h x hx y hy
      · rw [List.mem_singleton.mp hy,g.symm]; exact hz' x hx
      · rw [List.mem_singleton.mp hx]; exact hz' y hy
      · rw [List.mem_singleton.mp hx,List.mem_singleton.mp hy]; exact g.irr _
theorem picks_keep {A:Nat → Nat → Bool}:∀ (o l:List Int) {x:Int},x ∈ l → x ∈ o.foldl (pickS A) l
  | [],l,x,h=>h
  | z :: r,l,x,h=>by
    rw [List.foldl_cons]
    refine picks_keep r _ ?_
    unfold pickS
    split
    · exact h
    · exact List.mem_append_left _ h
theorem picks_cover {m:Nat} {A:Nat → Nat → Bool} {o:List Int} (g:Gr A) (ho:IsOrd m o) {x:Int} (hx:x ∈ o):∃ p ∈ picks A o,x ∈ crowd A o p := by
  obtain ⟨i,hi⟩ := List.mem_iff_getElem?.mp hx
  have hsplit:picks A o = (o.drop (i + 1)).foldl (pickS A) (pickS A (picks A (o.take i)) x) := by
    rw [← picks_snoc hi]
    unfold picks
    rw [← List.foldl_append,List.take_append_drop]
  have hs := hsplit
  unfold pickS at hs
  split at hs
  · rename_i q
    obtain ⟨y,hy,hxy⟩ := List.any_eq_true.mp q
    refine ⟨y,by rw [hsplit]; exact picks_keep _ _ (by unfold pickS; rw [if_pos q]; exact hy),crowd_mem.mpr (.inr ((bh_iff ho.nodup).mpr ⟨hx,?_,by rw [g.symm]; exact hxy⟩))⟩
    rcases picks_sub _ _ hy with h | h
    · cases h
    · obtain ⟨j,hj⟩ := List.mem_iff_getElem?.mp h
      rw [List.getElem?_take] at hj
      split at hj
      · rename_i hji
        rw [idx_at ho.nodup hj,idx_at ho.nodup hi]
        exact hji
      · cases hj
  · rename_i q
    exact ⟨x,by rw [hsplit]; exact picks_keep _ _ (by unfold pickS; rw [if_neg q]; exact List.mem_append_right _ (.head _)),crowd_mem.mpr (.inl rfl)⟩
variable {G:GEnv} {n:Nat} {H H':AH} {Q:Post} {E:EP} {C:CS} {ρ:Loc}
theorem r_sortedSet {a:Nat} {l:List Int} (h:LI H a l) (hl:l.length ≤ 4000) (hk:∀ k ∈ l,0 ≤ k ∧ k < 60):biOp .sortedSet [.ref a] H Q = alloc (.list ((sortI (dedupI l)).map V.int)) H Q := by
  unfold LI at h
  delta biOp; dsimp only; delta ssOp; dsimp only; rw [h]; (try dsimp only); rw [ints_map]; (try dsimp only)
  exact propext ⟨fun h=>h.2.2,fun q=>⟨hl,hk,q⟩⟩
theorem s_right11 (F:FH G) (hG:G.fn "_law_right" = some f_law_right_11) {a m r t p c:Nat} {A:Nat → Nat → Bool} {o:List Int} {as:List Nat} (g:Gr A) (hm:m ≤ 60) (hN:NearR H a m A) (hL:LI H r o) (ho:IsOrd m o) (hp:Peo A o)
    (ht:H t = some (.tuple [.ref p,.ref c])) (vp:LI H p (picks A o)) (vc:H c = some (.list (as.map V.ref))) (hR:RowsL H as ((picks A o).map (crowd A o)))
    (q:∀ H',Ext H H' → Q (.bool true) H'):callN G (n + 3) "_law_right" [.ref a,.ref r,.ref t] H Q E := by
  refine by_c fun no=>?_
  obtain ⟨ns,n1,n2,n3⟩ := hN
  refine no ?_;clear no
  have hN:NearR H a m A := ⟨ns,n1,n2,n3⟩
  have hlen:(ns.map V.ref).length = m := by rw [List.length_map,n2]
  have hpl:(picks A o).length ≤ 60 := by
    have := picks_len (A := A) o []
    rw [List.length_nil,ho.len] at this
    unfold picks; (first | lia | omega)
  have hpo:∀ y ∈ picks A o,y ∈ o := fun y hy=>by
    rcases picks_sub _ _ hy with h | h
    · cases h
    · exact h
  have hap:∀ x ∈ picks A o,∀ y ∈ picks A o,A x.toNat y.toNat = false := picks_apart g o [] fun x hx=>by cases hx
  have hfil:o.filter (fun x=>decide (x ∈ picks A o)) = picks A o := filter_subl (by have := picks_subl (A := A) o []; rwa [List.nil_append] at this) ho.nodup
  have hcov:∀ x ∈ o,∃ y ∈ picks A o,x ∈ crowd A o y := fun x hx=>picks_cover g ho hx
  generalize picks A o = pk at *
  have st0:∀ {H'} {Q':Post},Ext H H' → subOp (.ref t) (.int 0) H' Q' = Q' (.ref p) H' := fun e=>r_subT (x := .ref p) (e _ _ ht) (by decide) rfl
  have st1:∀ {H'} {Q':Post},Ext H H' → subOp (.ref t) (.int 1) H' Q' = Q' (.ref c) H' := fun e=>r_subT (x := .ref c) (e _ _ ht) (by decide) rfl
  have hal:as.length = pk.length := by rw [hR.1,List.length_map]
  refine call_of hG rfl ?_
  simp only [f_law_right_11,List.map,List.replicate,List.cons_append,List.nil_append]
  refine seq (fun ρ H₁=>ρ = [some (.ref a),some (.ref r),some (.ref t),none,none,none,none] ∧ H = H₁) (fun N hN'=>?_) ?_
  · rw [Ja]
    simp (disch := first | decide | omega) only [Jb,Jc,Jd,Je,Jf,Jg,Jh,Ji,Jj,Jk,Jl,Jm,Jn,Jo,Jp,Jq,Jr,Js,Jt,Ju,Jv,Jw,Jx,Jy,Jz,J0,J1,J2,J3,J4,J5,J6,J7,J8,J9,Jba,Jbb,Jbc,Jbd,Jbe,Jbf,Jbg,Jbh,Jbi,Jbj,Jbk,Jbl,Jbm,Jbn,Jbo,Jbp,Jbq,Jbr,Jbs,Jbt,List.map,Gcg,Gdg,Gag,Gbg,List.replicate,Geg,Gfg,Ggg,true_and,r_isTuple ht,r_lenT ht]
    simp only [Bool.not_true,Bool.false_eq_true,if_false]
    try simp (disch := first | decide | omega) only [Jb,Jc,Jd,Je,Jf,Jg,Jh,Ji,Jj,Jk,Jl,Jm,Jn,Jo,Jp,Jq,Jr,Js,Jt,Ju,Jv,Jw,Jx,Jy,Jz,J0,J1,J2,J3,J4,J5,J6,J7,J8,J9,Jba,Jbb,Jbc,Jbd,Jbe,Jbf,Jbg,Jbh,Jbi,Jbj,Jbk,Jbl,Jbm,Jbn,Jbo,Jbp,Jbq,Jbr,Jbs,Jbt,List.map,Gcg,Gdg,Gag,Gbg,List.replicate,Geg,Gfg,Ggg,true_and,r_lenT ht]
    simp only [List.length_cons,List.length_nil]
    first | exact hN' _ _ ⟨rfl,rfl⟩ | (simp; exact hN' _ _ ⟨rfl,rfl⟩)
  rintro _ _ ⟨rfl,rfl⟩
  refine seq (fun ρ H₁=>(Ex1 fun d=>An3 (ρ = [some (.ref a),some (.ref r),some (.ref t),some (.ref d),none,none,none]) (Ext H H₁) (LI H₁ d pk))) (fun N hN'=>?_) ?_
  · rw [Jy,e_compIf,c_val]
    simp (disch := first | decide | omega) only [Jb,Jc,Jd,Je,Jf,Jg,Jh,Ji,Jj,Jk,Jl,Jm,Jn,Jo,Jp,Jq,Jr,Js,Jt,Ju,Jv,Jw,Jx,Jy,Jz,J0,J1,J2,J3,J4,J5,J6,J7,J8,J9,Jba,Jbb,Jbc,Jbd,Jbe,Jbf,Jbg,Jbh,Jbi,Jbj,Jbk,Jbl,Jbm,Jbn,Jbo,Jbp,Jbq,Jbr,Jbs,Jbt,List.map,Gcg,Gdg,Gag,Gbg,List.replicate,Geg,Gfg,Ggg,true_and]
    rw [r_srcL hL]
    refine ⟨by simp [big,ho.len]; (first | lia | omega),gather_sift (p := fun y=>decide (y ∈ pk)) hL (fun y hy K' hK'=>?_) ?_⟩
    · simp (disch := first | decide | omega) only [Jb,Jc,Jd,Je,Jf,Jg,Jh,Ji,Jj,Jk,Jl,Jm,Jn,Jo,Jp,Jq,Jr,Js,Jt,Ju,Jv,Jw,Jx,Jy,Jz,J0,J1,J2,J3,J4,J5,J6,J7,J8,J9,Jba,Jbb,Jbc,Jbd,Jbe,Jbf,Jbg,Jbh,Jbi,Jbj,Jbk,Jbl,Jbm,Jbn,Jbo,Jbp,Jbq,Jbr,Jbs,Jbt,List.map,Gcg,Gdg,Gag,Gbg,List.replicate,Geg,Gfg,Ggg,true_and,f_law_right_11_c1,st0 Ext.refl,r_isList vp]
      simp only [if_true]
      try simp (disch := first | decide | omega) only [Jb,Jc,Jd,Je,Jf,Jg,Jh,Ji,Jj,Jk,Jl,Jm,Jn,Jo,Jp,Jq,Jr,Js,Jt,Ju,Jv,Jw,Jx,Jy,Jz,J0,J1,J2,J3,J4,J5,J6,J7,J8,J9,Jba,Jbb,Jbc,Jbd,Jbe,Jbf,Jbg,Jbh,Jbi,Jbj,Jbk,Jbl,Jbm,Jbn,Jbo,Jbp,Jbq,Jbr,Jbs,Jbt,List.map,Gcg,Gdg,Gag,Gbg,List.replicate,Geg,Gfg,Ggg,true_and,st0 Ext.refl]
      rw [r_in vp]
      (try dsimp only); (try simp (disch := first | decide | omega) only [Jb,Jc,Jd,Je,Jf,Jg,Jh,Ji,Jj,Jk,Jl,Jm,Jn,Jo,Jp,Jq,Jr,Js,Jt,Ju,Jv,Jw,Jx,Jy,Jz,J0,J1,J2,J3,J4,J5,J6,J7,J8,J9,Jba,Jbb,Jbc,Jbd,Jbe,Jbf,Jbg,Jbh,Jbi,Jbj,Jbk,Jbl,Jbm,Jbn,Jbo,Jbp,Jbq,Jbr,Jbs,Jbt,List.map,Gcg,Gdg,Gag,Gbg,List.replicate,Geg,Gfg,Ggg,true_and])
      split
      · rename_i h; rw [if_pos h] at hK'; exact hK'
      · rename_i h; rw [if_neg h] at hK'; exact hK'
    rw [hfil]
    exact alloc_i fun d H₁ e1 _ v1=>hN' _ _ ⟨d,rfl,e1,v1⟩
  rintro _ H₁ hPt54
  refine by_c fun no=>?_
  obtain ⟨d,rfl,e1,vd⟩ := hPt54
  refine no ?_;clear no
  refine seq (fun ρ H₂=>ρ = [some (.ref a),some (.ref r),some (.ref t),some (.ref d),none,none,none] ∧ H₁ = H₂) (fun N hN'=>?_) ?_
  · rw [Ja]
    simp (disch := first | decide | omega) only [Jb,Jc,Jd,Je,Jf,Jg,Jh,Ji,Jj,Jk,Jl,Jm,Jn,Jo,Jp,Jq,Jr,Js,Jt,Ju,Jv,Jw,Jx,Jy,Jz,J0,J1,J2,J3,J4,J5,J6,J7,J8,J9,Jba,Jbb,Jbc,Jbd,Jbe,Jbf,Jbg,Jbh,Jbi,Jbj,Jbk,Jbl,Jbm,Jbn,Jbo,Jbp,Jbq,Jbr,Jbs,Jbt,List.map,Gcg,Gdg,Gag,Gbg,List.replicate,Geg,Gfg,Ggg,true_and,F.fr.numbers,st0 e1]
    refine s_numbers F.fr.whole F.fr.numbers (vp.ext e1) vd (by (first | lia | omega)) ?_
    simp (disch := first | decide | omega) only [Jb,Jc,Jd,Je,Jf,Jg,Jh,Ji,Jj,Jk,Jl,Jm,Jn,Jo,Jp,Jq,Jr,Js,Jt,Ju,Jv,Jw,Jx,Jy,Jz,J0,J1,J2,J3,J4,J5,J6,J7,J8,J9,Jba,Jbb,Jbc,Jbd,Jbe,Jbf,Jbg,Jbh,Jbi,Jbj,Jbk,Jbl,Jbm,Jbn,Jbo,Jbp,Jbq,Jbr,Jbs,Jbt,List.map,Gcg,Gdg,Gag,Gbg,List.replicate,Geg,Gfg,Ggg,true_and,st1 e1,r_isList (e1 _ _ vc),r_lenL (e1 _ _ vc),r_lenL vd]
    simp only [Bool.not_true,Bool.false_eq_true,if_false]
    try simp (disch := first | decide | omega) only [Jb,Jc,Jd,Je,Jf,Jg,Jh,Ji,Jj,Jk,Jl,Jm,Jn,Jo,Jp,Jq,Jr,Js,Jt,Ju,Jv,Jw,Jx,Jy,Jz,J0,J1,J2,J3,J4,J5,J6,J7,J8,J9,Jba,Jbb,Jbc,Jbd,Jbe,Jbf,Jbg,Jbh,Jbi,Jbj,Jbk,Jbl,Jbm,Jbn,Jbo,Jbp,Jbq,Jbr,Jbs,Jbt,List.map,Gcg,Gdg,Gag,Gbg,List.replicate,Geg,Gfg,Ggg,true_and,st1 e1,r_isList (e1 _ _ vc),r_lenL (e1 _ _ vc),r_lenL vd]
    simp only [Bool.not_true,Bool.false_eq_true,if_false,List.length_map,hal,decide_true]
    try simp (disch := first | decide | omega) only [Jb,Jc,Jd,Je,Jf,Jg,Jh,Ji,Jj,Jk,Jl,Jm,Jn,Jo,Jp,Jq,Jr,Js,Jt,Ju,Jv,Jw,Jx,Jy,Jz,J0,J1,J2,J3,J4,J5,J6,J7,J8,J9,Jba,Jbb,Jbc,Jbd,Jbe,Jbf,Jbg,Jbh,Jbi,Jbj,Jbk,Jbl,Jbm,Jbn,Jbo,Jbp,Jbq,Jbr,Jbs,Jbt,List.map,Gcg,Gdg,Gag,Gbg,List.replicate,Geg,Gfg,Ggg,true_and]
    exact hN' _ _ ⟨rfl,rfl⟩
  rintro _ _ ⟨rfl,rfl⟩
  refine seq (fun ρ H₂=>(Ex1 fun h=>An3 (ρ = [some (.ref a),some (.ref r),some (.ref t),some (.ref d),some (.ref h),none,none]) (Ext H₁ H₂) (LI H₂ h []))) (fun N hN'=>?_) ?_
  · simp (disch := first | decide | omega) only [Jb,Jc,Jd,Je,Jf,Jg,Jh,Ji,Jj,Jk,Jl,Jm,Jn,Jo,Jp,Jq,Jr,Js,Jt,Ju,Jv,Jw,Jx,Jy,Jz,J0,J1,J2,J3,J4,J5,J6,J7,J8,J9,Jba,Jbb,Jbc,Jbd,Jbe,Jbf,Jbg,Jbh,Jbi,Jbj,Jbk,Jbl,Jbm,Jbn,Jbo,Jbp,Jbq,Jbr,Jbs,Jbt,List.map,Gcg,Gdg,Gag,Gbg,List.replicate,Geg,Gfg,Ggg,true_and]
    exact alloc_i fun h H₂ e2 _ v2=>hN' _ _ ⟨h,rfl,e2,v2⟩
  rintro _ H₂ hPt55
  refine by_c fun no=>?_
  obtain ⟨h,rfl,e2,vh⟩ := hPt55
  refine no ?_;clear no
  refine seq (fun ρ H₃=>(Ex3 fun r5 r6 h'=>An3 (ρ = [some (.ref a),some (.ref r),some (.ref t),some (.ref d),some (.ref h'),r5,r6]) (Ext H₁ H₃) (LI H₃ h' (pk.flatMap (crowd A o))))) (fun N hN'=>?_) ?_
  · rw [t_for,c_range]
    simp (disch := first | decide | omega) only [Jb,Jc,Jd,Je,Jf,Jg,Jh,Ji,Jj,Jk,Jl,Jm,Jn,Jo,Jp,Jq,Jr,Js,Jt,Ju,Jv,Jw,Jx,Jy,Jz,J0,J1,J2,J3,J4,J5,J6,J7,J8,J9,Jba,Jbb,Jbc,Jbd,Jbe,Jbf,Jbg,Jbh,Jbi,Jbj,Jbk,Jbl,Jbm,Jbn,Jbo,Jbp,Jbq,Jbr,Jbs,Jbt,List.map,Gcg,Gdg,Gag,Gbg,List.replicate,Geg,Gfg,Ggg,true_and,r_lenL (e2 _ _ vd)]
    (try rw [Jbq (by (first | lia | omega)) (by rw [List.length_map]; (first | lia | omega))])
    refine loop_range0 (fun i ρ H₃=>(Ex3 fun r5 r6 h'=>An4 (ρ = [some (.ref a),some (.ref r),some (.ref t),some (.ref d),some (.ref h'),r5,r6]) (Ext H₁ H₃) (LI H₃ h' ((pk.take i).flatMap (crowd A o))) (((pk.take i).flatMap (crowd A o)).length ≤ 60 * i))) ⟨_,_,h,rfl,e2,by rw [List.take_zero]; exact vh,by simp⟩ ?_ ?_
    · rintro i ρ H₃ K hi hPt56 hK
      refine by_c fun no=>?_
      obtain ⟨r5,r6,h',rfl,e3,v3,hl3⟩ := hPt56
      refine no ?_;clear no
      have hi':i < pk.length := by simpa using hi
      have hx := List.getElem?_eq_getElem hi'
      generalize pk[i] = x at hx
      have hxk := List.mem_of_getElem? hx
      have hxo := hpo x hxk
      have hxr := ho.mem.mp hxo
      have hz := List.getElem?_eq_getElem (l := as) (i := i) (by (first | lia | omega))
      generalize as[i]'(by (first | lia | omega)) = z at hz
      have hzr:LI H z (crowd A o x) := hR.2 i z _ hz (by rw [List.getElem?_map,hx]; rfl)
      have hcl:(crowd A o x).length ≤ 60 := by have := crowd_len (A := A) hxo; rw [ho.len] at this; (first | lia | omega)
      have vd3 := vd.ext e3
      have e03 := e1.trans e3
      have hsub := LI.sub (a := d) hx
      have htk:(pk.take (i + 1)).flatMap (crowd A o) = (pk.take i).flatMap (crowd A o) ++ crowd A o x := by
        rw [List.take_add_one,hx,Option.toList_some,List.flatMap_append,List.flatMap_singleton]
      simp only [f_law_right_11_b1,List.set_cons_succ,List.set_cons_zero]
      refine seq (fun ρ H₄=>ρ = [some (.ref a),some (.ref r),some (.ref t),some (.ref d),some (.ref h'),some (.int (i:Int)),r6] ∧ Ext H₃ H₄) (fun N hN'=>?_) ?_
      · rw [Ja,Jm,e_compIf,c_val]
        simp (disch := first | decide | omega) only [Jb,Jc,Jd,Je,Jf,Jg,Jh,Ji,Jj,Jk,Jl,Jm,Jn,Jo,Jp,Jq,Jr,Js,Jt,Ju,Jv,Jw,Jx,Jy,Jz,J0,J1,J2,J3,J4,J5,J6,J7,J8,J9,Jba,Jbb,Jbc,Jbd,Jbe,Jbf,Jbg,Jbh,Jbi,Jbj,Jbk,Jbl,Jbm,Jbn,Jbo,Jbp,Jbq,Jbr,Jbs,Jbt,List.map,Gcg,Gdg,Gag,Gbg,List.replicate,Geg,Gfg,Ggg,true_and]
        rw [r_srcL vd3]
        refine by_c fun no=>?_
        obtain ⟨as',z',a1,a2,a3,a4⟩ := (hN.ext e03).row hxr.1 hxr.2
        refine no ?_;clear no
        refine ⟨by simp [big]; (first | lia | omega),gather_sift (p := fun _=>false) vd3 (fun y hy K' hK'=>?_) ?_⟩
        · have hyr := ho.mem.mp (hpo y hy)
          simp (disch := first | decide | omega) only [Jb,Jc,Jd,Je,Jf,Jg,Jh,Ji,Jj,Jk,Jl,Jm,Jn,Jo,Jp,Jq,Jr,Js,Jt,Ju,Jv,Jw,Jx,Jy,Jz,J0,J1,J2,J3,J4,J5,J6,J7,J8,J9,Jba,Jbb,Jbc,Jbd,Jbe,Jbf,Jbg,Jbh,Jbi,Jbj,Jbk,Jbl,Jbm,Jbn,Jbo,Jbp,Jbq,Jbr,Jbs,Jbt,List.map,Gcg,Gdg,Gag,Gbg,List.replicate,Geg,Gfg,Ggg,true_and,f_law_right_11_c2,r_subL vd3 (Int.natCast_nonneg i) hsub,r_subL a1 hxr.1 a3,r_in a4,mem_adj hyr.1 hyr.2]
          rw [hap x hxk y hy]
          simpa using hK'
        rw [show pk.filter (fun _=>false) = [] from by simp]
        refine alloc_i fun s1 H₄ e4 _ v4=>?_
        (try dsimp only); (try simp (disch := first | decide | omega) only [Jb,Jc,Jd,Je,Jf,Jg,Jh,Ji,Jj,Jk,Jl,Jm,Jn,Jo,Jp,Jq,Jr,Js,Jt,Ju,Jv,Jw,Jx,Jy,Jz,J0,J1,J2,J3,J4,J5,J6,J7,J8,J9,Jba,Jbb,Jbc,Jbd,Jbe,Jbf,Jbg,Jbh,Jbi,Jbj,Jbk,Jbl,Jbm,Jbn,Jbo,Jbp,Jbq,Jbr,Jbs,Jbt,List.map,Gcg,Gdg,Gag,Gbg,List.replicate,Geg,Gfg,Ggg,true_and])
        refine alloc_i fun s2 H₅ e5 _ v5=>?_
        (try dsimp only); (try simp (disch := first | decide | omega) only [Jb,Jc,Jd,Je,Jf,Jg,Jh,Ji,Jj,Jk,Jl,Jm,Jn,Jo,Jp,Jq,Jr,Js,Jt,Ju,Jv,Jw,Jx,Jy,Jz,J0,J1,J2,J3,J4,J5,J6,J7,J8,J9,Jba,Jbb,Jbc,Jbd,Jbe,Jbf,Jbg,Jbh,Jbi,Jbj,Jbk,Jbl,Jbm,Jbn,Jbo,Jbp,Jbq,Jbr,Jbs,Jbt,List.map,Gcg,Gdg,Gag,Gbg,List.replicate,Geg,Gfg,Ggg,true_and])
        rw [r_neL (l := []) (l' := []) (e5 _ _ v4) v5]
        simp only [decide_true,Bool.not_true,Bool.false_eq_true,if_false]
        try simp (disch := first | decide | omega) only [Jb,Jc,Jd,Je,Jf,Jg,Jh,Ji,Jj,Jk,Jl,Jm,Jn,Jo,Jp,Jq,Jr,Js,Jt,Ju,Jv,Jw,Jx,Jy,Jz,J0,J1,J2,J3,J4,J5,J6,J7,J8,J9,Jba,Jbb,Jbc,Jbd,Jbe,Jbf,Jbg,Jbh,Jbi,Jbj,Jbk,Jbl,Jbm,Jbn,Jbo,Jbp,Jbq,Jbr,Jbs,Jbt,List.map,Gcg,Gdg,Gag,Gbg,List.replicate,Geg,Gfg,Ggg,true_and]
        exact hN' _ _ ⟨rfl,e4.trans e5⟩
      rintro _ H₄ ⟨rfl,e4⟩
      have e04 := e03.trans e4
      refine seq (fun ρ H₅=>(Ex1 fun cr=>An3 (ρ = [some (.ref a),some (.ref r),some (.ref t),some (.ref d),some (.ref h'),some (.int (i:Int)),some (.ref cr)]) (Ext H₄ H₅) (LI H₅ cr (crowd A o x)))) (fun N hN'=>?_) ?_
      · have hbl := bh_len (A := A) (o := o) (p := x)
        rw [ho.len] at hbl
        simp (disch := first | decide | omega) only [Jb,Jc,Jd,Je,Jf,Jg,Jh,Ji,Jj,Jk,Jl,Jm,Jn,Jo,Jp,Jq,Jr,Js,Jt,Ju,Jv,Jw,Jx,Jy,Jz,J0,J1,J2,J3,J4,J5,J6,J7,J8,J9,Jba,Jbb,Jbc,Jbd,Jbe,Jbf,Jbg,Jbh,Jbi,Jbj,Jbk,Jbl,Jbm,Jbn,Jbo,Jbp,Jbq,Jbr,Jbs,Jbt,List.map,Gcg,Gdg,Gag,Gbg,List.replicate,Geg,Gfg,Ggg,true_and,F.fr.behind,r_subL (vd3.ext e4) (Int.natCast_nonneg i) hsub]
        refine alloc_i fun s1 H₅ e5 _ v5=>?_
        (try dsimp only); (try simp (disch := first | decide | omega) only [Jb,Jc,Jd,Je,Jf,Jg,Jh,Ji,Jj,Jk,Jl,Jm,Jn,Jo,Jp,Jq,Jr,Js,Jt,Ju,Jv,Jw,Jx,Jy,Jz,J0,J1,J2,J3,J4,J5,J6,J7,J8,J9,Jba,Jbb,Jbc,Jbd,Jbe,Jbf,Jbg,Jbh,Jbi,Jbj,Jbk,Jbl,Jbm,Jbn,Jbo,Jbp,Jbq,Jbr,Jbs,Jbt,List.map,Gcg,Gdg,Gag,Gbg,List.replicate,Geg,Gfg,Ggg,true_and])
        have vd5 := (vd3.ext e4).ext e5
        have hL5 := (hL.ext e04).ext e5
        try (refine ⟨by rw [F.fr.behind]; rfl,?_⟩)
        try (rw [e_lm])
        simp (disch := first | decide | omega) only [Jb,Jc,Jd,Je,Jf,Jg,Jh,Ji,Jj,Jk,Jl,Jm,Jn,Jo,Jp,Jq,Jr,Js,Jt,Ju,Jv,Jw,Jx,Jy,Jz,J0,J1,J2,J3,J4,J5,J6,J7,J8,J9,Jba,Jbb,Jbc,Jbd,Jbe,Jbf,Jbg,Jbh,Jbi,Jbj,Jbk,Jbl,Jbm,Jbn,Jbo,Jbp,Jbq,Jbr,Jbs,Jbt,List.map,Gcg,Gdg,Gag,Gbg,List.replicate,Geg,Gfg,Ggg,true_and,r_kindL hL5,r_subL vd5 (Int.natCast_nonneg i) hsub,r_index hL5 hxo]
        refine s_lawBehind F.fr.behind hm ((hN.ext e04).ext e5) hL5 ho (idx_get hxo) fun s2 H₆ e6 _ v6=>?_
        (try dsimp only)
        rw [r_addL (e6 _ _ v5) v6 (by simp; (first | lia | omega))]
        refine alloc_i fun s3 H₇ e7 _ v7=>?_
        (try dsimp only)
        have v7':LI H₇ s3 (x :: bh A o x) := by unfold LI; rw [v7]; rfl
        rw [r_sortL v7' (by simp; (first | lia | omega))]
        exact alloc_i fun cr H₈ e8 _ v8=>hN' _ _ ⟨cr,rfl,((e5.trans e6).trans e7).trans e8,v8⟩
      rintro _ H₅ hPt57
      refine by_c fun no=>?_
      obtain ⟨cr,rfl,e5,v5⟩ := hPt57
      refine no ?_;clear no
      have e05 := e04.trans e5
      refine seq (fun ρ H₆=>ρ = [some (.ref a),some (.ref r),some (.ref t),some (.ref d),some (.ref h'),some (.int (i:Int)),some (.ref cr)] ∧ Ext H₅ H₆) (fun N hN'=>?_) ?_
      · rw [Ja]
        have hsz:(as.map V.ref)[(i:Int).toNat]? = some (.ref z) := by rw [Int.toNat_natCast,List.getElem?_map,hz]; rfl
        simp (disch := first | decide | omega) only [Jb,Jc,Jd,Je,Jf,Jg,Jh,Ji,Jj,Jk,Jl,Jm,Jn,Jo,Jp,Jq,Jr,Js,Jt,Ju,Jv,Jw,Jx,Jy,Jz,J0,J1,J2,J3,J4,J5,J6,J7,J8,J9,Jba,Jbb,Jbc,Jbd,Jbe,Jbf,Jbg,Jbh,Jbi,Jbj,Jbk,Jbl,Jbm,Jbn,Jbo,Jbp,Jbq,Jbr,Jbs,Jbt,List.map,Gcg,Gdg,Gag,Gbg,List.replicate,Geg,Gfg,Ggg,true_and,F.fr.numbers,st1 e05,r_subL (e05 _ _ vc) (Int.natCast_nonneg i) hsz]
        refine s_numbers F.fr.whole F.fr.numbers (hzr.ext e05) v5 (by (first | lia | omega)) ?_
        (try dsimp only); (try simp (disch := first | decide | omega) only [Jb,Jc,Jd,Je,Jf,Jg,Jh,Ji,Jj,Jk,Jl,Jm,Jn,Jo,Jp,Jq,Jr,Js,Jt,Ju,Jv,Jw,Jx,Jy,Jz,J0,J1,J2,J3,J4,J5,J6,J7,J8,J9,Jba,Jbb,Jbc,Jbd,Jbe,Jbf,Jbg,Jbh,Jbi,Jbj,Jbk,Jbl,Jbm,Jbn,Jbo,Jbp,Jbq,Jbr,Jbs,Jbt,List.map,Gcg,Gdg,Gag,Gbg,List.replicate,Geg,Gfg,Ggg,true_and])
        simp only [Bool.not_true,Bool.false_eq_true,if_false]
        refine ⟨by rw [F.untied]; rfl,?_⟩
        refine s_lawUntied F.untied (hN.ext e05) v5 (by (first | lia | omega)) (fun y hy=>ho.mem.mp (crowd_in ho hxo hy)) fun H₆ e6=>?_
        rw [(fu_clique g ((crowd_lt ho).imp fun h=>by (first | lia | omega))).mpr (crowd_cl g ho hp hxo)]
        (try dsimp only); (try simp (disch := first | decide | omega) only [Jb,Jc,Jd,Je,Jf,Jg,Jh,Ji,Jj,Jk,Jl,Jm,Jn,Jo,Jp,Jq,Jr,Js,Jt,Ju,Jv,Jw,Jx,Jy,Jz,J0,J1,J2,J3,J4,J5,J6,J7,J8,J9,Jba,Jbb,Jbc,Jbd,Jbe,Jbf,Jbg,Jbh,Jbi,Jbj,Jbk,Jbl,Jbm,Jbn,Jbo,Jbp,Jbq,Jbr,Jbs,Jbt,List.map,Gcg,Gdg,Gag,Gbg,List.replicate,Geg,Gfg,Ggg,true_and])
        simp only [Bool.not_true,Bool.false_eq_true,if_false]
        try simp (disch := first | decide | omega) only [Jb,Jc,Jd,Je,Jf,Jg,Jh,Ji,Jj,Jk,Jl,Jm,Jn,Jo,Jp,Jq,Jr,Js,Jt,Ju,Jv,Jw,Jx,Jy,Jz,J0,J1,J2,J3,J4,J5,J6,J7,J8,J9,Jba,Jbb,Jbc,Jbd,Jbe,Jbf,Jbg,Jbh,Jbi,Jbj,Jbk,Jbl,Jbm,Jbn,Jbo,Jbp,Jbq,Jbr,Jbs,Jbt,List.map,Gcg,Gdg,Gag,Gbg,List.replicate,Geg,Gfg,Ggg,true_and]
        exact hN' _ _ ⟨rfl,e6⟩
      rintro _ H₆ ⟨rfl,e6⟩
      have v3' := ((v3.ext e4).ext e5).ext e6
      simp (disch := first | decide | omega) only [Jb,Jc,Jd,Je,Jf,Jg,Jh,Ji,Jj,Jk,Jl,Jm,Jn,Jo,Jp,Jq,Jr,Js,Jt,Ju,Jv,Jw,Jx,Jy,Jz,J0,J1,J2,J3,J4,J5,J6,J7,J8,J9,Jba,Jbb,Jbc,Jbd,Jbe,Jbf,Jbg,Jbh,Jbi,Jbj,Jbk,Jbl,Jbm,Jbn,Jbo,Jbp,Jbq,Jbr,Jbs,Jbt,List.map,Gcg,Gdg,Gag,Gbg,List.replicate,Geg,Gfg,Ggg,true_and]
      rw [r_addL v3' (v5.ext e6) (by rw [List.length_map,List.length_map]; (first | lia | omega))]
      refine alloc_i fun h2 H₇ e7 _ v7=>hK _ _ ⟨_,_,h2,rfl,(((e3.trans e4).trans e5).trans e6).trans e7,?_,?_⟩
      · unfold LI; rw [v7,htk,List.map_append]
      · rw [htk,List.length_append]; (first | lia | omega)
    · rintro ρ H₃ hPt58
      refine by_c fun no=>?_
      obtain ⟨r5,r6,h',rfl,e3,v3,_⟩ := hPt58
      refine no ?_;clear no
      rw [List.length_map,Int.toNat_natCast,List.take_of_length_le (Nat.le_refl _)] at v3
      exact hN' _ _ ⟨_,_,h',rfl,e3,v3⟩
  rintro _ H₃ hPt59
  refine by_c fun no=>?_
  obtain ⟨r5,r6,h',rfl,e3,v3⟩ := hPt59
  refine no ?_;clear no
  have hmem:∀ x,x ∈ pk.flatMap (crowd A o) ↔ x ∈ o := fun x=>by
    rw [List.mem_flatMap]
    exact ⟨fun ⟨y,hy,hx⟩=>crowd_in ho (hpo y hy) hx,fun hx=>hcov x hx⟩
  have hfl:∀ l:List Int,(∀ y ∈ l,y ∈ o) → (l.flatMap (crowd A o)).length ≤ 60 * l.length := fun l=>by
    induction l with
    | nil=>intro _; simp
    | cons y l ih =>
      intro hh
      have h1 := ih fun z hz=>hh z (.tail _ hz)
      have h2 := crowd_len (A := A) (hh y (.head _))
      rw [ho.len] at h2
      rw [List.flatMap_cons,List.length_append,List.length_cons]
      (first | lia | omega)
  have h4 := hfl pk hpo
  simp (disch := first | decide | omega) only [Jb,Jc,Jd,Je,Jf,Jg,Jh,Ji,Jj,Jk,Jl,Jm,Jn,Jo,Jp,Jq,Jr,Js,Jt,Ju,Jv,Jw,Jx,Jy,Jz,J0,J1,J2,J3,J4,J5,J6,J7,J8,J9,Jba,Jbb,Jbc,Jbd,Jbe,Jbf,Jbg,Jbh,Jbi,Jbj,Jbk,Jbl,Jbm,Jbn,Jbo,Jbp,Jbq,Jbr,Jbs,Jbt,List.map,Gcg,Gdg,Gag,Gbg,List.replicate,Geg,Gfg,Ggg,true_and]
  rw [r_sortedSet v3 (by (first | lia | omega)) fun k hk=>by have := ho.mem.mp ((hmem k).mp hk); (first | lia | omega)]
  refine alloc_i fun s1 H₄ e4 _ v4=>?_
  (try dsimp only); (try simp (disch := first | decide | omega) only [Jb,Jc,Jd,Je,Jf,Jg,Jh,Ji,Jj,Jk,Jl,Jm,Jn,Jo,Jp,Jq,Jr,Js,Jt,Ju,Jv,Jw,Jx,Jy,Jz,J0,J1,J2,J3,J4,J5,J6,J7,J8,J9,Jba,Jbb,Jbc,Jbd,Jbe,Jbf,Jbg,Jbh,Jbi,Jbj,Jbk,Jbl,Jbm,Jbn,Jbo,Jbp,Jbq,Jbr,Jbs,Jbt,List.map,Gcg,Gdg,Gag,Gbg,List.replicate,Geg,Gfg,Ggg,true_and])
  rw [r_lenL ((e1.trans (e3.trans e4)) _ _ n1),hlen]
  (try dsimp only)
  rw [Jbs (by (first | lia | omega)) (by (first | lia | omega))]
  refine alloc_i fun s2 H₅ e5 _ v5=>?_
  (try dsimp only)
  have v5':LI H₅ s2 (rangeI m) := by unfold LI; rw [v5,Int.toNat_natCast,rangeI_map]
  have hs:sortI (dedupI (pk.flatMap (crowd A o))) = rangeI m := isOrd_of dedup_nodup fun x=>by rw [dedup_mem,hmem,ho.mem]
  rw [r_eqL (l := sortI (dedupI (pk.flatMap (crowd A o)))) (e5 _ _ v4) v5',hs,decide_eq_true rfl]
  exact q _ (((e1.trans e3).trans e4).trans e5)
set_option linter.all false
variable {G:GEnv} {n:Nat} {H H':AH} {Q:Post} {E:EP} {C:CS} {ρ:Loc}
noncomputable def TwoQ (H:AH) (t:Nat) (l:List Int) (rows:List (List Int)):Prop := (Ex3 fun (p c:Nat) (as:List Nat)=>An4 (H t = some (.tuple [.ref p,.ref c])) (LI H p l) (H c = some (.list (as.map V.ref))) (RowsL H as rows))
theorem TwoQ.ext {t:Nat} {l:List Int} {rows:List (List Int)} (h:TwoQ H t l rows) (e:Ext H H'):TwoQ H' t l rows := by
  obtain ⟨p,c,as,h1,h2,h3,h4⟩ := h
  exact ⟨p,c,as,e _ _ h1,h2.ext e,e _ _ h3,h4.ext e⟩
noncomputable def KeptQ (H:AH) (x:Nat):Prop := (Ex4 fun (t t':Nat) (l:List Int) (rows:List (List Int))=>An3 (H x = some (.tuple [.ref t,.ref t'])) (TwoQ H t l rows) (TwoQ H t' l rows))
theorem KeptQ.ext {x:Nat} (h:KeptQ H x) (e:Ext H H'):KeptQ H' x := by
  obtain ⟨t,t',l,rows,h1,h2,h3⟩ := h
  exact ⟨t,t',l,rows,e _ _ h1,h2.ext e,h3.ext e⟩
theorem KeptQ.ne {x:Nat} (h:KeptQ H x) (Q:Post) (q:Q (.bool false) H):subOp (.ref x) (.int 0) H (fun u H=>subOp (.ref x) (.int 1) H fun v H=>cmpOp .NotEq u v H Q) := by
  refine by_c fun no=>?_
  obtain ⟨t,t',l,rows,h1,⟨p,c,as,a1,a2,a3,a4⟩,⟨p',c',as',b1,b2,b3,b4⟩⟩ := h
  refine no ?_;clear no
  rw [r_subT (x := .ref t) h1 (by decide) rfl,r_subT (x := .ref t') h1 (by decide) rfl]
  have e:eqD depthEq H (.ref t) (.ref t') = some true := by
    show eqD (4 + 1) H (.ref t) (.ref t') = some true
    conv=>lhs; whnf
    rw [a1,b1]
    show allO [eqD (3 + 1) H (.ref p) (.ref p'),eqD (2 + 1 + 1) H (.ref c) (.ref c')] = some true
    rw [eqD_LI a2 b2,eqD_rows a3 b3 a4 b4,decide_eq_true rfl]
    rfl
  show (match eqD depthEq H (.ref t) (.ref t') with | some r=>Q (.bool (!r)) H | none=>False)
  rw [e]
  exact q
theorem warm11 (F:FH G) {m od w le i:Nat} {A:Nat → Nat → Bool} {o lo:List Int} {r0 r1 r2 r3 r6 r7 r10 r11:Option V} {N:Loc → AH → Prop} (g:Gr A) (hm:m ≤ 60) (hi:i = 1 ∨ i = 2) (hW:WebR H w m A) (vo:LI H od o) (vl:LI H le lo) (h1:IsOrd m o) (h2:Peo A o) (h3:IsOrd m lo) (h4:Peo A lo)
    (q:∀ H',Ext H H' → N [r0,r1,r2,r3,some (.ref od),some (.ref w),r6,r7,some (.ref le),some (.int (i:Int)),r10,r11] H') :
    wpSs G (callN G (n + 7)) [.expr (.call "judged" [(.var 5)]),.expr (.call "coloured" [(.var 5),(.bi .list [(.sub (.list [(.var 4),(.var 8)]) (.bin .Sub (.var 9) (.cint 1)))])])]
      [r0,r1,r2,r3,some (.ref od),some (.ref w),r6,r7,some (.ref le),some (.int (i:Int)),r10,r11] H N Q E := by
  have FC := F.fc
  have F2 := FC.fns2
  simp (disch := first | decide | omega) only [Jb,Jc,Jd,Je,Jf,Jg,Jh,Ji,Jj,Jk,Jl,Jm,Jn,Jo,Jp,Jq,Jr,Js,Jt,Ju,Jv,Jw,Jx,Jy,Jz,J0,J1,J2,J3,J4,J5,J6,J7,J8,J9,Jba,Jbb,Jbc,Jbd,Jbe,Jbf,Jbg,Jbh,Jbi,Jbj,Jbk,Jbl,Jbm,Jbn,Jbo,Jbp,Jbq,Jbr,Jbs,Jbt,List.map,Gcg,Gdg,Gag,Gbg,List.replicate,Geg,Gfg,Ggg,true_and,FC.judged]
  refine s_judgedC FC g hm hW (taken_chordal g h1 h2) fun v o' c k lo' lc lk H₁ e1 _ _ _ _ _ _ _ _ _ _ _ _ _ _ _ _ _=>?_
  (try dsimp only); (try simp (disch := first | decide | omega) only [Jb,Jc,Jd,Je,Jf,Jg,Jh,Ji,Jj,Jk,Jl,Jm,Jn,Jo,Jp,Jq,Jr,Js,Jt,Ju,Jv,Jw,Jx,Jy,Jz,J0,J1,J2,J3,J4,J5,J6,J7,J8,J9,Jba,Jbb,Jbc,Jbd,Jbe,Jbf,Jbg,Jbh,Jbi,Jbj,Jbk,Jbl,Jbm,Jbn,Jbo,Jbp,Jbq,Jbr,Jbs,Jbt,List.map,Gcg,Gdg,Gag,Gbg,List.replicate,Geg,Gfg,Ggg,true_and])
  refine ⟨by rw [F2.coloured]; rfl,?_⟩
  refine alloc_i fun s2 H₃ e3 _ v3=>?_
  (try dsimp only)
  have e13 := e1.trans e3
  rcases hi with rfl | rfl
  · rw [r_subL (x := .ref od) v3 (by decide) rfl,r_listL (vo.ext e13)]
    refine alloc_i fun s3 H₄ e4 _ v4=>?_
    (try dsimp only)
    refine s_coloured F2 hm (hW.ext (e13.trans e4)) v4 h1 h2 fun a cols H₅ e5 _ _ _=>q _ ((e13.trans e4).trans e5)
  · rw [r_subL (x := .ref le) v3 (by decide) rfl,r_listL (vl.ext e13)]
    refine alloc_i fun s3 H₄ e4 _ v4=>?_
    (try dsimp only)
    refine s_coloured F2 hm (hW.ext (e13.trans e4)) v4 h3 h4 fun a cols H₅ e5 _ _ _=>q _ ((e13.trans e4).trans e5)
structure F11 (G:GEnv):Prop where
  fh:FH G
  right:G.fn "_law_right" = some f_law_right_11
  law:G.fn "law" = some f_law_11
theorem main11 (F:F11 G) (H:AH) {ns:List Int}:callN G (n + 8) "law" [.script ns] H (fun v _=>v = .bool true) EF := by
  have FC := F.fh.fc
  have F2 := FC.fns2
  refine call_of F.law rfl ?_
  simp only [f_law_11,List.map,List.replicate,List.cons_append,List.nil_append]
  refine headC F.fh H (fun _=>rfl) fun m A t nr od w hd kp le o lo H₀ hm g hN hW vo vl h1 h2 h3 h4 vh vk hhk=>?_
  rw [J3,t_for,c_enum]
  simp (disch := first | decide | omega) only [Jb,Jc,Jd,Je,Jf,Jg,Jh,Ji,Jj,Jk,Jl,Jm,Jn,Jo,Jp,Jq,Jr,Js,Jt,Ju,Jv,Jw,Jx,Jy,Jz,J0,J1,J2,J3,J4,J5,J6,J7,J8,J9,Jba,Jbb,Jbc,Jbd,Jbe,Jbf,Jbg,Jbh,Jbi,Jbj,Jbk,Jbl,Jbm,Jbn,Jbo,Jbp,Jbq,Jbr,Jbs,Jbt,List.map,Gcg,Gdg,Gag,Gbg,List.replicate,Geg,Gfg,Ggg,true_and]
  refine alloc_i fun a H₁ e1 n1 v1=>?_
  (try dsimp only)
  rw [r_enumL v1]
  have e01:Ext (hidQ H₀ hd kp) (hidQ H₁ hd kp) := hidQ_mono e1
  have va:hidQ H₁ hd kp a = some (.list [.ref od,.ref le,.ref od]) := hidQ_at v1 (fun z=>by rw [z,vh] at n1; cases n1) fun z=>by rw [z,vk] at n1; cases n1
  replace hN := hN.ext e01
  replace hW := hW.ext e01
  replace vo := vo.ext e01
  replace vl := vl.ext e01
  replace vh := e1 _ _ vh
  replace vk := e1 _ _ vk
  refine loop_enum (fun i ρ H₂=>(Ex4 fun (r9 r10 r11:Option V) (ks:List Nat)=>An6 (ρ = [some (.script ns),some (.int m),some (.ref t),some (.ref nr),some (.ref od),some (.ref w),some (.ref hd),some (.ref kp),some (.ref le),r9,r10,r11]) (Ext (hidQ H₁ hd kp) (hidQ H₂ hd kp)) ((∃ xs,H₂ hd = some (.list xs))) (H₂ kp = some (.list (ks.map V.ref))) (ks.length = i) (∀ x ∈ ks,KeptQ (hidQ H₂ hd kp) x))) ⟨_,_,_,[],rfl,Ext.refl,⟨_,vh⟩,vk,rfl,by simp⟩ ?_ ?_ ?_
  · rintro i ρ H₂ ⟨r9,r10,r11,ks,rfl,e,_⟩; exact hidQ_ext _ _ (e _ _ va)
  · rintro i v ρ H₂ K hv hPt60 hK
    refine by_c fun no=>?_
    obtain ⟨r9,r10,r11,ks,rfl,e,⟨xs,vh2⟩,vk2,hkl,hks⟩ := hPt60
    refine no ?_;clear no
    obtain ⟨z,oz,rfl,vz,hz1,hz2,hi3⟩:(Ex2 fun z oz=>An5 (v = .ref z) (LI (hidQ H₁ hd kp) z oz) (IsOrd m oz) (Peo A oz) (i < 3)):= by
      rcases i with _ | _ | _ | i
      · cases hv; exact ⟨od,o,rfl,vo,h1,h2,by decide⟩
      · cases hv; exact ⟨le,lo,rfl,vl,h3,h4,by decide⟩
      · cases hv; exact ⟨od,o,rfl,vo,h1,h2,by decide⟩
      · cases hv
    have hzl:oz.length ≤ 60 := by rw [hz1.len]; exact hm
    have hzh:z ≠ hd := vz.ne_none hidQ_p
    have e2:Ext (hidQ H₁ hd kp) H₂ := e.trans hidQ_ext
    simp only [f_law_11_b1,List.set_cons_succ,List.set_cons_zero]
    refine seq (fun ρ H₃=>ρ = [some (.script ns),some (.int m),some (.ref t),some (.ref nr),some (.ref od),some (.ref w),some (.ref hd),some (.ref kp),some (.ref le),some (.int (i:Int)),some (.ref z),r11] ∧ Ext H₂ H₃) (fun N hN'=>?_) ?_
    · refine i_ite (decide (0 < (i:Int))) (fun Q' h'=>?_) ?_
      · simp (disch := first | decide | omega) only [Jb,Jc,Jd,Je,Jf,Jg,Jh,Ji,Jj,Jk,Jl,Jm,Jn,Jo,Jp,Jq,Jr,Js,Jt,Ju,Jv,Jw,Jx,Jy,Jz,J0,J1,J2,J3,J4,J5,J6,J7,J8,J9,Jba,Jbb,Jbc,Jbd,Jbe,Jbf,Jbg,Jbh,Jbi,Jbj,Jbk,Jbl,Jbm,Jbn,Jbo,Jbp,Jbq,Jbr,Jbs,Jbt,List.map,Gcg,Gdg,Gag,Gbg,List.replicate,Geg,Gfg,Ggg,true_and]; exact h'
      split
      · rename_i hh
        exact warm11 F.fh g hm (by simp at hh; (first | lia | omega)) (hW.ext e2) (vo.ext e2) (vl.ext e2) h1 h2 h3 h4 fun H₃ e3=>hN' _ _ ⟨rfl,e3⟩
      · simp (disch := first | decide | omega) only [Jb,Jc,Jd,Je,Jf,Jg,Jh,Ji,Jj,Jk,Jl,Jm,Jn,Jo,Jp,Jq,Jr,Js,Jt,Ju,Jv,Jw,Jx,Jy,Jz,J0,J1,J2,J3,J4,J5,J6,J7,J8,J9,Jba,Jbb,Jbc,Jbd,Jbe,Jbf,Jbg,Jbh,Jbi,Jbj,Jbk,Jbl,Jbm,Jbn,Jbo,Jbp,Jbq,Jbr,Jbs,Jbt,List.map,Gcg,Gdg,Gag,Gbg,List.replicate,Geg,Gfg,Ggg,true_and]
        exact hN' _ _ ⟨rfl,Ext.refl⟩
    rintro _ H₃ ⟨rfl,e3⟩
    have hb:Ext (hidQ H₂ hd kp) H₃ := hidQ_ext.trans e3
    refine seq (fun ρ H₄=>ρ = [some (.script ns),some (.int m),some (.ref t),some (.ref nr),some (.ref od),some (.ref w),some (.ref hd),some (.ref kp),some (.ref le),some (.int (i:Int)),some (.ref z),r11] ∧ upd H₃ hd (.list []) = H₄) (fun N hN'=>?_) ?_
    · simp (disch := first | decide | omega) only [Jb,Jc,Jd,Je,Jf,Jg,Jh,Ji,Jj,Jk,Jl,Jm,Jn,Jo,Jp,Jq,Jr,Js,Jt,Ju,Jv,Jw,Jx,Jy,Jz,J0,J1,J2,J3,J4,J5,J6,J7,J8,J9,Jba,Jbb,Jbc,Jbd,Jbe,Jbf,Jbg,Jbh,Jbi,Jbj,Jbk,Jbl,Jbm,Jbn,Jbo,Jbp,Jbq,Jbr,Jbs,Jbt,List.map,Gcg,Gdg,Gag,Gbg,List.replicate,Geg,Gfg,Ggg,true_and,e_lm,r_kindL (e3 _ _ vh2),r_clear (e3 _ _ vh2)]
      exact hN' _ _ ⟨rfl,rfl⟩
    rintro _ _ ⟨rfl,rfl⟩
    have hb4:Ext (hidQ H₂ hd kp) (upd H₃ hd (.list [])) := hidQ_upd hb (.inl rfl)
    have vz4:LI (upd H₃ hd (.list [])) z oz := (vz.ext e).ext hb4
    have vk4:upd H₃ hd (.list []) kp = some (.list (ks.map V.ref)) := by rw [upd_ne (Ne.symm hhk)]; exact e3 _ _ vk2
    refine seq (fun ρ H₅=>ρ = [some (.script ns),some (.int m),some (.ref t),some (.ref nr),some (.ref od),some (.ref w),some (.ref hd),some (.ref kp),some (.ref le),some (.int (i:Int)),some (.ref z),r11] ∧ Ext (hidQ H₂ hd kp) H₅ ∧ LI H₅ hd oz ∧ H₅ kp = some (.list (ks.map V.ref))) (fun N hN'=>?_) ?_
    · have vh4:upd H₃ hd (.list []) hd = some (.list []) := upd_self
      simp (disch := first | decide | omega) only [Jb,Jc,Jd,Je,Jf,Jg,Jh,Ji,Jj,Jk,Jl,Jm,Jn,Jo,Jp,Jq,Jr,Js,Jt,Ju,Jv,Jw,Jx,Jy,Jz,J0,J1,J2,J3,J4,J5,J6,J7,J8,J9,Jba,Jbb,Jbc,Jbd,Jbe,Jbf,Jbg,Jbh,Jbi,Jbj,Jbk,Jbl,Jbm,Jbn,Jbo,Jbp,Jbq,Jbr,Jbs,Jbt,List.map,Gcg,Gdg,Gag,Gbg,List.replicate,Geg,Gfg,Ggg,true_and,e_lm,r_kindL vh4,r_extend vh4 vz4 (Ne.symm hzh) (show 0 + (oz.map V.int).length ≤ 1048576 by rw [List.length_map]; (first | lia | omega))]
      exact hN' _ _ ⟨rfl,hidQ_upd hb4 (.inl rfl),(by unfold LI; rw [upd_self]),by rw [upd_ne (Ne.symm hhk)]; exact vk4⟩
    rintro _ H₅ hPt61
    refine by_c fun no=>?_
    obtain ⟨rfl,hb5,vh5,vk5⟩ := hPt61
    refine no ?_;clear no
    have eD5 := e.trans hb5
    have vz5 := vz.ext eD5
    refine seq (fun ρ H₆=>(Ex4 fun (f p c:Nat) (as:List Nat)=>An8 (ρ = [some (.script ns),some (.int m),some (.ref t),some (.ref nr),some (.ref od),some (.ref w),some (.ref hd),some (.ref kp),some (.ref le),some (.int (i:Int)),some (.ref z),some (.ref f)]) (Made H₅ H₆ c as ((picks A oz).map (crowd A oz))) (H₅ p = none) (p ≠ c) ((∀ x ∈ as,x ≠ p)) (LI H₆ p (picks A oz)) (H₅ f = none) (H₆ f = some (.tuple [.ref p,.ref c])))) (fun N hN'=>?_) ?_
    · simp (disch := first | decide | omega) only [Jb,Jc,Jd,Je,Jf,Jg,Jh,Ji,Jj,Jk,Jl,Jm,Jn,Jo,Jp,Jq,Jr,Js,Jt,Ju,Jv,Jw,Jx,Jy,Jz,J0,J1,J2,J3,J4,J5,J6,J7,J8,J9,Jba,Jbb,Jbc,Jbd,Jbe,Jbf,Jbg,Jbh,Jbi,Jbj,Jbk,Jbl,Jbm,Jbn,Jbo,Jbp,Jbq,Jbr,Jbs,Jbt,List.map,Gcg,Gdg,Gag,Gbg,List.replicate,Geg,Gfg,Ggg,true_and,F.fh.apart]
      exact s_apart F2 F.fh.apart hm (hW.ext eD5) vh5 hz1 hz2 fun f p c as H₆ md q1 q2 q3 q4 q5 q6=>hN' _ _ ⟨f,p,c,as,rfl,md,q1,q2,q3,q4,q5,q6⟩
    rintro _ H₆ hPt62
    refine by_c fun no=>?_
    obtain ⟨f,p,c,as,rfl,md,np,hpc,has,vp,nf,vf⟩ := hPt62
    refine no ?_;clear no
    have e6 := md.ext
    refine seq (fun ρ H₇=>ρ = [some (.script ns),some (.int m),some (.ref t),some (.ref nr),some (.ref od),some (.ref w),some (.ref hd),some (.ref kp),some (.ref le),some (.int (i:Int)),some (.ref z),some (.ref f)] ∧ Ext H₆ H₇) (fun N hN'=>?_) ?_
    · rw [Ja]
      simp (disch := first | decide | omega) only [Jb,Jc,Jd,Je,Jf,Jg,Jh,Ji,Jj,Jk,Jl,Jm,Jn,Jo,Jp,Jq,Jr,Js,Jt,Ju,Jv,Jw,Jx,Jy,Jz,J0,J1,J2,J3,J4,J5,J6,J7,J8,J9,Jba,Jbb,Jbc,Jbd,Jbe,Jbf,Jbg,Jbh,Jbi,Jbj,Jbk,Jbl,Jbm,Jbn,Jbo,Jbp,Jbq,Jbr,Jbs,Jbt,List.map,Gcg,Gdg,Gag,Gbg,List.replicate,Geg,Gfg,Ggg,true_and,F.right,r_neL (vh5.ext e6) (vz5.ext e6)]
      simp only [decide_true,Bool.not_true,Bool.false_eq_true,if_false]
      refine s_right11 F.fh F.right g hm ((hN.ext eD5).ext e6) (vz5.ext e6) hz1 hz2 vf vp md.at_ md.lists fun H₇ e7=>?_
      (try dsimp only); (try simp (disch := first | decide | omega) only [Jb,Jc,Jd,Je,Jf,Jg,Jh,Ji,Jj,Jk,Jl,Jm,Jn,Jo,Jp,Jq,Jr,Js,Jt,Ju,Jv,Jw,Jx,Jy,Jz,J0,J1,J2,J3,J4,J5,J6,J7,J8,J9,Jba,Jbb,Jbc,Jbd,Jbe,Jbf,Jbg,Jbh,Jbi,Jbj,Jbk,Jbl,Jbm,Jbn,Jbo,Jbp,Jbq,Jbr,Jbs,Jbt,List.map,Gcg,Gdg,Gag,Gbg,List.replicate,Geg,Gfg,Ggg,true_and])
      simp only [Bool.not_true,Bool.false_eq_true,if_false]
      exact hN' _ _ ⟨rfl,e7⟩
    rintro _ H₇ ⟨rfl,e7⟩
    have md7 := md.mono e7
    have vp7 := vp.ext e7
    have vf7 := e7 _ _ vf
    have hpo:∀ y ∈ picks A oz,y ∈ oz := fun y hy=>by
      rcases picks_sub _ _ hy with h | h
      · cases h
      · exact h
    have hpl:(picks A oz).length ≤ 60 := by
      have := picks_len (A := A) oz []
      rw [List.length_nil] at this
      unfold picks; (first | lia | omega)
    have hpn:(picks A oz).Nodup := (by have := picks_subl (A := A) oz []; rwa [List.nil_append] at this:(picks A oz).Sublist oz).nodup hz1.nodup
    have hrn:((picks A oz).map (crowd A oz) ++ [[]]).Nodup := List.nodup_append.mpr ⟨by
      rw [List.nodup_iff_pairwise_ne,List.pairwise_map]
      exact (List.nodup_iff_pairwise_ne.mp hpn).imp_of_mem fun {x y} hx hy hne q=>hne (crowd_inj hz1 (hpo x hx) (hpo y hy) q),by simp,fun r hr r' hr' q=>by
      simp at hr'
      subst hr' q
      refine by_c fun no=>?_
      obtain ⟨y,_,hc⟩ := List.mem_map.mp hr
      refine no ?_;clear no
      exact List.ne_nil_of_mem (crowd_mem.mpr (.inl rfl)) hc⟩
    have hrl:∀ r ∈ (picks A oz).map (crowd A oz) ++ [[]],r.length ≤ 60 := fun r hr=>by
      rcases List.mem_append.mp hr with hr | hr
      · refine by_c fun no=>?_
        obtain ⟨y,hy,rfl⟩ := List.mem_map.mp hr
        refine no ?_;clear no
        exact Nat.le_trans (crowd_len (hpo y hy)) hzl
      · simp at hr; rw [hr]; exact Nat.zero_le _
    have hal:as.length ≤ 60 := by rw [md.lists.1,List.length_map]; exact hpl
    generalize (picks A oz).map (crowd A oz) = rows at *
    generalize picks A oz = pk at *
    have hfp:f ≠ p := fun w=>by rw [w] at vf7; unfold LI at vp7; rw [vp7] at vf7; cases vf7
    have hfc:f ≠ c := fun w=>by rw [w,md7.at_] at vf7; cases vf7
    have s0:∀ {H':AH} {Q':Post},H' f = some (.tuple [.ref p,.ref c]) → subOp (.ref f) (.int 0) H' Q' = Q' (.ref p) H' := fun h=>r_subT (x := .ref p) h (by decide) rfl
    have s1:∀ {H':AH} {Q':Post},H' f = some (.tuple [.ref p,.ref c]) → subOp (.ref f) (.int 1) H' Q' = Q' (.ref c) H' := fun h=>r_subT (x := .ref c) h (by decide) rfl
    refine seq (fun ρ H₈=>ρ = [some (.script ns),some (.int m),some (.ref t),some (.ref nr),some (.ref od),some (.ref w),some (.ref hd),some (.ref kp),some (.ref le),some (.int (i:Int)),some (.ref z),some (.ref f)] ∧ Made H₅ H₈ c as rows ∧ LI H₈ p (pk ++ [0]) ∧ H₈ f = some (.tuple [.ref p,.ref c])) (fun N hN'=>?_) ?_
    · simp (disch := first | decide | omega) only [Jb,Jc,Jd,Je,Jf,Jg,Jh,Ji,Jj,Jk,Jl,Jm,Jn,Jo,Jp,Jq,Jr,Js,Jt,Ju,Jv,Jw,Jx,Jy,Jz,J0,J1,J2,J3,J4,J5,J6,J7,J8,J9,Jba,Jbb,Jbc,Jbd,Jbe,Jbf,Jbg,Jbh,Jbi,Jbj,Jbk,Jbl,Jbm,Jbn,Jbo,Jbp,Jbq,Jbr,Jbs,Jbt,List.map,Gcg,Gdg,Gag,Gbg,List.replicate,Geg,Gfg,Ggg,true_and,e_lm,s0 vf7,r_kindL vp7,r_append vp7 (show (pk.map V.int).length < 1048576 by rw [List.length_map]; (first | lia | omega))]
      exact hN' _ _ ⟨rfl,md7.updO np (Ne.symm hpc) has,by unfold LI; rw [upd_self]; simp,by rw [upd_ne hfp]; exact vf7⟩
    rintro _ H₈ hPt63
    refine by_c fun no=>?_
    obtain ⟨rfl,md8,vp8,vf8⟩ := hPt63
    refine no ?_;clear no
    refine seq (fun ρ H₉=>(Ex1 fun e'=>An6 (ρ = [some (.script ns),some (.int m),some (.ref t),some (.ref nr),some (.ref od),some (.ref w),some (.ref hd),some (.ref kp),some (.ref le),some (.int (i:Int)),some (.ref z),some (.ref f)]) (Made H₅ H₉ c (as ++ [e']) (rows ++ [[]])) (LI H₉ p (pk ++ [0])) (H₉ f = some (.tuple [.ref p,.ref c])) (e' ≠ p) (e' ≠ f))) (fun N hN'=>?_) ?_
    · simp (disch := first | decide | omega) only [Jb,Jc,Jd,Je,Jf,Jg,Jh,Ji,Jj,Jk,Jl,Jm,Jn,Jo,Jp,Jq,Jr,Js,Jt,Ju,Jv,Jw,Jx,Jy,Jz,J0,J1,J2,J3,J4,J5,J6,J7,J8,J9,Jba,Jbb,Jbc,Jbd,Jbe,Jbf,Jbg,Jbh,Jbi,Jbj,Jbk,Jbl,Jbm,Jbn,Jbo,Jbp,Jbq,Jbr,Jbs,Jbt,List.map,Gcg,Gdg,Gag,Gbg,List.replicate,Geg,Gfg,Ggg,true_and,e_lm,s1 vf8,r_kindL md8.at_]
      refine alloc_i fun e' H₉ e9 n9 v9=>?_
      (try dsimp only)
      rw [r_append (e9 _ _ md8.at_) (by rw [List.length_map]; (first | lia | omega))]
      exact hN' _ _ ⟨e',rfl,md8.snoc e9 n9 v9,(vp8.ext e9).upd_ne hpc,by rw [upd_ne hfc]; exact e9 _ _ vf8,Ne.symm (vp8.ne_none n9),fun w=>by rw [w,vf8] at n9; cases n9⟩
    rintro _ H₉ hPt64
    refine by_c fun no=>?_
    obtain ⟨e',rfl,md9,vp9,vf9,hep,hef⟩ := hPt64
    refine no ?_;clear no
    obtain ⟨x0,hx0⟩:∃ x0,(as ++ [e'])[0]? = some x0 := ⟨_,List.getElem?_eq_getElem (by simp)⟩
    obtain ⟨r0,hr0⟩:∃ r0,(rows ++ [[]])[0]? = some r0 := ⟨_,List.getElem?_eq_getElem (by simp)⟩
    have hal8:(as ++ [e']).length ≤ 61 := by simp; (first | lia | omega)
    have has8:∀ x ∈ as ++ [e'],x ≠ p := fun x hx=>by
      rcases List.mem_append.mp hx with hx | hx
      · exact has x hx
      · rw [List.mem_singleton.mp hx]; exact hep
    generalize as ++ [e'] = as8 at *
    generalize rows ++ [[]] = rows8 at *
    have hx0r:LI H₉ x0 r0 := md9.lists.2 0 x0 r0 hx0 hr0
    have hr0l := hrl r0 (List.mem_of_getElem? hr0)
    have hxp:p ≠ x0 := Ne.symm (has8 x0 (List.mem_of_getElem? hx0))
    have hxf:f ≠ x0 := fun w=>by rw [w] at vf9; unfold LI at hx0r; rw [hx0r] at vf9; cases vf9
    refine seq (fun ρ H₁₀=>ρ = [some (.script ns),some (.int m),some (.ref t),some (.ref nr),some (.ref od),some (.ref w),some (.ref hd),some (.ref kp),some (.ref le),some (.int (i:Int)),some (.ref z),some (.ref f)] ∧ Made H₅ H₁₀ c as8 (rows8.set 0 (r0 ++ [0])) ∧ LI H₁₀ p (pk ++ [0]) ∧ H₁₀ f = some (.tuple [.ref p,.ref c])) (fun N hN'=>?_) ?_
    · have hsub:(as8.map V.ref)[(0:Int).toNat]? = some (.ref x0) := by
        show (as8.map V.ref)[0]? = _
        rw [List.getElem?_map,hx0]; rfl
      simp (disch := first | decide | omega) only [Jb,Jc,Jd,Je,Jf,Jg,Jh,Ji,Jj,Jk,Jl,Jm,Jn,Jo,Jp,Jq,Jr,Js,Jt,Ju,Jv,Jw,Jx,Jy,Jz,J0,J1,J2,J3,J4,J5,J6,J7,J8,J9,Jba,Jbb,Jbc,Jbd,Jbe,Jbf,Jbg,Jbh,Jbi,Jbj,Jbk,Jbl,Jbm,Jbn,Jbo,Jbp,Jbq,Jbr,Jbs,Jbt,List.map,Gcg,Gdg,Gag,Gbg,List.replicate,Geg,Gfg,Ggg,true_and,e_lm,s1 vf9,r_subL md9.at_ (show (0:Int) ≤ 0 by decide) hsub,r_kindL hx0r,r_append hx0r (show (r0.map V.int).length < 1048576 by rw [List.length_map]; (first | lia | omega))]
      have := md9.set0 (r' := r0 ++ [0]) hrn hx0 hr0
      rw [List.map_append] at this
      exact hN' _ _ ⟨rfl,this,vp9.upd_ne hxp,by rw [upd_ne hxf]; exact vf9⟩
    rintro _ H₁₀ hPt65
    refine by_c fun no=>?_
    obtain ⟨rfl,md10,vp10,vf10⟩ := hPt65
    refine no ?_;clear no
    generalize rows8.set 0 (r0 ++ [0]) = rows9 at *
    generalize pk ++ [0] = pk9 at *
    have e10 := md10.ext
    rw [J3,Jz,e_lm,Jg]
    simp only [List.getElem?_cons_zero,List.getElem?_cons_succ]
    rw [Jx,Jv,Jx,Jg]
    simp only [List.getElem?_cons_zero,List.getElem?_cons_succ]
    rw [Jx,Jv,Jx,Jq]
    simp (disch := first | decide | omega) only [Jb,Jc,Jd,Je,Jf,Jg,Jh,Ji,Jj,Jk,Jl,Jm,Jn,Jo,Jp,Jq,Jr,Js,Jt,Ju,Jv,Jw,Jx,Jy,Jz,J0,J1,J2,J3,J4,J5,J6,J7,J8,J9,Jba,Jbb,Jbc,Jbd,Jbe,Jbf,Jbg,Jbh,Jbi,Jbj,Jbk,Jbl,Jbm,Jbn,Jbo,Jbp,Jbq,Jbr,Jbs,Jbt,List.map,Gcg,Gdg,Gag,Gbg,List.replicate,Geg,Gfg,Ggg,true_and,r_kindL (e10 _ _ vk5),s0 vf10,r_listL vp10]
    refine alloc_i fun p' H₁₁ e11 n11 v11=>?_
    (try dsimp only)
    rw [e_comp,c_val]
    have vf11 := e11 _ _ vf10
    have md11 := md10.mono e11
    simp (disch := first | decide | omega) only [Jb,Jc,Jd,Je,Jf,Jg,Jh,Ji,Jj,Jk,Jl,Jm,Jn,Jo,Jp,Jq,Jr,Js,Jt,Ju,Jv,Jw,Jx,Jy,Jz,J0,J1,J2,J3,J4,J5,J6,J7,J8,J9,Jba,Jbb,Jbc,Jbd,Jbe,Jbf,Jbg,Jbh,Jbi,Jbj,Jbk,Jbl,Jbm,Jbn,Jbo,Jbp,Jbq,Jbr,Jbs,Jbt,List.map,Gcg,Gdg,Gag,Gbg,List.replicate,Geg,Gfg,Ggg,true_and,s1 vf11]
    rw [r_srcL md11.at_]
    refine ⟨by simp [big]; (first | lia | omega),gather_copies md11.at_ md11.lists (fun x r H₁₂ K' hx hK'=>?_) fun bs H₁₂ e12 hbs hbn=>?_⟩
    · simp (disch := first | decide | omega) only [Jb,Jc,Jd,Je,Jf,Jg,Jh,Ji,Jj,Jk,Jl,Jm,Jn,Jo,Jp,Jq,Jr,Js,Jt,Ju,Jv,Jw,Jx,Jy,Jz,J0,J1,J2,J3,J4,J5,J6,J7,J8,J9,Jba,Jbb,Jbc,Jbd,Jbe,Jbf,Jbg,Jbh,Jbi,Jbj,Jbk,Jbl,Jbm,Jbn,Jbo,Jbp,Jbq,Jbr,Jbs,Jbt,List.map,Gcg,Gdg,Gag,Gbg,List.replicate,Geg,Gfg,Ggg,true_and,f_law_11_e1,r_listL hx]
      exact hK'
    refine alloc_i fun c' H₁₃ e13 n13 v13=>?_
    (try dsimp only); (try simp (disch := first | decide | omega) only [Jb,Jc,Jd,Je,Jf,Jg,Jh,Ji,Jj,Jk,Jl,Jm,Jn,Jo,Jp,Jq,Jr,Js,Jt,Ju,Jv,Jw,Jx,Jy,Jz,J0,J1,J2,J3,J4,J5,J6,J7,J8,J9,Jba,Jbb,Jbc,Jbd,Jbe,Jbf,Jbg,Jbh,Jbi,Jbj,Jbk,Jbl,Jbm,Jbn,Jbo,Jbp,Jbq,Jbr,Jbs,Jbt,List.map,Gcg,Gdg,Gag,Gbg,List.replicate,Geg,Gfg,Ggg,true_and])
    refine alloc_i fun f' H₁₄ e14 n14 v14=>?_
    (try dsimp only); (try simp (disch := first | decide | omega) only [Jb,Jc,Jd,Je,Jf,Jg,Jh,Ji,Jj,Jk,Jl,Jm,Jn,Jo,Jp,Jq,Jr,Js,Jt,Ju,Jv,Jw,Jx,Jy,Jz,J0,J1,J2,J3,J4,J5,J6,J7,J8,J9,Jba,Jbb,Jbc,Jbd,Jbe,Jbf,Jbg,Jbh,Jbi,Jbj,Jbk,Jbl,Jbm,Jbn,Jbo,Jbp,Jbq,Jbr,Jbs,Jbt,List.map,Gcg,Gdg,Gag,Gbg,List.replicate,Geg,Gfg,Ggg,true_and])
    refine alloc_i fun x H₁₅ e15 n15 v15=>?_
    (try dsimp only); (try simp (disch := first | decide | omega) only [Jb,Jc,Jd,Je,Jf,Jg,Jh,Ji,Jj,Jk,Jl,Jm,Jn,Jo,Jp,Jq,Jr,Js,Jt,Ju,Jv,Jw,Jx,Jy,Jz,J0,J1,J2,J3,J4,J5,J6,J7,J8,J9,Jba,Jbb,Jbc,Jbd,Jbe,Jbf,Jbg,Jbh,Jbi,Jbj,Jbk,Jbl,Jbm,Jbn,Jbo,Jbp,Jbq,Jbr,Jbs,Jbt,List.map,Gcg,Gdg,Gag,Gbg,List.replicate,Geg,Gfg,Ggg,true_and])
    have e1115 := ((e12.trans e13).trans e14).trans e15
    have e511 := e10.trans e11
    have e515 := e511.trans e1115
    rw [r_append (e515 _ _ vk5) (by rw [List.length_map,hkl]; (first | lia | omega))]
    have hbE:Ext (hidQ H₂ hd kp) (upd H₁₅ kp (.list (ks.map V.ref ++ [.ref x]))) := hidQ_upd (hb5.trans e515) (.inr (.inl rfl))
    have hbF:Ext (hidQ H₂ hd kp) (hidQ (upd H₁₅ kp (.list (ks.map V.ref ++ [.ref x]))) hd kp) := hidQ_of hbE hidQ_p hidQ_q
    have nn:∀ y,H₅ y = none → y ≠ hd ∧ y ≠ kp := fun y hy=>⟨fun w=>(by unfold LI at vh5; rw [w,vh5] at hy; cases hy),fun w=>(by rw [w,vk5] at hy; cases hy)⟩
    have at_:∀ y o',H₁₅ y = some o' → H₅ y = none → hidQ (upd H₁₅ kp (.list (ks.map V.ref ++ [.ref x]))) hd kp y = some o' := fun y o' hy hn=>hidQ_at (by rw [upd_ne (nn y hn).2]; exact hy) (nn y hn).1 (nn y hn).2
    have na:∀ y ∈ as8,H₅ y = none := fun y hy=>(md11.fr y hy).2
    have nb:∀ y ∈ bs,H₅ y = none := fun y hy=>e511.isNone (hbn y hy)
    have e1215 := (e13.trans e14).trans e15
    refine hK _ _ ⟨_,_,_,ks ++ [x],rfl,e.trans hbF,⟨_,by rw [upd_ne hhk]; exact e515 _ _ vh5⟩,by rw [upd_self]; simp,by simp [hkl],fun y hy=>?_⟩
    rcases List.mem_append.mp hy with hy | hy
    · exact (hks y hy).ext hbF
    · simp at hy
      subst hy
      refine ⟨f,f',pk9,rows9,at_ _ _ v15 (e511.isNone (((e12.trans e13).trans e14).isNone n15)),⟨p,c,as8,at_ _ _ (e1115 _ _ vf11) nf,at_ _ _ (e1115 _ _ (vp10.ext e11)) np,at_ _ _ (e1115 _ _ md11.at_) md11.new,?_⟩,
        ⟨p',c',bs,at_ _ _ (e15 _ _ v14) (e511.isNone ((e12.trans e13).isNone n14)),at_ _ _ (e1115 _ _ v11) (e10.isNone n11),at_ _ _ ((e14.trans e15) _ _ v13) (e511.isNone (e12.isNone n13)),?_⟩⟩
      · exact ((md11.lists.ext e1115).upd fun w hw=>(nn w (na w hw)).2).hid fun w hw=>nn w (na w hw)
      · exact ((hbs.ext e1215).upd fun w hw=>(nn w (nb w hw)).2).hid fun w hw=>nn w (nb w hw)
  · rintro ρ H₂ hPt66
    refine by_c fun no=>?_
    obtain ⟨r9,r10,r11,ks,rfl,e,⟨xs,vh2⟩,vk2,hkl,hks⟩ := hPt66
    refine no ?_;clear no
    refine lastC (N := fun _ _=>True) F.fh hm (hN.ext e) (hW.ext e) vk2 (by rw [hkl]; exact Nat.le_refl 3) (fun ρ' H₃ e3 x hx Q' hq=>?_) fun _=>rfl
    have hkx:KeptQ H₃ x := ((hks x hx).ext hidQ_ext).ext e3
    simp (disch := first | decide | omega) only [Jb,Jc,Jd,Je,Jf,Jg,Jh,Ji,Jj,Jk,Jl,Jm,Jn,Jo,Jp,Jq,Jr,Js,Jt,Ju,Jv,Jw,Jx,Jy,Jz,J0,J1,J2,J3,J4,J5,J6,J7,J8,J9,Jba,Jbb,Jbc,Jbd,Jbe,Jbf,Jbg,Jbh,Jbi,Jbj,Jbk,Jbl,Jbm,Jbn,Jbo,Jbp,Jbq,Jbr,Jbs,Jbt,List.map,Gcg,Gdg,Gag,Gbg,List.replicate,Geg,Gfg,Ggg,true_and,f_law_11_c1]
    exact hkx.ne _ hq
end Mine.Cl
namespace Mine.Cl
open PySem PySem.W PyProof.Rows
set_option maxRecDepth 100000
set_option maxHeartbeats 8000000
theorem grd (P:Params):grounded (kk P) = true := by kernel_rfl
theorem lawAt (P:Params):(gAddr (kk P) (clOf (kk P)) "law").isSome = true := by kernel_rfl
theorem bas (P:Params):Base (gEnv (kk P)) := by
  constructor <;> kernel_rfl
theorem fn1 (P:Params):Fns (gEnv (kk P)) := by
  refine ⟨bas P,?_,?_,?_,?_⟩ <;> kernel_rfl
theorem fn2 (P:Params):Fns2 (gEnv (kk P)) := by
  refine ⟨fn1 P,?_,?_,?_,?_,?_,?_,?_,?_,?_,?_⟩ <;> kernel_rfl
theorem fnc (P:Params):FnsC (gEnv (kk P)) := by
  refine ⟨fn2 P,?_,?_,?_⟩ <;> kernel_rfl
theorem frr (P:Params):FR (gEnv (kk P)) := by
  constructor <;> kernel_rfl
theorem fhh (P:Params):FH (gEnv (kk P)) := by
  refine ⟨fnc P,frr P,?_,?_,?_,?_,?_,?_,?_,?_⟩ <;> kernel_rfl
theorem fns (P:Params):F11 (gEnv (kk P)) := by
  refine ⟨fhh P,?_,?_⟩ <;> kernel_rfl
theorem main {G:GEnv} (F:F11 G) (H:AH) {ns:List Int}:callN G 40 "law" [.script ns] H (fun v _=>v = .bool true) EF := main11 (n := 32) F H
theorem fin:PySem.Challenge.rw_uf020033_11.Holds := by
  w_on
  refine holds_law (by kernel_rfl) fun said=>?_
  refine holds_open (q := kq) (loose := []) (Xt := fun s=>xlAt kq [] s && recOk (RowW.records PySem.Challenge.rw_uf020033_11.row.toRowW) s) (XP := XL kq []) (Yf := Hook.obs kH) (Ya := Hook.val kH) (YP := Hook.says kH) (N := 6110) left (Hook.of kH) (Hook.keeps kH) (fun s e=>xl_of s (Bool.and_eq_true_iff.mp e).1) XL.keeps (by rfl) (by rfl) (by rfl) (fun s e=>recFacts_of (Bool.and_eq_true_iff.mp e).2) (by rfl) (by first | assumption | decide +kernel) (by decide +kernel) ⟨rfl,rfl,rfl,rfl,rfl,by decide +kernel⟩ ?hw ?hc
  case hw=>w_witness2
  case hc =>
    intro w s₀ s₁ mg mb G Y fa o pm cd doc dV kV ho hd hcd hD hmg hg args vals as hpre hlay hrd hwl hlo
    have KX:(kk w.params).In s₁.heap := kIn_of Y
    refine Ground.open G ?_
    intro T B D TE TW
    wrow_args hpre hlay hrd hwl hlo
    clear hcd hd hD ho Y G B TE TW D
    rename_i nsL _ _ _ _ _ _ _ la items _ hL _ _ _ hI _ hlen _
    exact law_end KX (topRead_of T) (grd _) (lawAt _) hmg hg hL hI (by omega) (main (fns _) _) (fun _=>rfl) (by first | kernel_rfl | decide +kernel | exact postW_of (X := true) (by kernel_rfl) (by kernel_rfl) rfl)
end Mine.Cl
theorem PySem.Challenge.cw_uf020033_11_holds : PySem.Challenge.rw_uf020033_11.Holds :=
  Mine.Cl.fin

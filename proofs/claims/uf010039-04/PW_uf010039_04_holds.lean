import PyProof.Rows.All
import Wide.All
import KE.KEndW
import KE.KNestM
import KE.KDictSum
import KE.KEqDict
import KE.KDflt
import KE.KTryMore
import KE.KItem
import KE.KUnpack
import PySem.Challenge.RW_uf010039_04
set_option Elab.async false
set_option linter.all false
section
namespace Mine
theorem zU {n m:Nat} (h:Nat.ble n m=true):n≤m:=Nat.le_of_ble_eq_true h
theorem zX {α:Type} {as bs:List α}:(as++bs).length=as.length+bs.length:=List.length_append
theorem yq {α:Type} {l:List α} {i:Nat} {a:α} (h:l[i]? = some a):a∈l:=List.mem_of_getElem? h
theorem yO {α:Type} {l:List α} {i:Nat} (h:i<l.length):l[i]? = some l[i]:=List.getElem?_eq_getElem h
theorem zf {α β:Type} {o:Option α} {f:α→Option β} {b:β} (h:o.bind f=some b):∃ a,o=some a∧f a=some b:=Option.bind_eq_some_iff.mp h
theorem yC {α β:Type} {o:Option α} {f:α→β} {b:β} (h:o.map f=some b):∃ a,o=some a∧f a=b:=Option.map_eq_some_iff.mp h
theorem yj {α:Type} {l:List α} {i:Nat} {a:α} (h:l[i]? = some a):∃ q:i<l.length,l[i]=a:=List.getElem?_eq_some_iff.mp h
theorem wc {α:Type} {a:α} {s t:List α} (h:a∈s++t):a∈s∨a∈t:=List.mem_append.mp h
theorem qV {α:Type} {a b:α} (h:a∈[b]):a=b:=List.mem_singleton.mp h
end Mine
end
section
noncomputable section
open PySem PySem.W PyProof.Rows
set_option maxRecDepth 1000000
set_option maxHeartbeats 8000000
namespace Mine.Hd
noncomputable abbrev prog:Program:=PySem.Challenge.rw_uf010039_04.prog
noncomputable def dk (P:Params) (x:Str) (t:Tok) (v:Value):DictEntry:=⟨PyData.keyHash P x,.str x t,v⟩
noncomputable def zJq (j:Option Nat):Stmt→Option Stmt
 | .ClassDef _ _ _ b _ _ _ _ _ _ _=>j.bind fun j=>b[j]?
 | s=>some s
noncomputable def st (i:Nat) (j:Option Nat):Option Stmt:=(prog.main.body[i]?).bind (zJq j)
noncomputable def mkF (s:Option Stmt) (q:Str) (g:Addr) (cl:List (Str×Addr)) (d kd doc pm:Value) (an:Option Addr) (cd ct:Value) (bl:Addr):FuncData:=match s with
 | some (.FunctionDef n a b _ _ _ sc _ _ _)=>⟨n,q,a,.stmts b,sc,g,cl,d,kd,doc,pm,an,cd,ct,bl⟩
 | _=>default
noncomputable def tu (xs:List Value):Obj:=⟨.type "tuple",none,.seq (Array.mk xs) 0,Array.mk []⟩
noncomputable def fi (xs:List Value):Obj:=⟨.none,none,.fields (Array.mk xs),Array.mk []⟩
noncomputable def co (xs:List Value):Obj:=⟨.type "code",none,.fields (Array.mk xs),Array.mk []⟩
noncomputable def fu (f:FuncData):Obj:=⟨.type "function",none,.func f,Array.mk []⟩
noncomputable def f0 (f:FuncData):Obj:=⟨.none,none,.func f,Array.mk []⟩
noncomputable def j (z:Int):Value:=.int z 0
noncomputable def cd (x y:Str) (t:Nat) (l a f:Int) (r:Nat) (b:Bool) (v1 v2 v3:Value) (u:Nat):Obj:=co [.str x t,.str y (t+1),.str "/claim/cut.py" (t+2),j l,j a,j 0,j 0,j f,.ref r,.bool b,j 181,.ref (r+1),.none,v1,v2,v3,j u,j l,.str "/claim/cut.py" (u+1)]
noncomputable def su (n:Nat):Obj:=⟨.type "super",none,.fields (Array.mk [.ref n,.ref n,.ref n]),Array.mk []⟩
noncomputable def bp:Obj:=⟨.type "builtin_function_or_method",none,.fields (Array.mk [.builtin "type.__prepare__",.type "type"]),Array.mk []⟩
noncomputable def bi (n:Nat):Obj:=⟨.type "builtin_function_or_method",none,.fields (Array.mk [.builtin "object.__init_subclass__",.ref n]),Array.mk []⟩
noncomputable def fm (a b c:Nat) (x:Str) (t:Nat):Obj:=⟨.type "frame",none,.plain,Array.mk [some (.ref a),some (.ref b),some (.ref c),none,some (.str x t),none,some (.ref 0)]⟩
noncomputable def di (xs:List DictEntry) (n:Nat):Obj:=⟨.type "dict",none,.dict (List.toArray xs) n,Array.mk []⟩
noncomputable def o_3 (P:Params):Obj:=di [dk P "__name__" 165 (.str "law_uf010039_04" 940),dk P "__doc__" 166 .none,dk P "__package__" 167 .none,dk P "__loader__" 168 (.builtin "__main__.__loader__#opaque"),dk P "__spec__" 169 .none,dk P "__annotations__" 170 (.ref 6),dk P "__builtins__" 171 (.ref 4),dk P "__file__" 173 (.str "/claim/cut.py" 172),dk P "__cached__" 174 .none,dk P "StickError" 206 (.ref 24),dk P "BadText" 222 (.ref 37),dk P "NoPlace" 238 (.ref 49),dk P "NoSeat" 254 (.ref 61),dk P "NoHand" 270 (.ref 73),dk P "NoDeed" 286 (.ref 85),dk P "NoMark" 302 (.ref 97),dk P "is_whole" 311 (.ref 106),dk P "Row" 417 (.ref 189),dk P "LETTERS" 421 (.str " !\"#$&'()*+,-./0123456789:;<=>?@ABCDEFGHIJKLMNOPQRSTUVWXYZ[\\]^_`abcdefghijklmnopqrstuvwxyz{|}~\n" 420),dk P "MOST_HANDS" 423 (.int (9) 422),dk P "is_text" 429 (.ref 198),dk P "Sheet" 733 (.ref 419),dk P "Marks" 828 (.ref 492),dk P "Threads" 919 (.ref 555),dk P "undo" 930 (.ref 566),dk P "redo" 939 (.ref 573),dk P "_law_cell_at" 949 (.ref 580),dk P "_law_mixed" 958 (.ref 587),dk P "_law_text_by" 964 (.ref 592),dk P "_law_size_by" 971 (.ref 599),dk P "_law_fresh" 977 (.ref 604),dk P "_law_sits" 987 (.ref 611),dk P "_law_is_shown" 993 (.ref 616),dk P "_law_shown" 1004 (.ref 623),dk P "_law_at" 1013 (.ref 630),dk P "_law_deed" 1019 (.ref 635),dk P "_law_deed_by" 1033 (.ref 642),dk P "_law_do" 1047 (.ref 649),dk P "_law_word" 1055 (.ref 656),dk P "_law_refusal" 1063 (.ref 663),dk P "_law_odd" 1072 (.ref 670),dk P "_law_rows" 1078 (.ref 675),dk P "_law_deeds" 1084 (.ref 680),dk P "_law_numbers" 1090 (.ref 685),dk P "_law_marks" 1096 (.ref 690),dk P "law" 1113 (.ref 697)] 46
noncomputable def zIy:=tu [(.type "ValueError")]
noncomputable def zIx:=tu []
noncomputable def zIw (P:Params):Obj:=di [dk P "__module__" 196 (.str "stickmarks.errors" 187),dk P "__firstlineno__" 200 (.int (2) 199),dk P "__static_attributes__" 201 (.ref 22),dk P "__weakref__" 203 (.ref 25),dk P "__doc__" 204 .none] 3
noncomputable def zIv:Obj:=⟨(.type "type"),none,(.cls ⟨"StickError",[(.type "ValueError")],[.ref 24,(.type "ValueError"),(.type "Exception"),(.type "BaseException"),(.type "object")],23, "StickError",true,[],[.ref 37,.ref 49,.ref 61,.ref 73,.ref 85,.ref 97],false,none,false⟩),(Array.mk [some (.ref 15),none,some (.str "StickError" 189),some (.str "StickError" 197),some (.builtin "ValueError.__new__"),some (.bool true)])⟩
noncomputable def zIu:Obj:=⟨(.type "getset_descriptor"),none,(.fields (Array.mk [(.str "__weakref__" 202),.ref 24,(.builtin "ExceptionGroup.__weakref__"),.none])),(Array.mk [])⟩
noncomputable def zIt:=tu [.ref 24]
noncomputable def zIs:=tu []
noncomputable def zIr (P:Params):Obj:=di [dk P "__module__" 214 (.str "stickmarks.errors" 187),dk P "__firstlineno__" 218 (.int (4) 217),dk P "__static_attributes__" 219 (.ref 35),dk P "__doc__" 220 .none] 2
noncomputable def zIq:Obj:=⟨(.type "type"),none,(.cls ⟨"BadText",[.ref 24],[.ref 37,.ref 24,(.type "ValueError"),(.type "Exception"),(.type "BaseException"),(.type "object")],36, "BadText",true,[],[],false,none,false⟩),(Array.mk [some (.ref 28),none,some (.str "BadText" 207),some (.str "BadText" 215),some (.builtin "ValueError.__new__"),some (.bool true)])⟩
noncomputable def zIp:=tu [.ref 24]
noncomputable def zIo:=tu []
noncomputable def zIn (P:Params):Obj:=di [dk P "__module__" 230 (.str "stickmarks.errors" 187),dk P "__firstlineno__" 234 (.int (6) 233),dk P "__static_attributes__" 235 (.ref 47),dk P "__doc__" 236 .none] 2
noncomputable def zIm:Obj:=⟨(.type "type"),none,(.cls ⟨"NoPlace",[.ref 24],[.ref 49,.ref 24,(.type "ValueError"),(.type "Exception"),(.type "BaseException"),(.type "object")],48, "NoPlace",true,[],[],false,none,false⟩),(Array.mk [some (.ref 40),none,some (.str "NoPlace" 223),some (.str "NoPlace" 231),some (.builtin "ValueError.__new__"),some (.bool true)])⟩
noncomputable def zIl:=tu [.ref 24]
noncomputable def zIk:=tu []
noncomputable def zIj (P:Params):Obj:=di [dk P "__module__" 246 (.str "stickmarks.errors" 187),dk P "__firstlineno__" 250 (.int (8) 249),dk P "__static_attributes__" 251 (.ref 59),dk P "__doc__" 252 .none] 2
noncomputable def zIi:Obj:=⟨(.type "type"),none,(.cls ⟨"NoSeat",[.ref 24],[.ref 61,.ref 24,(.type "ValueError"),(.type "Exception"),(.type "BaseException"),(.type "object")],60, "NoSeat",true,[],[],false,none,false⟩),(Array.mk [some (.ref 52),none,some (.str "NoSeat" 239),some (.str "NoSeat" 247),some (.builtin "ValueError.__new__"),some (.bool true)])⟩
noncomputable def zIh:=tu [.ref 24]
noncomputable def zIg:=tu []
noncomputable def zIf (P:Params):Obj:=di [dk P "__module__" 262 (.str "stickmarks.errors" 187),dk P "__firstlineno__" 266 (.int (10) 265),dk P "__static_attributes__" 267 (.ref 71),dk P "__doc__" 268 .none] 2
noncomputable def zIe:Obj:=⟨(.type "type"),none,(.cls ⟨"NoHand",[.ref 24],[.ref 73,.ref 24,(.type "ValueError"),(.type "Exception"),(.type "BaseException"),(.type "object")],72, "NoHand",true,[],[],false,none,false⟩),(Array.mk [some (.ref 64),none,some (.str "NoHand" 255),some (.str "NoHand" 263),some (.builtin "ValueError.__new__"),some (.bool true)])⟩
noncomputable def zId:=tu [.ref 24]
noncomputable def zIc:=tu []
noncomputable def zIb (P:Params):Obj:=di [dk P "__module__" 278 (.str "stickmarks.errors" 187),dk P "__firstlineno__" 282 (.int (12) 281),dk P "__static_attributes__" 283 (.ref 83),dk P "__doc__" 284 .none] 2
noncomputable def zIa:Obj:=⟨(.type "type"),none,(.cls ⟨"NoDeed",[.ref 24],[.ref 85,.ref 24,(.type "ValueError"),(.type "Exception"),(.type "BaseException"),(.type "object")],84, "NoDeed",true,[],[],false,none,false⟩),(Array.mk [some (.ref 76),none,some (.str "NoDeed" 271),some (.str "NoDeed" 279),some (.builtin "ValueError.__new__"),some (.bool true)])⟩
noncomputable def zI9:=tu [.ref 24]
noncomputable def zI8:=tu []
noncomputable def zI7 (P:Params):Obj:=di [dk P "__module__" 294 (.str "stickmarks.errors" 187),dk P "__firstlineno__" 298 (.int (14) 297),dk P "__static_attributes__" 299 (.ref 95),dk P "__doc__" 300 .none] 2
noncomputable def zI6:Obj:=⟨(.type "type"),none,(.cls ⟨"NoMark",[.ref 24],[.ref 97,.ref 24,(.type "ValueError"),(.type "Exception"),(.type "BaseException"),(.type "object")],96, "NoMark",true,[],[],false,none,false⟩),(Array.mk [some (.ref 88),none,some (.str "NoMark" 287),some (.str "NoMark" 295),some (.builtin "ValueError.__new__"),some (.bool true)])⟩
noncomputable def zGa:=tu []
noncomputable def zG9:=tu [(.str "thing" 308)]
noncomputable def zG8:=tu []
noncomputable def zG7:Obj:=cd "is_whole" "is_whole" 305 17 1 3 100 true (.ref 102) (.ref 103) (.ref 104) 309
noncomputable def zG6:=fu (mkF (st 9 none) "is_whole" 3 [] .none .none .none (.str "stickmarks.seats" 303) none (.ref 105) .none 0)
noncomputable def zG5:=tu []
noncomputable def zG4:=tu [(.str "self" 327)]
noncomputable def zG3:=tu []
noncomputable def zG2:Obj:=cd "__init__" "Row.__init__" 324 21 1 3 114 true (.ref 116) (.ref 117) (.ref 118) 328
noncomputable def zG1:=fu (mkF (st 10 (some 0)) "Row.__init__" 3 [] .none .none .none (.str "stickmarks.seats" 303) none (.ref 119) .none 0)
noncomputable def zG0:=tu []
noncomputable def zFz:=tu [(.str "self" 334),(.str "seat" 335)]
noncomputable def zFy:=tu []
noncomputable def zFx:Obj:=cd "need_seat" "Row.need_seat" 331 25 2 3 121 true (.ref 123) (.ref 124) (.ref 125) 336
noncomputable def zFw:=fu (mkF (st 10 (some 1)) "Row.need_seat" 3 [] .none .none .none (.str "stickmarks.seats" 303) none (.ref 126) .none 0)
noncomputable def zFv:=tu []
noncomputable def zFu:=tu [(.str "self" 342),(.str "behind" 343),(.str "at" 344),(.str "seat" 345)]
noncomputable def zFt:=tu []
noncomputable def zFs:Obj:=cd "add" "Row.add" 339 29 2 3 128 true (.ref 130) (.ref 131) (.ref 132) 346
noncomputable def zFr:=fu (mkF (st 10 (some 2)) "Row.add" 3 [] .none .none .none (.str "stickmarks.seats" 303) none (.ref 133) .none 0)
noncomputable def zFq:=tu []
noncomputable def zFp:=tu [(.str "self" 352),(.str "seat" 353),(.str "is_taken" 354)]
noncomputable def zFo:=tu []
noncomputable def zFn:Obj:=cd "take" "Row.take" 349 39 3 3 135 true (.ref 137) (.ref 138) (.ref 139) 355
noncomputable def zFm:=fu (mkF (st 10 (some 3)) "Row.take" 3 [] .none .none .none (.str "stickmarks.seats" 303) none (.ref 140) .none 0)
noncomputable def zFl:=tu []
noncomputable def zFk:=tu [(.str "self" 361),(.str "seat" 362)]
noncomputable def zFj:=tu []
noncomputable def zFi:Obj:=cd "is_taken" "Row.is_taken" 358 43 2 3 142 true (.ref 144) (.ref 145) (.ref 146) 363
noncomputable def zFh:=fu (mkF (st 10 (some 4)) "Row.is_taken" 3 [] .none .none .none (.str "stickmarks.seats" 303) none (.ref 147) .none 0)
noncomputable def zFg:=tu []
noncomputable def zFf:=tu [(.str "self" 369)]
noncomputable def zFe:=tu []
noncomputable def zFd:Obj:=cd "many" "Row.many" 366 47 1 3 149 true (.ref 151) (.ref 152) (.ref 153) 370
noncomputable def zFc:=fu (mkF (st 10 (some 5)) "Row.many" 3 [] .none .none .none (.str "stickmarks.seats" 303) none (.ref 154) .none 0)
noncomputable def zFb:=tu []
noncomputable def zFa:=tu [(.str "self" 376)]
noncomputable def zF9:=tu []
noncomputable def zF8:Obj:=cd "all_taken" "Row.all_taken" 373 50 1 3 156 true (.ref 158) (.ref 159) (.ref 160) 377
noncomputable def zF7:=fu (mkF (st 10 (some 6)) "Row.all_taken" 3 [] .none .none .none (.str "stickmarks.seats" 303) none (.ref 161) .none 0)
noncomputable def zF6:=tu []
noncomputable def zF5:Obj:=cd "ahead" "Row.ahead" 380 53 2 3 163 true .none .none (.ref 165) 383
noncomputable def zF4:=fu (mkF (st 10 (some 7)) "Row.ahead" 3 [] .none .none .none (.str "stickmarks.seats" 303) none (.ref 166) .none 0)
noncomputable def zF3:=tu []
noncomputable def zF2:Obj:=cd "find" "Row.find" 386 58 2 3 168 true .none .none (.ref 170) 389
noncomputable def zF1:=fu (mkF (st 10 (some 8)) "Row.find" 3 [] .none .none .none (.str "stickmarks.seats" 303) none (.ref 171) .none 0)
noncomputable def zF0:=tu []
noncomputable def zEz:=tu [(.str "self" 395),(.str "one" 396),(.str "other" 397)]
noncomputable def zEy:=tu []
noncomputable def zEx:Obj:=cd "is_ahead" "Row.is_ahead" 392 64 3 3 173 true (.ref 175) (.ref 176) (.ref 177) 398
noncomputable def zEw:=fu (mkF (st 10 (some 9)) "Row.is_ahead" 3 [] .none .none .none (.str "stickmarks.seats" 303) none (.ref 178) .none 0)
noncomputable def zEv:=tu []
noncomputable def zEu:=tu [(.str "self" 404)]
noncomputable def zEt:=tu []
noncomputable def zEs:Obj:=cd "order" "Row.order" 401 69 1 3 180 true (.ref 182) (.ref 183) (.ref 184) 405
noncomputable def zEr:=fu (mkF (st 10 (some 10)) "Row.order" 3 [] .none .none .none (.str "stickmarks.seats" 303) none (.ref 185) .none 0)
noncomputable def zEq:=tu [(.str "flags" 408),(.str "line" 409)]
noncomputable def zEp (P:Params):Obj:=di [dk P "__module__" 319 (.str "stickmarks.seats" 303),dk P "__firstlineno__" 323 (.int (19) 322),dk P "__init__" 330 (.ref 120),dk P "need_seat" 338 (.ref 127),dk P "add" 348 (.ref 134),dk P "take" 357 (.ref 141),dk P "is_taken" 365 (.ref 148),dk P "many" 372 (.ref 155),dk P "all_taken" 379 (.ref 162),dk P "ahead" 385 (.ref 167),dk P "find" 391 (.ref 172),dk P "is_ahead" 400 (.ref 179),dk P "order" 407 (.ref 186),dk P "__static_attributes__" 410 (.ref 187),dk P "__dict__" 412 (.ref 190),dk P "__weakref__" 414 (.ref 191),dk P "__doc__" 415 .none] 4
noncomputable def zEo:Obj:=⟨(.type "type"),none,(.cls ⟨"Row",[(.type "object")],[.ref 189,(.type "object")],188, "Row",true,[],[],false,none,false⟩),(Array.mk [none,none,some (.str "Row" 312),some (.str "Row" 320),some (.builtin "object.__new__"),some (.bool true)])⟩
noncomputable def zEn:Obj:=⟨(.type "getset_descriptor"),none,(.fields (Array.mk [(.str "__dict__" 411),.ref 189,(.builtin "function.__dict__"),(.builtin "function.__dict__#set")])),(Array.mk [])⟩
noncomputable def zEm:Obj:=⟨(.type "getset_descriptor"),none,(.fields (Array.mk [(.str "__weakref__" 413),.ref 189,(.builtin "ExceptionGroup.__weakref__"),.none])),(Array.mk [])⟩
noncomputable def zEl:=tu []
noncomputable def zEk:Obj:=cd "is_text" "is_text" 424 74 1 3 194 true .none .none (.ref 196) 427
noncomputable def zEj:=fu (mkF (st 14 none) "is_text" 3 [] .none .none .none (.str "stickmarks.sheet" 418) none (.ref 197) .none 0)
noncomputable def zEi:=tu []
noncomputable def zEh:=tu [(.str "self" 445),(.str "text" 446),(.str "hands" 447)]
noncomputable def zEg:=tu []
noncomputable def zEf:Obj:=cd "__init__" "Sheet.__init__" 442 78 3 3 206 true (.ref 208) (.ref 209) (.ref 210) 448
noncomputable def zEe:=fu (mkF (st 15 (some 0)) "Sheet.__init__" 3 [] .none .none .none (.str "stickmarks.sheet" 418) none (.ref 211) .none 0)
noncomputable def zEd:=tu []
noncomputable def zEc:=tu [(.str "self" 454),(.str "text" 455),(.str "behind" 456),(.str "deed" 457),(.str "found" 458),(.str "letter" 459)]
noncomputable def zEb:=tu []
noncomputable def zEa:Obj:=cd "bring" "Sheet.bring" 451 96 4 3 213 true (.ref 215) (.ref 216) (.ref 217) 460
noncomputable def zE9:=fu (mkF (st 15 (some 1)) "Sheet.bring" 3 [] .none .none .none (.str "stickmarks.sheet" 418) none (.ref 218) .none 0)
noncomputable def zE8:=tu []
noncomputable def zE7:=tu [(.str "self" 466),(.str "hand" 467)]
noncomputable def zE6:=tu []
noncomputable def zE5:Obj:=cd "need_hand" "Sheet.need_hand" 463 110 2 3 220 true (.ref 222) (.ref 223) (.ref 224) 468
noncomputable def zE4:=fu (mkF (st 15 (some 2)) "Sheet.need_hand" 3 [] .none .none .none (.str "stickmarks.sheet" 418) none (.ref 225) .none 0)
noncomputable def zE3:=tu []
noncomputable def zE2:=tu [(.str "self" 474),(.str "sign" 475)]
noncomputable def zE1:=tu []
noncomputable def zE0:Obj:=cd "need_sign" "Sheet.need_sign" 471 114 2 3 227 true (.ref 229) (.ref 230) (.ref 231) 476
noncomputable def zDz:=fu (mkF (st 15 (some 3)) "Sheet.need_sign" 3 [] .none .none .none (.str "stickmarks.sheet" 418) none (.ref 232) .none 0)
noncomputable def zDy:=tu []
noncomputable def zDx:=tu [(.str "self" 482),(.str "place" 483)]
noncomputable def zDw:=tu []
noncomputable def zDv:Obj:=cd "need_place" "Sheet.need_place" 479 118 2 3 234 true (.ref 236) (.ref 237) (.ref 238) 484
noncomputable def zDu:=fu (mkF (st 15 (some 4)) "Sheet.need_place" 3 [] .none .none .none (.str "stickmarks.sheet" 418) none (.ref 239) .none 0)
noncomputable def zDt:=tu []
noncomputable def zDs:=tu [(.str "self" 490),(.str "begin" 491),(.str "end" 492)]
noncomputable def zDr:=tu []
noncomputable def zDq:Obj:=cd "need_stretch" "Sheet.need_stretch" 487 122 3 3 241 true (.ref 243) (.ref 244) (.ref 245) 493
noncomputable def zDp:=fu (mkF (st 15 (some 5)) "Sheet.need_stretch" 3 [] .none .none .none (.str "stickmarks.sheet" 418) none (.ref 246) .none 0)
noncomputable def zDo:=tu []
noncomputable def zDn:=tu [(.str "self" 499),(.str "number" 500)]
noncomputable def zDm:=tu []
noncomputable def zDl:Obj:=cd "need_deed" "Sheet.need_deed" 496 128 2 3 248 true (.ref 250) (.ref 251) (.ref 252) 501
noncomputable def zDk:=fu (mkF (st 15 (some 6)) "Sheet.need_deed" 3 [] .none .none .none (.str "stickmarks.sheet" 418) none (.ref 253) .none 0)
noncomputable def zDj:=tu []
noncomputable def zDi:=tu [(.str "self" 507),(.str "sign" 508),(.str "seat" 509),(.str "deed" 510),(.str "other" 511)]
noncomputable def zDh:=tu []
noncomputable def zDg:Obj:=cd "seat_of" "Sheet.seat_of" 504 132 2 3 255 true (.ref 257) (.ref 258) (.ref 259) 512
noncomputable def zDf:=fu (mkF (st 15 (some 7)) "Sheet.seat_of" 3 [] .none .none .none (.str "stickmarks.sheet" 418) none (.ref 260) .none 0)
noncomputable def zDe:=tu []
noncomputable def zDd:Obj:=cd "is_shown" "Sheet.is_shown" 515 139 2 3 262 true .none .none (.ref 264) 518
noncomputable def zDc:=fu (mkF (st 15 (some 8)) "Sheet.is_shown" 3 [] .none .none .none (.str "stickmarks.sheet" 418) none (.ref 265) .none 0)
noncomputable def zDb:=tu []
noncomputable def zDa:=tu [(.str "self" 524),(.str "signs" 525),(.str "sign" 526),(.str "deed" 527),(.str "seat" 528)]
noncomputable def zD9:=tu []
noncomputable def zD8:Obj:=cd "seated" "Sheet.seated" 521 145 2 3 267 true (.ref 269) (.ref 270) (.ref 271) 529
noncomputable def zD7:=fu (mkF (st 15 (some 9)) "Sheet.seated" 3 [] .none .none .none (.str "stickmarks.sheet" 418) none (.ref 272) .none 0)
noncomputable def zD6:=tu []
noncomputable def zD5:=tu [(.str "self" 535)]
noncomputable def zD4:=tu []
noncomputable def zD3:Obj:=cd "size" "Sheet.size" 532 153 1 3 274 true (.ref 276) (.ref 277) (.ref 278) 536
noncomputable def zD2:=fu (mkF (st 15 (some 10)) "Sheet.size" 3 [] .none .none .none (.str "stickmarks.sheet" 418) none (.ref 279) .none 0)
noncomputable def zD1:=tu []
noncomputable def zD0:Obj:=cd "shown" "Sheet.shown" 539 156 1 3 281 true .none .none (.ref 283) 542
noncomputable def zCz:=fu (mkF (st 15 (some 11)) "Sheet.shown" 3 [] .none .none .none (.str "stickmarks.sheet" 418) none (.ref 284) .none 0)
noncomputable def zCy:=tu []
noncomputable def zCx:Obj:=cd "text" "Sheet.text" 545 159 1 3 286 true .none .none (.ref 288) 548
noncomputable def zCw:=fu (mkF (st 15 (some 12)) "Sheet.text" 3 [] .none .none .none (.str "stickmarks.sheet" 418) none (.ref 289) .none 0)
noncomputable def zCv:=tu []
noncomputable def zCu:=tu [(.str "self" 554)]
noncomputable def zCt:=tu []
noncomputable def zCs:Obj:=cd "many" "Sheet.many" 551 162 1 3 291 true (.ref 293) (.ref 294) (.ref 295) 555
noncomputable def zCr:=fu (mkF (st 15 (some 13)) "Sheet.many" 3 [] .none .none .none (.str "stickmarks.sheet" 418) none (.ref 296) .none 0)
noncomputable def zCq:=tu []
noncomputable def zCp:=tu [(.str "self" 561),(.str "sign" 562)]
noncomputable def zCo:=tu []
noncomputable def zCn:Obj:=cd "letter" "Sheet.letter" 558 165 2 3 298 true (.ref 300) (.ref 301) (.ref 302) 563
noncomputable def zCm:=fu (mkF (st 15 (some 14)) "Sheet.letter" 3 [] .none .none .none (.str "stickmarks.sheet" 418) none (.ref 303) .none 0)
noncomputable def zCl:=tu []
noncomputable def zCk:=tu [(.str "self" 569),(.str "place" 570)]
noncomputable def zCj:=tu []
noncomputable def zCi:Obj:=cd "sign_at" "Sheet.sign_at" 566 169 2 3 305 true (.ref 307) (.ref 308) (.ref 309) 571
noncomputable def zCh:=fu (mkF (st 15 (some 15)) "Sheet.sign_at" 3 [] .none .none .none (.str "stickmarks.sheet" 418) none (.ref 310) .none 0)
noncomputable def zCg:=tu []
noncomputable def zCf:=tu [(.str "self" 577),(.str "sign" 578)]
noncomputable def zCe:=tu []
noncomputable def zCd:Obj:=cd "place_of" "Sheet.place_of" 574 172 2 3 312 true (.ref 314) (.ref 315) (.ref 316) 579
noncomputable def zCc:=fu (mkF (st 15 (some 16)) "Sheet.place_of" 3 [] .none .none .none (.str "stickmarks.sheet" 418) none (.ref 317) .none 0)
noncomputable def zCb:=tu []
noncomputable def zCa:=tu [(.str "self" 585),(.str "one" 586),(.str "other" 587)]
noncomputable def zC9:=tu []
noncomputable def zC8:Obj:=cd "is_ahead" "Sheet.is_ahead" 582 176 3 3 319 true (.ref 321) (.ref 322) (.ref 323) 588
noncomputable def zC7:=fu (mkF (st 15 (some 17)) "Sheet.is_ahead" 3 [] .none .none .none (.str "stickmarks.sheet" 418) none (.ref 324) .none 0)
noncomputable def zC6:=tu []
noncomputable def zC5:=tu [(.str "self" 594),(.str "sign" 595)]
noncomputable def zC4:=tu []
noncomputable def zC3:Obj:=cd "rank_of" "Sheet.rank_of" 591 181 2 3 326 true (.ref 328) (.ref 329) (.ref 330) 596
noncomputable def zC2:=fu (mkF (st 15 (some 18)) "Sheet.rank_of" 3 [] .none .none .none (.str "stickmarks.sheet" 418) none (.ref 331) .none 0)
noncomputable def zC1:=tu []
noncomputable def zC0:=tu [(.str "self" 602),(.str "place" 603)]
noncomputable def zBz:=tu []
noncomputable def zBy:Obj:=cd "seat_ahead" "Sheet.seat_ahead" 599 185 2 3 333 true (.ref 335) (.ref 336) (.ref 337) 604
noncomputable def zBx:=fu (mkF (st 15 (some 19)) "Sheet.seat_ahead" 3 [] .none .none .none (.str "stickmarks.sheet" 418) none (.ref 338) .none 0)
noncomputable def zBw:=tu []
noncomputable def zBv:=tu [(.str "self" 610),(.str "hand" 611),(.str "word" 612),(.str "signs" 613)]
noncomputable def zBu:=tu []
noncomputable def zBt:Obj:=cd "noted" "Sheet.noted" 607 190 4 3 340 true (.ref 342) (.ref 343) (.ref 344) 614
noncomputable def zBs:=fu (mkF (st 15 (some 20)) "Sheet.noted" 3 [] .none .none .none (.str "stickmarks.sheet" 418) none (.ref 345) .none 0)
noncomputable def zBr:=tu []
noncomputable def zBq:=tu [(.str "self" 620),(.str "hand" 621),(.str "place" 622),(.str "text" 623)]
noncomputable def zBp:=tu []
noncomputable def zBo:Obj:=cd "put" "Sheet.put" 617 195 4 3 347 true (.ref 349) (.ref 350) (.ref 351) 624
noncomputable def zBn:=fu (mkF (st 15 (some 21)) "Sheet.put" 3 [] .none .none .none (.str "stickmarks.sheet" 418) none (.ref 352) .none 0)
noncomputable def zBm:=tu []
noncomputable def zBl:=tu [(.str "self" 630),(.str "hand" 631),(.str "begin" 632),(.str "end" 633),(.str "signs" 634),(.str "sign" 635)]
noncomputable def zBk:=tu []
noncomputable def zBj:Obj:=cd "cut" "Sheet.cut" 627 203 4 3 354 true (.ref 356) (.ref 357) (.ref 358) 636
noncomputable def zBi:=fu (mkF (st 15 (some 22)) "Sheet.cut" 3 [] .none .none .none (.str "stickmarks.sheet" 418) none (.ref 359) .none 0)
noncomputable def zBh:=tu []
noncomputable def zBg:=tu [(.str "self" 642),(.str "hand" 643),(.str "begin" 644),(.str "end" 645),(.str "place" 646),(.str "signs" 647),(.str "behind" 648),(.str "sign" 649)]
noncomputable def zBf:=tu []
noncomputable def zBe:Obj:=cd "move" "Sheet.move" 639 212 5 3 361 true (.ref 363) (.ref 364) (.ref 365) 650
noncomputable def zBd:=fu (mkF (st 15 (some 23)) "Sheet.move" 3 [] .none .none .none (.str "stickmarks.sheet" 418) none (.ref 366) .none 0)
noncomputable def zBc:=tu []
noncomputable def zBb:=tu [(.str "self" 656)]
noncomputable def zBa:=tu []
noncomputable def zB9:Obj:=cd "deeds" "Sheet.deeds" 653 227 1 3 368 true (.ref 370) (.ref 371) (.ref 372) 657
noncomputable def zB8:=fu (mkF (st 15 (some 24)) "Sheet.deeds" 3 [] .none .none .none (.str "stickmarks.sheet" 418) none (.ref 373) .none 0)
noncomputable def zB7:=tu []
noncomputable def zB6:=tu [(.str "self" 663),(.str "number" 664),(.str "hand" 665),(.str "word" 666),(.str "signs" 667)]
noncomputable def zB5:=tu []
noncomputable def zB4:Obj:=cd "deed" "Sheet.deed" 660 230 2 3 375 true (.ref 377) (.ref 378) (.ref 379) 668
noncomputable def zB3:=fu (mkF (st 15 (some 25)) "Sheet.deed" 3 [] .none .none .none (.str "stickmarks.sheet" 418) none (.ref 380) .none 0)
noncomputable def zB2:=tu []
noncomputable def zB1:=tu [(.str "self" 674),(.str "number" 675)]
noncomputable def zB0:=tu []
noncomputable def zAz:Obj:=cd "stands" "Sheet.stands" 671 235 2 3 382 true (.ref 384) (.ref 385) (.ref 386) 676
noncomputable def zAy:=fu (mkF (st 15 (some 26)) "Sheet.stands" 3 [] .none .none .none (.str "stickmarks.sheet" 418) none (.ref 387) .none 0)
noncomputable def zAx:=tu []
noncomputable def zAw:=tu [(.str "self" 682),(.str "number" 683)]
noncomputable def zAv:=tu []
noncomputable def zAu:Obj:=cd "take_back" "Sheet.take_back" 679 239 2 3 389 true (.ref 391) (.ref 392) (.ref 393) 684
noncomputable def zAt:=fu (mkF (st 15 (some 27)) "Sheet.take_back" 3 [] .none .none .none (.str "stickmarks.sheet" 418) none (.ref 394) .none 0)
noncomputable def zAs:=tu []
noncomputable def zAr:=tu [(.str "self" 690),(.str "number" 691)]
noncomputable def zAq:=tu []
noncomputable def zAp:Obj:=cd "do_again" "Sheet.do_again" 687 246 2 3 396 true (.ref 398) (.ref 399) (.ref 400) 692
noncomputable def zAo:=fu (mkF (st 15 (some 28)) "Sheet.do_again" 3 [] .none .none .none (.str "stickmarks.sheet" 418) none (.ref 401) .none 0)
noncomputable def zAn:=tu []
noncomputable def zAm:=tu [(.str "self" 698),(.str "hand" 699),(.str "found" 700),(.str "number" 701)]
noncomputable def zAl:=tu []
noncomputable def zAk:Obj:=cd "last_standing" "Sheet.last_standing" 695 253 2 3 403 true (.ref 405) (.ref 406) (.ref 407) 702
noncomputable def zAj:=fu (mkF (st 15 (some 29)) "Sheet.last_standing" 3 [] .none .none .none (.str "stickmarks.sheet" 418) none (.ref 408) .none 0)
noncomputable def zAi:=tu []
noncomputable def zAh:=tu [(.str "self" 708),(.str "hand" 709),(.str "found" 710),(.str "number" 711)]
noncomputable def zAg:=tu []
noncomputable def zAf:Obj:=cd "last_gone" "Sheet.last_gone" 705 261 2 3 410 true (.ref 412) (.ref 413) (.ref 414) 712
noncomputable def zAe:=fu (mkF (st 15 (some 30)) "Sheet.last_gone" 3 [] .none .none .none (.str "stickmarks.sheet" 418) none (.ref 415) .none 0)
noncomputable def zAd:=tu [(.str "bringers" 715),(.str "cutters" 716),(.str "done" 717),(.str "firsts" 718),(.str "hands" 719),(.str "letters" 720),(.str "lost" 721),(.str "moved" 722),(.str "owners" 723),(.str "row" 724),(.str "standing" 725)]
noncomputable def zAc (P:Params):Obj:=di [dk P "__module__" 437 (.str "stickmarks.sheet" 418),dk P "__firstlineno__" 441 (.int (76) 440),dk P "__init__" 450 (.ref 212),dk P "bring" 462 (.ref 219),dk P "need_hand" 470 (.ref 226),dk P "need_sign" 478 (.ref 233),dk P "need_place" 486 (.ref 240),dk P "need_stretch" 495 (.ref 247),dk P "need_deed" 503 (.ref 254),dk P "seat_of" 514 (.ref 261),dk P "is_shown" 520 (.ref 266),dk P "seated" 531 (.ref 273),dk P "size" 538 (.ref 280),dk P "shown" 544 (.ref 285),dk P "text" 550 (.ref 290),dk P "many" 557 (.ref 297),dk P "letter" 565 (.ref 304),dk P "sign_at" 573 (.ref 311),dk P "place_of" 581 (.ref 318),dk P "is_ahead" 590 (.ref 325),dk P "rank_of" 598 (.ref 332),dk P "seat_ahead" 606 (.ref 339),dk P "noted" 616 (.ref 346),dk P "put" 626 (.ref 353),dk P "cut" 638 (.ref 360),dk P "move" 652 (.ref 367),dk P "deeds" 659 (.ref 374),dk P "deed" 670 (.ref 381),dk P "stands" 678 (.ref 388),dk P "take_back" 686 (.ref 395),dk P "do_again" 694 (.ref 402),dk P "last_standing" 704 (.ref 409),dk P "last_gone" 714 (.ref 416),dk P "__static_attributes__" 726 (.ref 417),dk P "__dict__" 728 (.ref 420),dk P "__weakref__" 730 (.ref 421),dk P "__doc__" 731 .none] 4
noncomputable def zAb:Obj:=⟨(.type "type"),none,(.cls ⟨"Sheet",[(.type "object")],[.ref 419,(.type "object")],418, "Sheet",true,[],[],false,none,false⟩),(Array.mk [none,none,some (.str "Sheet" 430),some (.str "Sheet" 438),some (.builtin "object.__new__"),some (.bool true)])⟩
noncomputable def zAa:Obj:=⟨(.type "getset_descriptor"),none,(.fields (Array.mk [(.str "__dict__" 727),.ref 419,(.builtin "function.__dict__"),(.builtin "function.__dict__#set")])),(Array.mk [])⟩
noncomputable def zA9:Obj:=⟨(.type "getset_descriptor"),none,(.fields (Array.mk [(.str "__weakref__" 729),.ref 419,(.builtin "ExceptionGroup.__weakref__"),.none])),(Array.mk [])⟩
noncomputable def zA8:=tu []
noncomputable def zA7:=tu [(.str "self" 751),(.str "sheet" 752)]
noncomputable def zA6:=tu []
noncomputable def zA5:Obj:=cd "__init__" "Marks.__init__" 748 271 2 3 431 true (.ref 433) (.ref 434) (.ref 435) 753
noncomputable def zA4:=fu (mkF (st 17 (some 0)) "Marks.__init__" 3 [] .none .none .none (.str "stickmarks.marks" 734) none (.ref 436) .none 0)
noncomputable def zA3:=tu []
noncomputable def zA2:=tu [(.str "self" 759),(.str "number" 760)]
noncomputable def zA1:=tu []
noncomputable def zA0:Obj:=cd "need_mark" "Marks.need_mark" 756 276 2 3 438 true (.ref 440) (.ref 441) (.ref 442) 761
noncomputable def z9z:=fu (mkF (st 17 (some 1)) "Marks.need_mark" 3 [] .none .none .none (.str "stickmarks.marks" 734) none (.ref 443) .none 0)
noncomputable def z9y:=tu []
noncomputable def z9x:=tu [(.str "self" 767),(.str "hand" 768),(.str "place" 769),(.str "sign" 770),(.str "number" 771)]
noncomputable def z9w:=tu []
noncomputable def z9v:Obj:=cd "stick" "Marks.stick" 764 280 3 3 445 true (.ref 447) (.ref 448) (.ref 449) 772
noncomputable def z9u:=fu (mkF (st 17 (some 2)) "Marks.stick" 3 [] .none .none .none (.str "stickmarks.marks" 734) none (.ref 450) .none 0)
noncomputable def z9t:=tu []
noncomputable def z9s:=tu [(.str "self" 778),(.str "number" 779)]
noncomputable def z9r:=tu []
noncomputable def z9q:Obj:=cd "drop" "Marks.drop" 775 288 2 3 452 true (.ref 454) (.ref 455) (.ref 456) 780
noncomputable def z9p:=fu (mkF (st 17 (some 3)) "Marks.drop" 3 [] .none .none .none (.str "stickmarks.marks" 734) none (.ref 457) .none 0)
noncomputable def z9o:=tu []
noncomputable def z9n:=tu [(.str "self" 786),(.str "number" 787)]
noncomputable def z9m:=tu []
noncomputable def z9l:Obj:=cd "sign" "Marks.sign" 783 292 2 3 459 true (.ref 461) (.ref 462) (.ref 463) 788
noncomputable def z9k:=fu (mkF (st 17 (some 4)) "Marks.sign" 3 [] .none .none .none (.str "stickmarks.marks" 734) none (.ref 464) .none 0)
noncomputable def z9j:=tu []
noncomputable def z9i:=tu [(.str "self" 794),(.str "number" 795)]
noncomputable def z9h:=tu []
noncomputable def z9g:Obj:=cd "told" "Marks.told" 791 296 2 3 466 true (.ref 468) (.ref 469) (.ref 470) 796
noncomputable def z9f:=fu (mkF (st 17 (some 5)) "Marks.told" 3 [] .none .none .none (.str "stickmarks.marks" 734) none (.ref 471) .none 0)
noncomputable def z9e:=tu []
noncomputable def z9d:=tu [(.str "self" 802)]
noncomputable def z9c:=tu []
noncomputable def z9b:Obj:=cd "numbers" "Marks.numbers" 799 299 1 3 473 true (.ref 475) (.ref 476) (.ref 477) 803
noncomputable def z9a:=fu (mkF (st 17 (some 6)) "Marks.numbers" 3 [] .none .none .none (.str "stickmarks.marks" 734) none (.ref 478) .none 0)
noncomputable def z99:=tu []
noncomputable def z98:Obj:=cd "of" "Marks.of" 806 302 2 3 480 true .none .none (.ref 482) 809
noncomputable def z97:=fu (mkF (st 17 (some 7)) "Marks.of" 3 [] .none .none .none (.str "stickmarks.marks" 734) none (.ref 483) .none 0)
noncomputable def z96:=tu []
noncomputable def z95:Obj:=cd "order" "Marks.order" 812 306 1 3 485 true .none .none (.ref 487) 815
noncomputable def z94:=fu (mkF (st 17 (some 8)) "Marks.order" 3 [] .none .none .none (.str "stickmarks.marks" 734) none (.ref 488) .none 0)
noncomputable def z93:=tu [(.str "coming" 818),(.str "kept" 819),(.str "sheet" 820)]
noncomputable def z92 (P:Params):Obj:=di [dk P "__module__" 743 (.str "stickmarks.marks" 734),dk P "__firstlineno__" 747 (.int (269) 746),dk P "__init__" 755 (.ref 437),dk P "need_mark" 763 (.ref 444),dk P "stick" 774 (.ref 451),dk P "drop" 782 (.ref 458),dk P "sign" 790 (.ref 465),dk P "told" 798 (.ref 472),dk P "numbers" 805 (.ref 479),dk P "of" 811 (.ref 484),dk P "order" 817 (.ref 489),dk P "__static_attributes__" 821 (.ref 490),dk P "__dict__" 823 (.ref 493),dk P "__weakref__" 825 (.ref 494),dk P "__doc__" 826 .none] 4
noncomputable def z91:Obj:=⟨(.type "type"),none,(.cls ⟨"Marks",[(.type "object")],[.ref 492,(.type "object")],491, "Marks",true,[],[],false,none,false⟩),(Array.mk [none,none,some (.str "Marks" 736),some (.str "Marks" 744),some (.builtin "object.__new__"),some (.bool true)])⟩
noncomputable def z90:Obj:=⟨(.type "getset_descriptor"),none,(.fields (Array.mk [(.str "__dict__" 822),.ref 492,(.builtin "function.__dict__"),(.builtin "function.__dict__#set")])),(Array.mk [])⟩
noncomputable def z8z:Obj:=⟨(.type "getset_descriptor"),none,(.fields (Array.mk [(.str "__weakref__" 824),.ref 492,(.builtin "ExceptionGroup.__weakref__"),.none])),(Array.mk [])⟩
noncomputable def z8y:=tu []
noncomputable def z8x:=tu [(.str "self" 846),(.str "sheet" 847)]
noncomputable def z8w:=tu []
noncomputable def z8v:Obj:=cd "__init__" "Threads.__init__" 843 312 2 3 504 true (.ref 506) (.ref 507) (.ref 508) 848
noncomputable def z8u:=fu (mkF (st 19 (some 0)) "Threads.__init__" 3 [] .none .none .none (.str "stickmarks.threads" 829) none (.ref 509) .none 0)
noncomputable def z8t:=tu []
noncomputable def z8s:=tu [(.str "self" 854),(.str "number" 855)]
noncomputable def z8r:=tu []
noncomputable def z8q:Obj:=cd "need_thread" "Threads.need_thread" 851 317 2 3 511 true (.ref 513) (.ref 514) (.ref 515) 856
noncomputable def z8p:=fu (mkF (st 19 (some 1)) "Threads.need_thread" 3 [] .none .none .none (.str "stickmarks.threads" 829) none (.ref 516) .none 0)
noncomputable def z8o:=tu []
noncomputable def z8n:=tu [(.str "self" 862),(.str "begin" 863),(.str "end" 864),(.str "number" 865)]
noncomputable def z8m:=tu []
noncomputable def z8l:Obj:=cd "tie" "Threads.tie" 859 321 3 3 518 true (.ref 520) (.ref 521) (.ref 522) 866
noncomputable def z8k:=fu (mkF (st 19 (some 2)) "Threads.tie" 3 [] .none .none .none (.str "stickmarks.threads" 829) none (.ref 523) .none 0)
noncomputable def z8j:=tu []
noncomputable def z8i:=tu [(.str "self" 872),(.str "number" 873)]
noncomputable def z8h:=tu []
noncomputable def z8g:Obj:=cd "drop" "Threads.drop" 869 328 2 3 525 true (.ref 527) (.ref 528) (.ref 529) 874
noncomputable def z8f:=fu (mkF (st 19 (some 3)) "Threads.drop" 3 [] .none .none .none (.str "stickmarks.threads" 829) none (.ref 530) .none 0)
noncomputable def z8e:=tu []
noncomputable def z8d:=tu [(.str "self" 880),(.str "number" 881),(.str "first" 882),(.str "second" 883),(.str "begin" 884),(.str "end" 885),(.str "is_shown" 886)]
noncomputable def z8c:=tu []
noncomputable def z8b:Obj:=cd "told" "Threads.told" 877 332 2 3 532 true (.ref 534) (.ref 535) (.ref 536) 887
noncomputable def z8a:=fu (mkF (st 19 (some 4)) "Threads.told" 3 [] .none .none .none (.str "stickmarks.threads" 829) none (.ref 537) .none 0)
noncomputable def z89:=tu []
noncomputable def z88:=tu [(.str "self" 893)]
noncomputable def z87:=tu []
noncomputable def z86:Obj:=cd "numbers" "Threads.numbers" 890 341 1 3 539 true (.ref 541) (.ref 542) (.ref 543) 894
noncomputable def z85:=fu (mkF (st 19 (some 5)) "Threads.numbers" 3 [] .none .none .none (.str "stickmarks.threads" 829) none (.ref 544) .none 0)
noncomputable def z84:=tu []
noncomputable def z83:=tu [(.str "self" 900),(.str "place" 901),(.str "found" 902),(.str "number" 903),(.str "begin" 904),(.str "end" 905)]
noncomputable def z82:=tu []
noncomputable def z81:Obj:=cd "over" "Threads.over" 897 344 2 3 546 true (.ref 548) (.ref 549) (.ref 550) 906
noncomputable def z80:=fu (mkF (st 19 (some 6)) "Threads.over" 3 [] .none .none .none (.str "stickmarks.threads" 829) none (.ref 551) .none 0)
noncomputable def z7z:=tu [(.str "coming" 909),(.str "kept" 910),(.str "sheet" 911)]
noncomputable def z7y (P:Params):Obj:=di [dk P "__module__" 838 (.str "stickmarks.threads" 829),dk P "__firstlineno__" 842 (.int (310) 841),dk P "__init__" 850 (.ref 510),dk P "need_thread" 858 (.ref 517),dk P "tie" 868 (.ref 524),dk P "drop" 876 (.ref 531),dk P "told" 889 (.ref 538),dk P "numbers" 896 (.ref 545),dk P "over" 908 (.ref 552),dk P "__static_attributes__" 912 (.ref 553),dk P "__dict__" 914 (.ref 556),dk P "__weakref__" 916 (.ref 557),dk P "__doc__" 917 .none] 4
noncomputable def z7x:Obj:=⟨(.type "type"),none,(.cls ⟨"Threads",[(.type "object")],[.ref 555,(.type "object")],554, "Threads",true,[],[],false,none,false⟩),(Array.mk [none,none,some (.str "Threads" 831),some (.str "Threads" 839),some (.builtin "object.__new__"),some (.bool true)])⟩
noncomputable def z7w:Obj:=⟨(.type "getset_descriptor"),none,(.fields (Array.mk [(.str "__dict__" 913),.ref 555,(.builtin "function.__dict__"),(.builtin "function.__dict__#set")])),(Array.mk [])⟩
noncomputable def z7v:Obj:=⟨(.type "getset_descriptor"),none,(.fields (Array.mk [(.str "__weakref__" 915),.ref 555,(.builtin "ExceptionGroup.__weakref__"),.none])),(Array.mk [])⟩
noncomputable def z7u:=tu []
noncomputable def z7t:=tu [(.str "sheet" 925),(.str "hand" 926),(.str "number" 927)]
noncomputable def z7s:=tu []
noncomputable def z7r:Obj:=cd "undo" "undo" 922 353 2 3 560 true (.ref 562) (.ref 563) (.ref 564) 928
noncomputable def z7q:=fu (mkF (st 21 none) "undo" 3 [] .none .none .none (.str "stickmarks.undoing" 920) none (.ref 565) .none 0)
noncomputable def z7p:=tu []
noncomputable def z7o:=tu [(.str "sheet" 934),(.str "hand" 935),(.str "number" 936)]
noncomputable def z7n:=tu []
noncomputable def z7m:Obj:=cd "redo" "redo" 931 359 2 3 567 true (.ref 569) (.ref 570) (.ref 571) 937
noncomputable def z7l:=fu (mkF (st 22 none) "redo" 3 [] .none .none .none (.str "stickmarks.undoing" 920) none (.ref 572) .none 0)
noncomputable def z7k:=tu []
noncomputable def z7j:=tu [(.str "_law_script" 945),(.str "_law_k" 946)]
noncomputable def z7i:=tu []
noncomputable def z7h:Obj:=cd "_law_cell_at" "_law_cell_at" 942 366 2 3 574 true (.ref 576) (.ref 577) (.ref 578) 947
noncomputable def z7g:=fu (mkF (st 24 none) "_law_cell_at" 3 [] .none .none .none (.str "law_uf010039_04" 940) none (.ref 579) .none 0)
noncomputable def z7f:=tu []
noncomputable def z7e:=tu [(.str "_law_cell" 953),(.str "_law_k" 954),(.str "_law_number" 955)]
noncomputable def z7d:=tu []
noncomputable def z7c:Obj:=cd "_law_mixed" "_law_mixed" 950 370 2 3 581 true (.ref 583) (.ref 584) (.ref 585) 956
noncomputable def z7b:=fu (mkF (st 25 none) "_law_mixed" 3 [] .none .none .none (.str "law_uf010039_04" 940) none (.ref 586) .none 0)
noncomputable def z7a:=tu []
noncomputable def z79:Obj:=cd "_law_text_by" "_law_text_by" 959 373 2 3 588 true .none .none (.ref 590) 962
noncomputable def z78:=fu (mkF (st 26 none) "_law_text_by" 3 [] .none .none .none (.str "law_uf010039_04" 940) none (.ref 591) .none 0)
noncomputable def z77:=tu []
noncomputable def z76:=tu [(.str "_law_cell" 968)]
noncomputable def z75:=tu []
noncomputable def z74:Obj:=cd "_law_size_by" "_law_size_by" 965 377 1 3 593 true (.ref 595) (.ref 596) (.ref 597) 969
noncomputable def z73:=fu (mkF (st 27 none) "_law_size_by" 3 [] .none .none .none (.str "law_uf010039_04" 940) none (.ref 598) .none 0)
noncomputable def z72:=tu []
noncomputable def z71:=tu [(.str "_law_number" 1023),(.str "_law_size" 1024),(.str "_law_hands" 1025),(.str "_law_hand" 1026),(.str "_law_kind" 1027),(.str "_law_begin" 1028),(.str "_law_end" 1029),(.str "_law_place" 1030)]
noncomputable def z70:=tu []
noncomputable def z6z:Obj:=cd "_law_deed_by" "_law_deed_by" 1020 429 3 3 636 true (.ref 638) (.ref 639) (.ref 640) 1031
noncomputable def z6y:=fu (mkF (st 34 none) "_law_deed_by" 3 [] .none .none .none (.str "law_uf010039_04" 940) none (.ref 641) .none 0)
noncomputable def z6x:=tu []
noncomputable def z6w:=tu [(.str "_law_sheet" 1037),(.str "_law_deed_here" 1038),(.str "_law_hand" 1039),(.str "_law_word_here" 1040),(.str "_law_begin" 1041),(.str "_law_end" 1042),(.str "_law_place" 1043),(.str "_law_text" 1044)]
noncomputable def z6v:=tu []
noncomputable def z6u:Obj:=cd "_law_do" "_law_do" 1034 442 2 3 643 true (.ref 645) (.ref 646) (.ref 647) 1045
noncomputable def z6t:=fu (mkF (st 35 none) "_law_do" 3 [] .none .none .none (.str "law_uf010039_04" 940) none (.ref 648) .none 0)
noncomputable def z6s:=tu []
noncomputable def z6r:=tu [(.str "_law_e" 1051),(.str "_law_some" 1052)]
noncomputable def z6q:=tu []
noncomputable def z6p:Obj:=cd "_law_word" "_law_word" 1048 449 1 3 650 true (.ref 652) (.ref 653) (.ref 654) 1053
noncomputable def z6o:=fu (mkF (st 36 none) "_law_word" 3 [] .none .none .none (.str "law_uf010039_04" 940) none (.ref 655) .none 0)
noncomputable def z6n:=tu []
noncomputable def z6m:=tu [(.str "_law_call" 1059),(.str "_law_e" 1060)]
noncomputable def z6l:=tu []
noncomputable def z6k:Obj:=cd "_law_refusal" "_law_refusal" 1056 455 1 3 657 true (.ref 659) (.ref 660) (.ref 661) 1061
noncomputable def z6j:=fu (mkF (st 37 none) "_law_refusal" 3 [] .none .none .none (.str "law_uf010039_04" 940) none (.ref 662) .none 0)
noncomputable def z6i:=tu []
noncomputable def z6h:=tu [(.str "_law_cell" 1067),(.str "_law_beyond" 1068),(.str "_law_some" 1069)]
noncomputable def z6g:=tu []
noncomputable def z6f:Obj:=cd "_law_odd" "_law_odd" 1064 461 2 3 664 true (.ref 666) (.ref 667) (.ref 668) 1070
noncomputable def z6e:=fu (mkF (st 38 none) "_law_odd" 3 [] .none .none .none (.str "law_uf010039_04" 940) none (.ref 669) .none 0)
noncomputable def z6d:=tu []
noncomputable def z6c:Obj:=cd "_law_rows" "_law_rows" 1073 464 1 3 671 true .none .none (.ref 673) 1076
noncomputable def z6b:=fu (mkF (st 39 none) "_law_rows" 3 [] .none .none .none (.str "law_uf010039_04" 940) none (.ref 674) .none 0)
noncomputable def z6a:=tu []
noncomputable def z69:Obj:=cd "_law_deeds" "_law_deeds" 1079 478 3 3 676 true .none .none (.ref 678) 1082
noncomputable def z68:=fu (mkF (st 40 none) "_law_deeds" 3 [] .none .none .none (.str "law_uf010039_04" 940) none (.ref 679) .none 0)
noncomputable def z67:=tu []
noncomputable def z66:Obj:=cd "_law_numbers" "_law_numbers" 1085 502 2 3 681 true .none .none (.ref 683) 1088
noncomputable def z65:=fu (mkF (st 41 none) "_law_numbers" 3 [] .none .none .none (.str "law_uf010039_04" 940) none (.ref 684) .none 0)
noncomputable def z64:=tu []
noncomputable def z63:Obj:=cd "_law_marks" "_law_marks" 1091 516 5 3 686 true .none .none (.ref 688) 1094
noncomputable def z62:=fu (mkF (st 42 none) "_law_marks" 3 [] .none .none .none (.str "law_uf010039_04" 940) none (.ref 689) .none 0)
noncomputable def z61:=tu []
noncomputable def z60:=tu [(.str "_law_script" 1100),(.str "_law_text" 1101),(.str "_law_hands" 1102),(.str "_law_k" 1103),(.str "_law_cell" 1104),(.str "_law_marks_here" 1105),(.str "_law_threads" 1106),(.str "_law_ahead" 1107)]
noncomputable def z5z:=tu [(.str "_law_bad" 1108),(.str "_law_odd_here" 1109),(.str "_law_sheet" 1110)]
noncomputable def z5y:Obj:=cd "law" "law" 1097 532 1 3 691 true (.ref 693) (.ref 694) (.ref 695) 1111
noncomputable def z5x:=fu (mkF (st 43 none) "law" 3 [] .none .none .none (.str "law_uf010039_04" 940) none (.ref 696) .none 0)
noncomputable def H1 (P:Params):Heap:=⟨⟨[boot_o_0 P,boot_o_1 P,boot_o_2 P,o_3 P,boot_o_4 P,boot_o_5 P,boot_o_6 P,boot_o_7 P,boot_o_8 P,boot_o_9 P,boot_o_10 P,tu [],fi [j 2,j 0,.ref 20,j 4,j 0,.ref 33,j 6,j 0,.ref 45,j 8,j 0,.ref 57,j 10,j 0,.ref 69,j 12,j 0,.ref 81,j 14,j 0,.ref 93,j 17,j 0,.ref 105,j 19,j 0,.ref 112,j 74,j 0,.ref 197,j 76,j 0,.ref 204,j 269,j 0,.ref 429,j 310,j 0,.ref 502,j 353,j 0,.ref 565,j 359,j 0,.ref 572,j 366,j 0,.ref 579,j 370,j 0,.ref 586,j 373,j 0,.ref 591,j 377,j 0,.ref 598,j 381,j 0,.ref 603,j 385,j 0,.ref 610,j 392,j 0,.ref 615,j 396,j 0,.ref 622,j 403,j 0,.ref 629,j 408,j 0,.ref 634,j 429,j 0,.ref 641,j 442,j 0,.ref 648,j 449,j 0,.ref 655,j 455,j 0,.ref 662,j 461,j 0,.ref 669,j 464,j 0,.ref 674,j 478,j 0,.ref 679,j 502,j 0,.ref 684,j 516,j 0,.ref 689,j 532,j 0,.ref 696],cd "<module>" "<module>" 182 1 0 0 11 false .none .none .none 185,fm 13 3 3 "__main__" 164,zIy,bp,di [dk P "__module__" 196 (.str "stickmarks.errors" 187),dk P "__qualname__" 198 (.str "StickError" 197),dk P "__firstlineno__" 200 (.int (2) 199),dk P "__static_attributes__" 201 (.ref 22)] 4,tu [],fi [],cd "StickError" "StickError" 191 2 0 0 18 false .none .none .none 194,fm 20 3 17 "stickmarks.errors" 187,zIx,zIw P,zIv,zIu,su 24,bi 24,zIt,bp,di [dk P "__module__" 214 (.str "stickmarks.errors" 187),dk P "__qualname__" 216 (.str "BadText" 215),dk P "__firstlineno__" 218 (.int (4) 217),dk P "__static_attributes__" 219 (.ref 35)] 4,tu [],fi [],cd "BadText" "BadText" 209 4 0 0 31 false .none .none .none 212,fm 33 3 30 "stickmarks.errors" 187,zIs,zIr P,zIq,su 37,bi 37,zIp,bp,di [dk P "__module__" 230 (.str "stickmarks.errors" 187),dk P "__qualname__" 232 (.str "NoPlace" 231),dk P "__firstlineno__" 234 (.int (6) 233),dk P "__static_attributes__" 235 (.ref 47)] 4,tu [],fi [],cd "NoPlace" "NoPlace" 225 6 0 0 43 false .none .none .none 228,fm 45 3 42 "stickmarks.errors" 187,zIo,zIn P,zIm,su 49,bi 49,zIl,bp,di [dk P "__module__" 246 (.str "stickmarks.errors" 187),dk P "__qualname__" 248 (.str "NoSeat" 247),dk P "__firstlineno__" 250 (.int (8) 249),dk P "__static_attributes__" 251 (.ref 59)] 4,tu [],fi [],cd "NoSeat" "NoSeat" 241 8 0 0 55 false .none .none .none 244,fm 57 3 54 "stickmarks.errors" 187,zIk,zIj P,zIi,su 61,bi 61,zIh,bp,di [dk P "__module__" 262 (.str "stickmarks.errors" 187),dk P "__qualname__" 264 (.str "NoHand" 263),dk P "__firstlineno__" 266 (.int (10) 265),dk P "__static_attributes__" 267 (.ref 71)] 4,tu [],fi [],cd "NoHand" "NoHand" 257 10 0 0 67 false .none .none .none 260,fm 69 3 66 "stickmarks.errors" 187,zIg,zIf P,zIe,su 73,bi 73,zId,bp,di [dk P "__module__" 278 (.str "stickmarks.errors" 187),dk P "__qualname__" 280 (.str "NoDeed" 279),dk P "__firstlineno__" 282 (.int (12) 281),dk P "__static_attributes__" 283 (.ref 83)] 4,tu [],fi [],cd "NoDeed" "NoDeed" 273 12 0 0 79 false .none .none .none 276,fm 81 3 78 "stickmarks.errors" 187,zIc,zIb P,zIa,su 85,bi 85,zI9,bp,di [dk P "__module__" 294 (.str "stickmarks.errors" 187),dk P "__qualname__" 296 (.str "NoMark" 295),dk P "__firstlineno__" 298 (.int (14) 297),dk P "__static_attributes__" 299 (.ref 95)] 4,tu [],fi [],cd "NoMark" "NoMark" 289 14 0 0 91 false .none .none .none 292,fm 93 3 90 "stickmarks.errors" 187,zI8,zI7 P,zI6,su 97,bi 97,zGa,fi [],zG9,zG8,f0 (mkF (st 9 none) "is_whole" 0 [] .none .none .none .none none .none .none 0),zG7,zG6,tu [],bp,di [dk P "__module__" 319 (.str "stickmarks.seats" 303),dk P "__qualname__" 321 (.str "Row" 320),dk P "__firstlineno__" 323 (.int (19) 322),dk P "__init__" 330 (.ref 120),dk P "need_seat" 338 (.ref 127),dk P "add" 348 (.ref 134),dk P "take" 357 (.ref 141),dk P "is_taken" 365 (.ref 148),dk P "many" 372 (.ref 155),dk P "all_taken" 379 (.ref 162),dk P "ahead" 385 (.ref 167),dk P "find" 391 (.ref 172),dk P "is_ahead" 400 (.ref 179),dk P "order" 407 (.ref 186),dk P "__static_attributes__" 410 (.ref 187)] 15,tu [],fi [j 21,j 4,.ref 119,j 25,j 4,.ref 126,j 29,j 4,.ref 133,j 39,j 4,.ref 140,j 43,j 4,.ref 147,j 47,j 4,.ref 154,j 50,j 4,.ref 161,j 53,j 4,.ref 166,j 58,j 4,.ref 171,j 64,j 4,.ref 178,j 69,j 4,.ref 185],cd "Row" "Row" 314 19 0 0 110 false .none .none .none 317,fm 112 3 109 "stickmarks.seats" 303,zG5,fi [],zG4,zG3,f0 (mkF (st 10 (some 0)) "Row.__init__" 0 [] .none .none .none .none none .none .none 0),zG2,zG1,zG0,fi [],zFz,zFy,f0 (mkF (st 10 (some 1)) "Row.need_seat" 0 [] .none .none .none .none none .none .none 0),zFx,zFw,zFv,fi [],zFu,zFt,f0 (mkF (st 10 (some 2)) "Row.add" 0 [] .none .none .none .none none .none .none 0),zFs,zFr,zFq,fi [],zFp,zFo,f0 (mkF (st 10 (some 3)) "Row.take" 0 [] .none .none .none .none none .none .none 0),zFn,zFm,zFl,fi [],zFk,zFj,f0 (mkF (st 10 (some 4)) "Row.is_taken" 0 [] .none .none .none .none none .none .none 0),zFi,zFh,zFg,fi [],zFf,zFe,f0 (mkF (st 10 (some 5)) "Row.many" 0 [] .none .none .none .none none .none .none 0),zFd,zFc,zFb,fi [],zFa,zF9,f0 (mkF (st 10 (some 6)) "Row.all_taken" 0 [] .none .none .none .none none .none .none 0),zF8,zF7,zF6,fi [],f0 (mkF (st 10 (some 7)) "Row.ahead" 0 [] .none .none .none .none none .none .none 0),zF5,zF4,zF3,fi [],f0 (mkF (st 10 (some 8)) "Row.find" 0 [] .none .none .none .none none .none .none 0),zF2,zF1,zF0,fi [],zEz,zEy,f0 (mkF (st 10 (some 9)) "Row.is_ahead" 0 [] .none .none .none .none none .none .none 0),zEx,zEw,zEv,fi [],zEu,zEt,f0 (mkF (st 10 (some 10)) "Row.order" 0 [] .none .none .none .none none .none .none 0),zEs,zEr,zEq,zEp P,zEo,zEn,zEm,su 189,bi 189,zEl,fi [],f0 (mkF (st 14 none) "is_text" 0 [] .none .none .none .none none .none .none 0),zEk,zEj,tu [],bp,di [dk P "__module__" 437 (.str "stickmarks.sheet" 418),dk P "__qualname__" 439 (.str "Sheet" 438),dk P "__firstlineno__" 441 (.int (76) 440),dk P "__init__" 450 (.ref 212),dk P "bring" 462 (.ref 219),dk P "need_hand" 470 (.ref 226),dk P "need_sign" 478 (.ref 233),dk P "need_place" 486 (.ref 240),dk P "need_stretch" 495 (.ref 247),dk P "need_deed" 503 (.ref 254),dk P "seat_of" 514 (.ref 261),dk P "is_shown" 520 (.ref 266),dk P "seated" 531 (.ref 273),dk P "size" 538 (.ref 280),dk P "shown" 544 (.ref 285),dk P "text" 550 (.ref 290),dk P "many" 557 (.ref 297),dk P "letter" 565 (.ref 304),dk P "sign_at" 573 (.ref 311),dk P "place_of" 581 (.ref 318),dk P "is_ahead" 590 (.ref 325),dk P "rank_of" 598 (.ref 332),dk P "seat_ahead" 606 (.ref 339),dk P "noted" 616 (.ref 346),dk P "put" 626 (.ref 353),dk P "cut" 638 (.ref 360),dk P "move" 652 (.ref 367),dk P "deeds" 659 (.ref 374),dk P "deed" 670 (.ref 381),dk P "stands" 678 (.ref 388),dk P "take_back" 686 (.ref 395),dk P "do_again" 694 (.ref 402),dk P "last_standing" 704 (.ref 409),dk P "last_gone" 714 (.ref 416),dk P "__static_attributes__" 726 (.ref 417)] 35,tu [],fi [j 78,j 4,.ref 211,j 96,j 4,.ref 218,j 110,j 4,.ref 225,j 114,j 4,.ref 232,j 118,j 4,.ref 239,j 122,j 4,.ref 246,j 128,j 4,.ref 253,j 132,j 4,.ref 260,j 139,j 4,.ref 265,j 145,j 4,.ref 272,j 153,j 4,.ref 279,j 156,j 4,.ref 284,j 159,j 4,.ref 289,j 162,j 4,.ref 296,j 165,j 4,.ref 303,j 169,j 4,.ref 310,j 172,j 4,.ref 317,j 176,j 4,.ref 324,j 181,j 4,.ref 331,j 185,j 4,.ref 338,j 190,j 4,.ref 345,j 195,j 4,.ref 352,j 203,j 4,.ref 359,j 212,j 4,.ref 366,j 227,j 4,.ref 373,j 230,j 4,.ref 380,j 235,j 4,.ref 387,j 239,j 4,.ref 394,j 246,j 4,.ref 401,j 253,j 4,.ref 408,j 261,j 4,.ref 415],cd "Sheet" "Sheet" 432 76 0 0 202 false .none .none .none 435,fm 204 3 201 "stickmarks.sheet" 418,zEi,fi [],zEh,zEg,f0 (mkF (st 15 (some 0)) "Sheet.__init__" 0 [] .none .none .none .none none .none .none 0),zEf,zEe,zEd,fi [],zEc,zEb,f0 (mkF (st 15 (some 1)) "Sheet.bring" 0 [] .none .none .none .none none .none .none 0),zEa,zE9,zE8,fi [],zE7,zE6,f0 (mkF (st 15 (some 2)) "Sheet.need_hand" 0 [] .none .none .none .none none .none .none 0),zE5,zE4,zE3,fi [],zE2,zE1,f0 (mkF (st 15 (some 3)) "Sheet.need_sign" 0 [] .none .none .none .none none .none .none 0),zE0,zDz,zDy,fi [],zDx,zDw,f0 (mkF (st 15 (some 4)) "Sheet.need_place" 0 [] .none .none .none .none none .none .none 0),zDv,zDu,zDt,fi [],zDs,zDr,f0 (mkF (st 15 (some 5)) "Sheet.need_stretch" 0 [] .none .none .none .none none .none .none 0),zDq,zDp,zDo,fi [],zDn,zDm,f0 (mkF (st 15 (some 6)) "Sheet.need_deed" 0 [] .none .none .none .none none .none .none 0),zDl,zDk,zDj,fi [],zDi,zDh,f0 (mkF (st 15 (some 7)) "Sheet.seat_of" 0 [] .none .none .none .none none .none .none 0),zDg,zDf,zDe,fi [],f0 (mkF (st 15 (some 8)) "Sheet.is_shown" 0 [] .none .none .none .none none .none .none 0),zDd,zDc,zDb,fi [],zDa,zD9,f0 (mkF (st 15 (some 9)) "Sheet.seated" 0 [] .none .none .none .none none .none .none 0),zD8,zD7,zD6,fi [],zD5,zD4,f0 (mkF (st 15 (some 10)) "Sheet.size" 0 [] .none .none .none .none none .none .none 0),zD3,zD2,zD1,fi [],f0 (mkF (st 15 (some 11)) "Sheet.shown" 0 [] .none .none .none .none none .none .none 0),zD0,zCz,zCy,fi [],f0 (mkF (st 15 (some 12)) "Sheet.text" 0 [] .none .none .none .none none .none .none 0),zCx,zCw,zCv,fi [],zCu,zCt,f0 (mkF (st 15 (some 13)) "Sheet.many" 0 [] .none .none .none .none none .none .none 0),zCs,zCr,zCq,fi [],zCp,zCo,f0 (mkF (st 15 (some 14)) "Sheet.letter" 0 [] .none .none .none .none none .none .none 0),zCn,zCm,zCl,fi [],zCk,zCj,f0 (mkF (st 15 (some 15)) "Sheet.sign_at" 0 [] .none .none .none .none none .none .none 0),zCi,zCh,zCg,fi [],zCf,zCe,f0 (mkF (st 15 (some 16)) "Sheet.place_of" 0 [] .none .none .none .none none .none .none 0),zCd,zCc,zCb,fi [],zCa,zC9,f0 (mkF (st 15 (some 17)) "Sheet.is_ahead" 0 [] .none .none .none .none none .none .none 0),zC8,zC7,zC6,fi [],zC5,zC4,f0 (mkF (st 15 (some 18)) "Sheet.rank_of" 0 [] .none .none .none .none none .none .none 0),zC3,zC2,zC1,fi [],zC0,zBz,f0 (mkF (st 15 (some 19)) "Sheet.seat_ahead" 0 [] .none .none .none .none none .none .none 0),zBy,zBx,zBw,fi [],zBv,zBu,f0 (mkF (st 15 (some 20)) "Sheet.noted" 0 [] .none .none .none .none none .none .none 0),zBt,zBs,zBr,fi [],zBq,zBp,f0 (mkF (st 15 (some 21)) "Sheet.put" 0 [] .none .none .none .none none .none .none 0),zBo,zBn,zBm,fi [],zBl,zBk,f0 (mkF (st 15 (some 22)) "Sheet.cut" 0 [] .none .none .none .none none .none .none 0),zBj,zBi,zBh,fi [],zBg,zBf,f0 (mkF (st 15 (some 23)) "Sheet.move" 0 [] .none .none .none .none none .none .none 0),zBe,zBd,zBc,fi [],zBb,zBa,f0 (mkF (st 15 (some 24)) "Sheet.deeds" 0 [] .none .none .none .none none .none .none 0),zB9,zB8,zB7,fi [],zB6,zB5,f0 (mkF (st 15 (some 25)) "Sheet.deed" 0 [] .none .none .none .none none .none .none 0),zB4,zB3,zB2,fi [],zB1,zB0,f0 (mkF (st 15 (some 26)) "Sheet.stands" 0 [] .none .none .none .none none .none .none 0),zAz,zAy,zAx,fi [],zAw,zAv,f0 (mkF (st 15 (some 27)) "Sheet.take_back" 0 [] .none .none .none .none none .none .none 0),zAu,zAt,zAs,fi [],zAr,zAq,f0 (mkF (st 15 (some 28)) "Sheet.do_again" 0 [] .none .none .none .none none .none .none 0),zAp,zAo,zAn,fi [],zAm,zAl,f0 (mkF (st 15 (some 29)) "Sheet.last_standing" 0 [] .none .none .none .none none .none .none 0),zAk,zAj,zAi,fi [],zAh,zAg,f0 (mkF (st 15 (some 30)) "Sheet.last_gone" 0 [] .none .none .none .none none .none .none 0),zAf,zAe,zAd,zAc P,zAb,zAa,zA9,su 419,bi 419,tu [],bp,di [dk P "__module__" 743 (.str "stickmarks.marks" 734),dk P "__qualname__" 745 (.str "Marks" 744),dk P "__firstlineno__" 747 (.int (269) 746),dk P "__init__" 755 (.ref 437),dk P "need_mark" 763 (.ref 444),dk P "stick" 774 (.ref 451),dk P "drop" 782 (.ref 458),dk P "sign" 790 (.ref 465),dk P "told" 798 (.ref 472),dk P "numbers" 805 (.ref 479),dk P "of" 811 (.ref 484),dk P "order" 817 (.ref 489),dk P "__static_attributes__" 821 (.ref 490)] 13,tu [],fi [j 271,j 4,.ref 436,j 276,j 4,.ref 443,j 280,j 4,.ref 450,j 288,j 4,.ref 457,j 292,j 4,.ref 464,j 296,j 4,.ref 471,j 299,j 4,.ref 478,j 302,j 4,.ref 483,j 306,j 4,.ref 488],cd "Marks" "Marks" 738 269 0 0 427 false .none .none .none 741,fm 429 3 426 "stickmarks.marks" 734,zA8,fi [],zA7,zA6,f0 (mkF (st 17 (some 0)) "Marks.__init__" 0 [] .none .none .none .none none .none .none 0),zA5,zA4,zA3,fi [],zA2,zA1,f0 (mkF (st 17 (some 1)) "Marks.need_mark" 0 [] .none .none .none .none none .none .none 0),zA0,z9z,z9y,fi [],z9x,z9w,f0 (mkF (st 17 (some 2)) "Marks.stick" 0 [] .none .none .none .none none .none .none 0),z9v,z9u,z9t,fi [],z9s,z9r,f0 (mkF (st 17 (some 3)) "Marks.drop" 0 [] .none .none .none .none none .none .none 0),z9q,z9p,z9o,fi [],z9n,z9m,f0 (mkF (st 17 (some 4)) "Marks.sign" 0 [] .none .none .none .none none .none .none 0),z9l,z9k,z9j,fi [],z9i,z9h,f0 (mkF (st 17 (some 5)) "Marks.told" 0 [] .none .none .none .none none .none .none 0),z9g,z9f,z9e,fi [],z9d,z9c,f0 (mkF (st 17 (some 6)) "Marks.numbers" 0 [] .none .none .none .none none .none .none 0),z9b,z9a,z99,fi [],f0 (mkF (st 17 (some 7)) "Marks.of" 0 [] .none .none .none .none none .none .none 0),z98,z97,z96,fi [],f0 (mkF (st 17 (some 8)) "Marks.order" 0 [] .none .none .none .none none .none .none 0),z95,z94,z93,z92 P,z91,z90,z8z,su 492,bi 492,tu [],bp,di [dk P "__module__" 838 (.str "stickmarks.threads" 829),dk P "__qualname__" 840 (.str "Threads" 839),dk P "__firstlineno__" 842 (.int (310) 841),dk P "__init__" 850 (.ref 510),dk P "need_thread" 858 (.ref 517),dk P "tie" 868 (.ref 524),dk P "drop" 876 (.ref 531),dk P "told" 889 (.ref 538),dk P "numbers" 896 (.ref 545),dk P "over" 908 (.ref 552),dk P "__static_attributes__" 912 (.ref 553)] 11,tu [],fi [j 312,j 4,.ref 509,j 317,j 4,.ref 516,j 321,j 4,.ref 523,j 328,j 4,.ref 530,j 332,j 4,.ref 537,j 341,j 4,.ref 544,j 344,j 4,.ref 551],cd "Threads" "Threads" 833 310 0 0 500 false .none .none .none 836,fm 502 3 499 "stickmarks.threads" 829,z8y,fi [],z8x,z8w,f0 (mkF (st 19 (some 0)) "Threads.__init__" 0 [] .none .none .none .none none .none .none 0),z8v,z8u,z8t,fi [],z8s,z8r,f0 (mkF (st 19 (some 1)) "Threads.need_thread" 0 [] .none .none .none .none none .none .none 0),z8q,z8p,z8o,fi [],z8n,z8m,f0 (mkF (st 19 (some 2)) "Threads.tie" 0 [] .none .none .none .none none .none .none 0),z8l,z8k,z8j,fi [],z8i,z8h,f0 (mkF (st 19 (some 3)) "Threads.drop" 0 [] .none .none .none .none none .none .none 0),z8g,z8f,z8e,fi [],z8d,z8c,f0 (mkF (st 19 (some 4)) "Threads.told" 0 [] .none .none .none .none none .none .none 0),z8b,z8a,z89,fi [],z88,z87,f0 (mkF (st 19 (some 5)) "Threads.numbers" 0 [] .none .none .none .none none .none .none 0),z86,z85,z84,fi [],z83,z82,f0 (mkF (st 19 (some 6)) "Threads.over" 0 [] .none .none .none .none none .none .none 0),z81,z80,z7z,z7y P,z7x,z7w,z7v,su 555,bi 555,z7u,fi [],z7t,z7s,f0 (mkF (st 21 none) "undo" 0 [] .none .none .none .none none .none .none 0),z7r,z7q,z7p,fi [],z7o,z7n,f0 (mkF (st 22 none) "redo" 0 [] .none .none .none .none none .none .none 0),z7m,z7l,z7k,fi [],z7j,z7i,f0 (mkF (st 24 none) "_law_cell_at" 0 [] .none .none .none .none none .none .none 0),z7h,z7g,z7f,fi [],z7e,z7d,f0 (mkF (st 25 none) "_law_mixed" 0 [] .none .none .none .none none .none .none 0),z7c,z7b,z7a,fi [],f0 (mkF (st 26 none) "_law_text_by" 0 [] .none .none .none .none none .none .none 0),z79,z78,z77,fi [],z76,z75,f0 (mkF (st 27 none) "_law_size_by" 0 [] .none .none .none .none none .none .none 0),z74,z73,tu [],fi [],f0 (mkF (st 28 none) "_law_fresh" 0 [] .none .none .none .none none .none .none 0),cd "_law_fresh" "_law_fresh" 972 381 2 3 600 true .none .none (.ref 602) 975,fu (mkF (st 28 none) "_law_fresh" 3 [] .none .none .none (.str "law_uf010039_04" 940) none (.ref 603) .none 0),tu [],fi [],tu [(.str "_law_state" 981),(.str "_law_best" 982),(.str "_law_sign" 983),(.str "_law_deed_here" 984)],tu [],f0 (mkF (st 29 none) "_law_sits" 0 [] .none .none .none .none none .none .none 0),cd "_law_sits" "_law_sits" 978 385 1 3 605 true (.ref 607) (.ref 608) (.ref 609) 985,fu (mkF (st 29 none) "_law_sits" 3 [] .none .none .none (.str "law_uf010039_04" 940) none (.ref 610) .none 0),tu [],fi [],f0 (mkF (st 30 none) "_law_is_shown" 0 [] .none .none .none .none none .none .none 0),cd "_law_is_shown" "_law_is_shown" 988 392 2 3 612 true .none .none (.ref 614) 991,fu (mkF (st 30 none) "_law_is_shown" 3 [] .none .none .none (.str "law_uf010039_04" 940) none (.ref 615) .none 0),tu [],fi [],tu [(.str "_law_state" 997),(.str "_law_best" 998),(.str "_law_found" 999),(.str "_law_sign" 1000),(.str "_law_deed_here" 1001)],tu [],f0 (mkF (st 31 none) "_law_shown" 0 [] .none .none .none .none none .none .none 0),cd "_law_shown" "_law_shown" 994 396 1 3 617 true (.ref 619) (.ref 620) (.ref 621) 1002,fu (mkF (st 31 none) "_law_shown" 3 [] .none .none .none (.str "law_uf010039_04" 940) none (.ref 622) .none 0),tu [],fi [],tu [(.str "_law_state" 1008),(.str "_law_place" 1009),(.str "_law_sign" 1010)],tu [],f0 (mkF (st 32 none) "_law_at" 0 [] .none .none .none .none none .none .none 0),cd "_law_at" "_law_at" 1005 403 2 3 624 true (.ref 626) (.ref 627) (.ref 628) 1011,fu (mkF (st 32 none) "_law_at" 3 [] .none .none .none (.str "law_uf010039_04" 940) none (.ref 629) .none 0),tu [],fi [],f0 (mkF (st 33 none) "_law_deed" 0 [] .none .none .none .none none .none .none 0),cd "_law_deed" "_law_deed" 1014 408 2 3 631 true .none .none (.ref 633) 1017,fu (mkF (st 33 none) "_law_deed" 3 [] .none .none .none (.str "law_uf010039_04" 940) none (.ref 634) .none 0),z72,fi [],z71,z70,f0 (mkF (st 34 none) "_law_deed_by" 0 [] .none .none .none .none none .none .none 0),z6z,z6y,z6x,fi [],z6w,z6v,f0 (mkF (st 35 none) "_law_do" 0 [] .none .none .none .none none .none .none 0),z6u,z6t,z6s,fi [],z6r,z6q,f0 (mkF (st 36 none) "_law_word" 0 [] .none .none .none .none none .none .none 0),z6p,z6o,z6n,fi [],z6m,z6l,f0 (mkF (st 37 none) "_law_refusal" 0 [] .none .none .none .none none .none .none 0),z6k,z6j,z6i,fi [],z6h,z6g,f0 (mkF (st 38 none) "_law_odd" 0 [] .none .none .none .none none .none .none 0),z6f,z6e,z6d,fi [],f0 (mkF (st 39 none) "_law_rows" 0 [] .none .none .none .none none .none .none 0),z6c,z6b,z6a,fi [],f0 (mkF (st 40 none) "_law_deeds" 0 [] .none .none .none .none none .none .none 0),z69,z68,z67,fi [],f0 (mkF (st 41 none) "_law_numbers" 0 [] .none .none .none .none none .none .none 0),z66,z65,z64,fi [],f0 (mkF (st 42 none) "_law_marks" 0 [] .none .none .none .none none .none .none 0),z63,z62,z61,fi [],z60,z5z,f0 (mkF (st 43 none) "law" 0 [] .none .none .none .none none .none .none 0),z5y,z5x]⟩,{}⟩
noncomputable def K (P:Params):Frag:=[(2,boot_o_2 P),(3,o_3 P),(15,zIy),(22,zIx),(23,zIw P),(24,zIv),(25,zIu),(28,zIt),(35,zIs),(36,zIr P),(37,zIq),(40,zIp),(47,zIo),(48,zIn P),(49,zIm),(52,zIl),(59,zIk),(60,zIj P),(61,zIi),(64,zIh),(71,zIg),(72,zIf P),(73,zIe),(76,zId),(83,zIc),(84,zIb P),(85,zIa),(88,zI9),(95,zI8),(96,zI7 P),(97,zI6),(100,zGa),(102,zG9),(103,zG8),(105,zG7),(106,zG6),(114,zG5),(116,zG4),(117,zG3),(119,zG2),(120,zG1),(121,zG0),(123,zFz),(124,zFy),(126,zFx),(127,zFw),(128,zFv),(130,zFu),(131,zFt),(133,zFs),(134,zFr),(135,zFq),(137,zFp),(138,zFo),(140,zFn),(141,zFm),(142,zFl),(144,zFk),(145,zFj),(147,zFi),(148,zFh),(149,zFg),(151,zFf),(152,zFe),(154,zFd),(155,zFc),(156,zFb),(158,zFa),(159,zF9),(161,zF8),(162,zF7),(163,zF6),(166,zF5),(167,zF4),(168,zF3),(171,zF2),(172,zF1),(173,zF0),(175,zEz),(176,zEy),(178,zEx),(179,zEw),(180,zEv),(182,zEu),(183,zEt),(185,zEs),(186,zEr),(187,zEq),(188,zEp P),(189,zEo),(190,zEn),(191,zEm),(194,zEl),(197,zEk),(198,zEj),(206,zEi),(208,zEh),(209,zEg),(211,zEf),(212,zEe),(213,zEd),(215,zEc),(216,zEb),(218,zEa),(219,zE9),(220,zE8),(222,zE7),(223,zE6),(225,zE5),(226,zE4),(227,zE3),(229,zE2),(230,zE1),(232,zE0),(233,zDz),(234,zDy),(236,zDx),(237,zDw),(239,zDv),(240,zDu),(241,zDt),(243,zDs),(244,zDr),(246,zDq),(247,zDp),(248,zDo),(250,zDn),(251,zDm),(253,zDl),(254,zDk),(255,zDj),(257,zDi),(258,zDh),(260,zDg),(261,zDf),(262,zDe),(265,zDd),(266,zDc),(267,zDb),(269,zDa),(270,zD9),(272,zD8),(273,zD7),(274,zD6),(276,zD5),(277,zD4),(279,zD3),(280,zD2),(281,zD1),(284,zD0),(285,zCz),(286,zCy),(289,zCx),(290,zCw),(291,zCv),(293,zCu),(294,zCt),(296,zCs),(297,zCr),(298,zCq),(300,zCp),(301,zCo),(303,zCn),(304,zCm),(305,zCl),(307,zCk),(308,zCj),(310,zCi),(311,zCh),(312,zCg),(314,zCf),(315,zCe),(317,zCd),(318,zCc),(319,zCb),(321,zCa),(322,zC9),(324,zC8),(325,zC7),(326,zC6),(328,zC5),(329,zC4),(331,zC3),(332,zC2),(333,zC1),(335,zC0),(336,zBz),(338,zBy),(339,zBx),(340,zBw),(342,zBv),(343,zBu),(345,zBt),(346,zBs),(347,zBr),(349,zBq),(350,zBp),(352,zBo),(353,zBn),(354,zBm),(356,zBl),(357,zBk),(359,zBj),(360,zBi),(361,zBh),(363,zBg),(364,zBf),(366,zBe),(367,zBd),(368,zBc),(370,zBb),(371,zBa),(373,zB9),(374,zB8),(375,zB7),(377,zB6),(378,zB5),(380,zB4),(381,zB3),(382,zB2),(384,zB1),(385,zB0),(387,zAz),(388,zAy),(389,zAx),(391,zAw),(392,zAv),(394,zAu),(395,zAt),(396,zAs),(398,zAr),(399,zAq),(401,zAp),(402,zAo),(403,zAn),(405,zAm),(406,zAl),(408,zAk),(409,zAj),(410,zAi),(412,zAh),(413,zAg),(415,zAf),(416,zAe),(417,zAd),(418,zAc P),(419,zAb),(420,zAa),(421,zA9),(431,zA8),(433,zA7),(434,zA6),(436,zA5),(437,zA4),(438,zA3),(440,zA2),(441,zA1),(443,zA0),(444,z9z),(445,z9y),(447,z9x),(448,z9w),(450,z9v),(451,z9u),(452,z9t),(454,z9s),(455,z9r),(457,z9q),(458,z9p),(459,z9o),(461,z9n),(462,z9m),(464,z9l),(465,z9k),(466,z9j),(468,z9i),(469,z9h),(471,z9g),(472,z9f),(473,z9e),(475,z9d),(476,z9c),(478,z9b),(479,z9a),(480,z99),(483,z98),(484,z97),(485,z96),(488,z95),(489,z94),(490,z93),(491,z92 P),(492,z91),(493,z90),(494,z8z),(504,z8y),(506,z8x),(507,z8w),(509,z8v),(510,z8u),(511,z8t),(513,z8s),(514,z8r),(516,z8q),(517,z8p),(518,z8o),(520,z8n),(521,z8m),(523,z8l),(524,z8k),(525,z8j),(527,z8i),(528,z8h),(530,z8g),(531,z8f),(532,z8e),(534,z8d),(535,z8c),(537,z8b),(538,z8a),(539,z89),(541,z88),(542,z87),(544,z86),(545,z85),(546,z84),(548,z83),(549,z82),(551,z81),(552,z80),(553,z7z),(554,z7y P),(555,z7x),(556,z7w),(557,z7v),(560,z7u),(562,z7t),(563,z7s),(565,z7r),(566,z7q),(567,z7p),(569,z7o),(570,z7n),(572,z7m),(573,z7l),(574,z7k),(576,z7j),(577,z7i),(579,z7h),(580,z7g),(581,z7f),(583,z7e),(584,z7d),(586,z7c),(587,z7b),(588,z7a),(591,z79),(592,z78),(593,z77),(595,z76),(596,z75),(598,z74),(599,z73),(636,z72),(638,z71),(639,z70),(641,z6z),(642,z6y),(643,z6x),(645,z6w),(646,z6v),(648,z6u),(649,z6t),(650,z6s),(652,z6r),(653,z6q),(655,z6p),(656,z6o),(657,z6n),(659,z6m),(660,z6l),(662,z6k),(663,z6j),(664,z6i),(666,z6h),(667,z6g),(669,z6f),(670,z6e),(671,z6d),(674,z6c),(675,z6b),(676,z6a),(679,z69),(680,z68),(681,z67),(684,z66),(685,z65),(686,z64),(689,z63),(690,z62),(691,z61),(693,z60),(694,z5z),(696,z5y),(697,z5x)]
noncomputable def as:List Addr:=[2,3,15,22,23,24,25,28,35,36,37,40,47,48,49,52,59,60,61,64,71,72,73,76,83,84,85,88,95,96,97,100,102,103,105,106,114,116,117,119,120,121,123,124,126,127,128,130,131,133,134,135,137,138,140,141,142,144,145,147,148,149,151,152,154,155,156,158,159,161,162,163,166,167,168,171,172,173,175,176,178,179,180,182,183,185,186,187,188,189,190,191,194,197,198,206,208,209,211,212,213,215,216,218,219,220,222,223,225,226,227,229,230,232,233,234,236,237,239,240,241,243,244,246,247,248,250,251,253,254,255,257,258,260,261,262,265,266,267,269,270,272,273,274,276,277,279,280,281,284,285,286,289,290,291,293,294,296,297,298,300,301,303,304,305,307,308,310,311,312,314,315,317,318,319,321,322,324,325,326,328,329,331,332,333,335,336,338,339,340,342,343,345,346,347,349,350,352,353,354,356,357,359,360,361,363,364,366,367,368,370,371,373,374,375,377,378,380,381,382,384,385,387,388,389,391,392,394,395,396,398,399,401,402,403,405,406,408,409,410,412,413,415,416,417,418,419,420,421,431,433,434,436,437,438,440,441,443,444,445,447,448,450,451,452,454,455,457,458,459,461,462,464,465,466,468,469,471,472,473,475,476,478,479,480,483,484,485,488,489,490,491,492,493,494,504,506,507,509,510,511,513,514,516,517,518,520,521,523,524,525,527,528,530,531,532,534,535,537,538,539,541,542,544,545,546,548,549,551,552,553,554,555,556,557,560,562,563,565,566,567,569,570,572,573,574,576,577,579,580,581,583,584,586,587,588,591,592,593,595,596,598,599,636,638,639,641,642,643,645,646,648,649,650,652,653,655,656,657,659,660,662,663,664,666,667,669,670,671,674,675,676,679,680,681,684,685,686,689,690,691,693,694,696,697]
end Mine.Hd
end
section
open PySem PySem.W PyProof.Rows
set_option maxRecDepth 1000000
set_option maxHeartbeats 8000000
namespace Mine.Hd
noncomputable abbrev bdE:List Stmt:=behindTheImports prog
noncomputable abbrev evE:Env:={scope:=prog.main.scope,locals:=mainNs,globals:=mainNs,cells:=[],code:=.ref 13,frame:=some 14}
noncomputable abbrev cdE:Code:=.body bdE evE
noncomputable def trE (l:List Obj):BT:=(l.foldl (fun p o=>(p.1.ins p.2 o,p.2+1)) (BT.nil,0)).1
noncomputable abbrev SaE (w:World) (os:OsState):SharedT:=⟨trE ((((H1 w.params).objs.toList.take 15).set 3 (boot_o_3 w.params)).set 12 ⟨.none,none,.fields ⟨[]⟩,⟨[]⟩⟩),15,{},⟨[]⟩,{},187,os⟩
noncomputable abbrev SbE (w:World) (os:OsState):SharedT:=⟨trE (H1 w.params).objs.toList,698,{},⟨[]⟩,{},1114,os⟩
theorem rn1 (w:World) (os:OsState):topGo treeTable prog w 11 (some (.ref 6)) 12 ⟨boot_heap w.params,Array.mk [],boot_drawn,boot_toks,os⟩ (topStub prog)=some ((SaE w os).abs,⟨denote treeTable cdE,cdE,default,[topFrame default]⟩):=by
 rw [PySem.W.Fast.te15667345088766844465,PySem.W.Fast.te14364793385576792824,PySem.W.Fast.te11892475500146522536]
 kernel_rfl
theorem rn2 (w:World) (os:OsState):segRun treeTable prog w 11 (some (.ref 6)) 1 1 (SaE w os).abs (blockOf bdE evE cdE default [topFrame default])=some (.next,(SaE w os).abs,cdE,default):=rfl
theorem rn3 (w:World) (os:OsState):segRunT treeTable prog w 11 (some (.ref 6)) 1 4905 (SaE w os) ⟨(execs bdE evE).wrap doneF deadEnd id id,cdE,default,[topFrame default]⟩=some (.next,SbE w os,cdE,⟨532,0,557,124⟩):=by
 rw [PySem.W.Fast.te10110043849684766642,PySem.W.Fast.te14364793385576792824,PySem.W.Fast.te12563942051412417395]
 kernel_rfl
theorem rn4 (w:World) (os:OsState):topRun treeTable prog w 11 (some (.ref 6)) 5016 (SbE w os).abs (restOf [] evE cdE ⟨532,0,557,124⟩ [topFrame default])=some ⟨H1 w.params,Array.mk [],{},1114,os⟩:=by kernel_rfl
theorem run (w:World) (os:OsState):topRun treeTable prog w 11 (some (.ref 6)) 9934 ⟨boot_heap w.params,Array.mk [],boot_drawn,boot_toks,os⟩ (topStub prog)=some ⟨H1 w.params,Array.mk [],{},1114,os⟩:=
 go_top (N:=9922) (rn1 w os) (piece_block (n:=1) (N:=9921) (rn2 w os) (List.append_nil bdE▸piece_app (n:=4905) (N:=5016) (segRun_of (rn3 w os)) (rn4 w os)))
end Mine.Hd
end
section
open PySem PySem.W PyProof.Rows
set_option maxRecDepth 1000000
set_option maxHeartbeats 8000000
noncomputable section
namespace Mine.Hd
theorem ws:OpenLaw.wellSaid PySem.Challenge.rw_uf010039_04=true:=by
 rw [PySem.W.Fast.te9446332074065402090]
 kernel_rfl
theorem opn (w:World):(fencedOpening treeTable prog w 9934).map (fun s=>(s.heap,s.gens,s.drawn,s.toks))=some (boot_heap w.params,Array.mk [],boot_drawn,boot_toks):=boot_open (p:=prog) (N:=9934) (by kernel_rfl) (by decide) (fun s=>rfl) w
theorem siz (w:World):((boot_heap w.params).isNs mainGlobals && (Array.mk []:Array GenState).size == 0,(boot_heap w.params).objs.size,(boot_heap w.params).nsMap mainGlobals "__annotations__")=(true,11,some (.ref 6)):=by kernel_rfl
noncomputable abbrev qv:Program:=view prog [1,2,3,4,5,6,7,9,10,12,13,14,15,17,19,21,22,24,25,26,27,28,29,30,31,32,33,34,35,36,37,38,39,40,41,42,43]
noncomputable abbrev Xt (s:Shared):Bool:=xlAt qv [] s && recOk (RowW.records (OpenRow.toRowW (OpenLaw.row PySem.Challenge.rw_uf010039_04))) s
theorem asK (P:Params):as=(K P).map (·.1):=by kernel_rfl
noncomputable abbrev hk:Hook:=kmHook K as asK [692,672,677,682,687]
noncomputable abbrev S1 (w:World) (os:OsState):Shared:=⟨H1 w.params,Array.mk [],{},1114,os⟩
theorem lk1 (w:World) (os:OsState):(staticsOk (importedModules prog.main.body) (boot_heap w.params) (H1 w.params) && namesBound prog (H1 w.params) && gensDone (S1 w os) && laidKept (boot_heap w.params) (H1 w.params))=true:=by kernel_rfl
theorem lk3 (w:World) (os:OsState):hk.obs (S1 w os)=hk.val w:=by kernel_rfl
end Mine.Hd
end
section
open PySem PySem.W PyProof.Rows
set_option maxRecDepth 1000000
set_option maxHeartbeats 8000000
noncomputable section
namespace Mine.Hd
theorem lk2 (w:World) (os:OsState):openSeen qv [] (importedModules prog.main.body) Xt true (S1 w os)=openGood qv []:=by
 rw [PySem.W.Fast.te4187177175401517315]
 kernel_rfl
end Mine.Hd
end
section
namespace Mine
open PySem PySem.W PySem.Calls PyProof.Rows
section
variable {prog:Program} {w:World} {A:Around} {E:Value→Shared→Prop} {s:Shared}
theorem Yv:∀ {kvs:List (Int×Value)} {vs:List Value},vs.length=kvs.length→(∀ (j:Nat) v,vs[j]? = some v→∃ k x,kvs[j]? = some (k,x)∧(intKind prog w).is k v=true)→IntsAre vs (kvs.map (·.1)):=by
 intro kvs
 induction kvs with
 | nil=>intro vs hl _;rw [List.length_eq_zero_iff.mp hl];exact .nil
 | cons p kvs ih =>
  intro vs hl h
  cases vs with
  | nil=>cases hl
  | cons v vs =>
   obtain ⟨k,x,e,hk⟩:=h 0 v rfl
   cases e
   obtain ⟨t,rfl⟩:∃ t,v=.int k t:=by
    have hk':Value.isInt k v=true:=hk
    cases v with
    | int i t=>exact ⟨t,by rw [show i=k from by simpa [Value.isInt] using hk']⟩
    | _=>exact absurd hk' Bool.false_ne_true
   exact .cons k t (ih (Nat.succ.inj hl) fun j v e=>h (j+1) v e)
theorem QU {d:Addr} {kvs:List (Int×Value)} {Q:Value→Shared→Prop} (hd:(d == sysModules)=false) (hm:s.heap.DictOf (intKind prog w) d kvs) (hh:A.handled=none) (h64:kvs.length<64)
  (h:∀ D h' tk (vs:Array Value) n ns,(∀ b o,s.heap.get? b=some o→h'.get? b=some o)→s.heap.get? D=none→h'.get? D=some (seqObj "list" vs n)→IntsAre vs.toList ns→ns.Perm (kvs.map (·.1))→ns.Pairwise (·≤·)→Q (.ref D) { s with heap:=h',toks:=tk }) :
  wpAny (model prog w) A (call (.builtin "sorted") [.ref d]) Q E s:=by
 obtain ⟨ep,hat⟩:=hm.dictAt
 have hn:kvs.length≤sizeLine:=Nat.le_trans (Nat.le_of_lt h64) (by decide)
 refine call_function_entry kind_sorted plain_sorted entry_sorted (args_sorted1 _) ?_
 unfold Builtin.«sorted»
 refine wpAny_bind (m:=checkCount "sorted" 1 1 _) (wpAny_pure ?_)
 refine wpAny_bind (kdu_collect (A:=A.in1) (kdl_dict (knd:=intKind prog w) (kvs:=kvs) (ep:=ep) hd) hh hat hn fun h' tk acc hk hacc=>?_)
 have hl:acc.toList.length=kvs.length:=by rw [Array.length_toList];exact hacc.1
 have hI:IntsAre acc.toList (kvs.map (·.1)):=Yv (prog:=prog) (w:=w) hl fun j v e=>hacc.2 j v (by rw [← Array.getElem?_toList];exact e)
 refine wpAny_bind (wpAny_newList ?_ (by rw [hl];exact hn))
 have hoL:(h'.push (seqObj "list" acc.toList.toArray 0)).get? h'.objs.size=some (seqObj "list" acc.toList.toArray 0):=Heap.get?_push_size _ rfl
 refine wpAny_bind (wpAny_holding (wpAny_call_entry slot_list_sort ⟨_,hoL,rfl⟩ entry_list_sort (list_sort_tree hoL hI (by rw [hl];exact h64) fun out ns' a1 a2 a3=>⟨_,rfl,?_⟩) (args_list_sort _)))
 have keep:∀ b o,s.heap.get? b=some o→(sortedHeap (h'.push (seqObj "list" acc.toList.toArray 0)) h'.objs.size acc.toList out).get? b=some o:=fun b o e=>by
  have hb:=hk b o e
  have hlt:=Heap.lt_size hb
  rw [sortedHeap_old (Nat.ne_of_lt hlt) (by rw [Heap.size_push];exact Nat.lt_succ_of_lt hlt)]
  exact Heap.get?_push_of_some _ hb
 obtain ⟨n,hn'⟩:=sortedHeap_at (out:=out) hoL
 refine wpAny_pure ⟨_,rfl,h h'.objs.size _ tk out n ns' keep ?_ hn' a1 a2 a3⟩
 cases q:s.heap.get? h'.objs.size with
 | none=>rfl
 | some o=>exact absurd (Heap.lt_size (hk _ _ q)) (Nat.lt_irrefl _)
end
end Mine
end
section
set_option genSizeOf false
set_option genInjectivity false
noncomputable section
namespace Mine
open PySem
inductive Bi where
 | len | isinstance | int | bool | str | list | range | min | max | any | all | enumerate | sorted | valErr
structure LamS where
 ar:Arguments
 body:Expr
 sp:Scope
 q:Str
inductive AV where
 | none | bool (b:Bool) | int (i:Int) | str (s:Str)
 | ref (a:Nat) | tup (xs:List AV) | lst (xs:List AV) | range (a b:Int)
 | fn (x:Str) | cls (x:Str) | bi (b:Bi)
 | exc (c:Str) | lam (l:LamS) (cs:List Nat)
inductive AO where
 | list (xs:List AV)
 | inst (cls:Str) (fs:List (Str×AV))
 | dict (kvs:List (Int×AV))
 | cell (v:Option AV)
 | tab (q:Str)
noncomputable abbrev Hp:=List AO
noncomputable abbrev AFr:=List (Option AV)
set_option genInjectivity true in
inductive Out (α:Type) where
 | stuck
 | ok (a:α) (h:Hp)
 | exc (c:Str) (h:Hp)
noncomputable def Out.bind {α β:Type} (o:Out α) (k:α→Hp→Out β):Out β:=match o with
 | .stuck=>.stuck
 | .ok a h=>k a h
 | .exc c h=>.exc c h
theorem Out.bind_ok {α β:Type} (a:α) (h:Hp) (k:α→Hp→Out β):(Out.ok a h).bind k=k a h:=rfl
noncomputable def Out.bind0 {α β:Type} (o:Out α) (k:α→Hp→Out β):Out β:=match o with
 | .ok a h=>k a h
 | _=>.stuck
theorem Out.bind0_ok {α β:Type} (a:α) (h:Hp) (k:α→Hp→Out β):(Out.ok a h).bind0 k=k a h:=rfl
theorem Out.bind_stuck {α β:Type} (k:α→Hp→Out β):(Out.stuck:Out α).bind k=.stuck:=rfl
noncomputable def Out.of {α:Type} (o:Option α) (h:Hp):Out α:=match o with
 | some a=>.ok a h
 | none=>.stuck
theorem Out.of_some {α:Type} (a:α) (h:Hp):Out.of (some a) h=.ok a h:=rfl
theorem Out.of_none {α:Type} (h:Hp):Out.of (none:Option α) h=.stuck:=rfl
theorem nos {α:Type} {P:Prop} {t:α} (h:(none:Option α)=some t):P:=by cases h
theorem Y7 {α:Type} {P:α→Prop} {o:Option {t:α // P t}} {t:α} (h:o.map (·.1)=some t):P t:=by
 obtain ⟨q,_,rfl⟩:=yC h
 exact q.2
theorem nob {P:Prop} (h:false=true):P:=by cases h
theorem xf {a b:Bool} (h:(a && b)=true):a=true∧b=true:=Bool.and_eq_true_iff.mp h
theorem orT {a b:Bool} (h:(a || b)=true):a=true∨b=true:=Bool.or_eq_true_iff.mp h
theorem zIz {a:Bool} (h:(!a)=true):a=false:=(Bool.not_eq_true' a).mp h
theorem nok {α:Type} {P:Prop} {a:α} {hp:Hp} (h:(Out.stuck:Out α)=.ok a hp):P:=by cases h
theorem zr {α:Type} {p:Prop} [Decidable p] {x y:α} (e:(if p then some x else none)=some y):p∧x=y:=by
 by_cases h:p
 ·rw [if_pos h] at e;cases e;exact ⟨h,rfl⟩
 ·rw [if_neg h] at e;exact nos e
theorem wM {α:Type} {p:Prop} [Decidable p] {o:Option α} {y:α} (e:(if p then o else none)=some y):p∧o=some y:=by
 by_cases h:p
 ·rw [if_pos h] at e;exact ⟨h,e⟩
 ·rw [if_neg h] at e;exact nos e
inductive Callee where
 | fn (x:Str)
 | cls (x:Str)
 | meth (c x:Str)
 | has (c x:Str)
 | lam (l:LamS)
 | word (f:Str)
noncomputable abbrev CF:=Callee→List AV→Hp→Out AV
noncomputable abbrev XE:=CF→AFr→Hp→Out AV
noncomputable abbrev XT:=CF→AFr→Hp→Out Bool
noncomputable abbrev XEs:=CF→AFr→Hp→Out (List AV)
inductive AFlow where
 | next
 | ret (v:AV)
inductive OS where
 | stuck
 | ok (fl:AFlow) (fr:AFr) (h:Hp)
 | exc (new:Bool) (c:Str) (fr:AFr) (h:Hp)
noncomputable abbrev XS:=CF→AFr→Hp→OS
noncomputable def Out.bindS {α:Type} (o:Out α) (fr:AFr) (k:α→Hp→OS):OS:=match o with
 | .stuck=>.stuck
 | .ok a h=>k a h
 | .exc c h=>.exc false c fr h
theorem Out.bindS_ok {α:Type} (a:α) (h:Hp) (fr:AFr) (k:α→Hp→OS):(Out.ok a h).bindS fr k=k a h:=rfl
noncomputable def yd {α β:Type} (f:α→Option β):List α→Option (List β)
 | []=>some []
 | x::xs=>(match f x,yd f xs with
  | some y,some ys=>some (y::ys)
  | _,_=>none)
noncomputable def xj:AV→Option Int
 | .int i=>some i
 | _=>none
noncomputable def J3:AV→Option Bool
 | .bool i=>some i
 | _=>none
noncomputable def zHp:AV→Option Bi
 | .bi i=>some i
 | _=>none
noncomputable def xg:AV→Option Str
 | .str i=>some i
 | _=>none
noncomputable def xh:AV→Option Nat
 | .ref i=>some i
 | _=>none
noncomputable def ZL:AV→Option (List AV)
 | .tup xs=>some xs
 | _=>none
noncomputable def y7 (h:Hp) (a:Nat):Option (List AV):=match h[a]? with
 | some (.list xs)=>some xs
 | _=>none
noncomputable def xy (h:Hp) (a:Nat):Option (List (Int×AV)):=match h[a]? with
 | some (.dict kvs)=>some kvs
 | _=>none
noncomputable def ZG {K:Type} [DecidableEq K] (kvs:List (K×AV)) (k:K):Option AV:=(kvs.find? fun kv=>kv.1=k).map (·.2)
noncomputable def Q8 (kvs:List (Int×AV)) (k:Int) (v:AV):List (Int×AV):=if kvs.any (fun kv=>kv.1=k) then kvs.map (fun kv=>if kv.1=k then (kv.1,v) else kv) else kvs++[(k,v)]
noncomputable def WG:AV→Option PyData
 | .none=>some .none
 | .bool b=>some (.bool b)
 | .int i=>some (.int i)
 | .str s=>if PyData.strOk s then some (.str s) else none
 | _=>none
noncomputable def toD (hp:Hp):Nat→AV→Option PyData
 | 0,v=>WG v
 | n+1,v=>(match xh v with
  | some a=>(match y7 hp a with
   | some xs=>(yd (toD hp n) xs).map .list
   | none=>none)
  | none=>(match ZL v with
   | some xs=>(yd (toD hp n) xs).map .tuple
   | none=>WG v))
noncomputable def aEq (h:Hp) (a b:AV):Option Bool:=(toD h 8 a).bind fun x=>(toD h 8 b).map fun y=>PyData.eqv x y
noncomputable def ji (h:Hp):AV→Option (List AV)
 | .lst xs=>some xs
 | .ref a=>y7 h a
 | _=>none
noncomputable def small:Nat:=1048576
noncomputable def okI:Int→Bool
 | .ofNat m=>Nat.ble m 4611686018427387903
 | .negSucc _=>false
theorem qH {k:Int}:okI k=true↔0≤k∧k<4611686018427387904:=by
 cases k with
 | ofNat m=>exact ⟨fun h=>⟨Int.natCast_nonneg m,Int.ofNat_lt.mpr (Nat.lt_succ_of_le (zU h))⟩,fun h=>Nat.ble_eq_true_of_le (Nat.le_of_lt_succ (Int.ofNat_lt.mp h.2))⟩
 | negSucc m=>exact ⟨fun h=>nob h,fun h=>absurd h.1 (Int.not_le.mpr (Int.negSucc_lt_zero m))⟩
theorem qf {k:Nat} (h:k≤small):okI (k:Int)=true :=
 qH.mpr ⟨Int.natCast_nonneg k,Int.ofNat_lt.mpr (Nat.lt_of_le_of_lt h (by decide))⟩
noncomputable def qE (h:Hp):AV→Option Bool
 | .none=>some false
 | .bool b=>some b
 | .int i=>some (decide (i≠0))
 | _=>none
noncomputable def zJi:Operator→Int→Int→Option Int
 | .Add,i,j=>some (i+j)
 | .Sub,i,j=>some (i - j)
 | .Mult,i,j=>if i.natAbs<2 ^ 63∨j.natAbs<2 ^ 63 then some (i * j) else none
 | .FloorDiv,i,j=>if j≠0∧j.natAbs<1073741824 then some (i.fdiv j) else none
 | .Mod,i,j=>if j=0 then none else some (i.fmod j)
 | .Pow,i,j=>if i=10∧j=12 then some 1000000000000 else if i=10∧j=9 then some 1000000000 else none
 | _,_,_=>none
noncomputable def z14:Operator→Str→Str→Option AV
 | .Add,x,y=>if x.length+y.length≤small then some (.str (x++y)) else none
 | _,_,_=>none
noncomputable def ofP:Option (AV×Hp)→Out AV
 | some p=>.ok p.1 p.2
 | none=>.stuck
noncomputable def z2n (op:Operator) (a:Nat) (b:AV) (h:Hp):Option (AV×Hp):=match op with
 | .Add=>(y7 h a).bind fun xs=>(xh b).bind fun y=>(y7 h y).bind fun ys=>if xs.length+ys.length≤small then some (.ref h.length,h++[.list (xs++ys)]) else none
 | _=>none
noncomputable def QC (op:Operator) (a b:AV) (h:Hp):Out AV:=match xh a with
 | some a=>ofP (z2n op a b h)
 | none=>Out.of (match xg a with
  | some x=>(xg b).bind fun y=>z14 op x y
  | none=>(xj a).bind fun i=>(xj b).bind fun j=>(zJi op i j).map AV.int) h
noncomputable def isA (a b:AV):Option Bool:=match b with
 | .none=>(match a with
  | .none=>some true
  | .bool _=>some false
  | .int _=>some false
  | .str _=>some false
  | .ref _=>some false
  | .tup _=>some false
  | _=>Option.none)
 | .bool y=>(J3 a).map fun x=>x == y
 | _=>Option.none
noncomputable def z4m (h:Hp) (v:AV):Option (List PyData):=(xh v).bind fun a=>(y7 h a).bind fun xs=>yd (toD h 7) xs
noncomputable def jP (h:Hp) (l x:AV):Option Nat:=(z4m h l).bind fun ds=>(toD h 8 x).bind fun d=>ds.findIdx? fun y=>PyData.eqv y d
noncomputable def wQ (h:Hp) (l x:AV):Option Nat:=(z4m h l).bind fun ds=>(toD h 8 x).map fun d=>ds.countP fun y=>PyData.eqv y d
noncomputable def inA (h:Hp) (a b:AV):Option Bool:=match xh b with
 | some d=>(xj a).bind fun k=>(xy h d).map fun kvs=>(ZG kvs k).isSome
 | none=>(xg a).bind fun x=>(xg b).map fun y=>Txt.contains y x
noncomputable def z3k (p:Int→Int→Bool) (a b:AV):Option Bool:=(xj a).bind fun i=>(xj b).map fun j=>p i j
noncomputable def xQ (op:CmpOp) (a b:AV) (h:Hp):Option Bool:=match op with
 | .Eq=>aEq h a b
 | .NotEq=>(aEq h a b).map (!·)
 | .Lt=>z3k (fun i j=>decide (i<j)) a b
 | .LtE=>z3k (fun i j=>decide (i≤j)) a b
 | .Gt=>z3k (fun i j=>decide (j<i)) a b
 | .GtE=>z3k (fun i j=>decide (j≤i)) a b
 | .Is=>isA a b
 | .IsNot=>(isA a b).map (!·)
 | .In=>inA h a b
 | .NotIn=>(inA h a b).map (!·)
noncomputable def Wr (h:Hp) (a:Nat):Option Bool:=match y7 h a with
 | some _=>some false
 | none=>(xy h a).map fun _=>false
noncomputable def z2v (h:Hp) (v:AV) (t:Bi):Option Bool:=match t with
 | .int=>(match v with
  | .int _=>some true
  | .bool _=>some true
  | .none=>some false
  | .str _=>some false
  | .tup _=>some false
  | .ref a=>Wr h a
  | _=>Option.none)
 | .bool=>(match v with
  | .bool _=>some true
  | .int _=>some false
  | _=>Option.none)
 | .str=>(match v with
  | .str _=>some true
  | .int _=>some false
  | .bool _=>some false
  | .none=>some false
  | .ref a=>Wr h a
  | _=>Option.none)
 | _=>Option.none
inductive Src where
 | imm (xs:List AV)
 | ref (a:Nat)
 | enum (a:Nat)
noncomputable def xK (a b:Int):List AV:=(List.range (b - a).toNat).map fun (k:Nat)=>.int (a+(k:Int))
noncomputable def je (s:Str):List AV:=s.cps.toList.map fun c=>.str ⟨#[c]⟩
noncomputable def yw (h:Hp):AV→Option (Src×Nat)
 | .tup xs=>some (.imm xs,xs.length)
 | .range a b=>some (.imm (xK a b),(b - a).toNat)
 | .str s=>some (.imm (je s),s.length)
 | .ref a=>(match h[a]? with
  | some (.list xs)=>some (.ref a,xs.length)
  | _=>none)
 | _=>none
noncomputable def Src.next? (h:Hp):Src→Nat→Option (Option AV)
 | .imm xs,k=>some xs[k]?
 | .ref a,k=>(match h[a]? with
  | some (.list ys)=>some ys[k]?
  | _=>none)
 | .enum a,k=>(match h[a]? with
  | some (.list ys)=>some ((ys[k]?).map fun x=>.tup [.int k,x])
  | _=>none)
noncomputable def z2q (h:Hp) (v:AV):Option Nat:=match xg v with
 | some x=>some x.length
 | none=>(ji h v).map List.length
noncomputable def wl:List AV→Option AV
 | [a]=>some a
 | _=>none
noncomputable def Y4:List AV→Option (AV×AV)
 | [a,b]=>some (a,b)
 | _=>none
noncomputable def qB:List AV→Option (List Bool)
 | []=>some []
 | x::xs=>(J3 x).bind fun b=>(qB xs).map (b::·)
noncomputable def ZN:List AV→Option (List Str)
 | []=>some []
 | x::xs=>(xg x).bind fun b=>(ZN xs).map (b::·)
noncomputable def biO (b:Bi) (args:List AV) (h:Hp):Option (AV×Hp):=match b with
 | .len=>(wl args).bind fun v=>(z2q h v).map fun n=>(.int (n:Nat),h)
 | .isinstance=>(Y4 args).bind fun p=>(zHp p.2).bind fun t=>(z2v h p.1 t).map fun r=>(.bool r,h)
 | .min=>(Y4 args).bind fun p=>(xj p.1).bind fun i=>(xj p.2).map fun j=>(.int (if j<i then j else i),h)
 | .max=>(Y4 args).bind fun p=>(xj p.1).bind fun i=>(xj p.2).map fun j=>(.int (if i<j then j else i),h)
 | .range=>(wl args).bind fun v=>(xj v).bind fun b=>if b.natAbs<2 ^ 62 then some (.range 0 b,h) else none
 | .list=>(wl args).bind fun v=>(xh v).bind fun b=>(y7 h b).bind fun xs=>if xs.length≤small then some (.ref h.length,h++[.list xs]) else none
 | .sorted=>(wl args).bind fun v=>(xh v).bind fun b=>(xy h b).bind fun kvs=>if kvs.length<64∧(kvs.map (·.1)).Pairwise (·≤·) then some (.ref h.length,h++[.list (kvs.map fun p=>.int p.1)]) else none
 | .any=>(wl args).bind fun v=>(ji h v).bind fun xs=>(qB xs).map fun bs=>(.bool (bs.any id),h)
 | .all=>(wl args).bind fun v=>(ji h v).bind fun xs=>(qB xs).map fun bs=>(.bool (bs.all id),h)
 | _=>none
noncomputable def qC (b:Bi) (args:List AV) (h:Hp):Out AV:=ofP (biO b args h)
inductive Me where
 | append | insert | index | count | join
noncomputable def xw (xs:List AV) (k:Nat) (v:AV):List AV:=xs.take k++v::xs.drop k
noncomputable def meO (m:Me) (a:Nat) (xs args:List AV) (h:Hp):Option (AV×Hp):=match m with
 | .append=>(wl args).bind fun v=>if xs.length<small then some (.none,h.set a (.list (xs++[v]))) else none
 | .insert=>(Y4 args).bind fun p=>(xj p.1).bind fun i=>if xs.length<small∧okI i=true then some (.none,h.set a (.list (xw xs i.toNat p.2))) else none
 | .index=>(wl args).bind fun v=>(jP h (.ref a) v).map fun k=>(.int (k:Nat),h)
 | .count=>(wl args).bind fun v=>(wQ h (.ref a) v).map fun k=>(.int (k:Nat),h)
 | _=>none
noncomputable def zJ7 (m:Me) (sep:Str) (args:List AV) (h:Hp):Option (AV×Hp):=match m with
 | .join=>(wl args).bind fun v=>(ji h v).bind fun xs=>(ZN xs).bind fun ss=>if (ss.map (·.length)).sum+ss.length * sep.length≤small then some (.str (Str.join sep ss),h) else none
 | _=>none
noncomputable def yQ (m:Me) (o:AV) (args:List AV) (h:Hp):Out AV:=ofP (match xg o with
 | some sep=>zJ7 m sep args h
 | none=>(xh o).bind fun a=>(y7 h a).bind fun xs=>meO m a xs args h)
noncomputable def we (h:Hp) (o i:AV):Option AV:=(xj i).bind fun k=>if okI k then (match xg o with
 | some s=>(s.cps[k.toNat]?).map fun c=>.str ⟨#[c]⟩
 | none=>(match ZL o with
  | some xs=>xs[k.toNat]?
  | none=>(ji h o).bind fun xs=>xs[k.toNat]?)) else none
noncomputable def Zn {α:Type} (xs:List α) (l:Nat) (u:Option Nat):List α:=match u with
 | some u=>(xs.take u).drop l
 | none=>xs.drop l
noncomputable def qA:AV→Option (Option Nat)
 | .none=>some none
 | .int k=>if okI k then some (some k.toNat) else none
 | _=>none
noncomputable def zK2 (h:Hp) (o l u:AV):Option (AV×Hp):=(qA l).bind fun lo=>(qA u).bind fun hi=>(ji h o).bind fun xs=>if xs.length≤small then some (.ref h.length,h++[.list (Zn xs (lo.getD 0) hi)]) else none
noncomputable def z3f (h:Hp) (o l u:AV):Out AV:=ofP (zK2 h o l u)
noncomputable def zk:XE:=fun _ _ _=>.stuck
noncomputable def z8 (v:AV):XE:=fun _ _ h=>.ok v h
noncomputable def z6 (i:Nat):XE:=fun _ fr h=>match fr[i]? with
 | some (some v)=>.ok v h
 | _=>.stuck
noncomputable def zI (o:Option AV):XE:=fun _ _ h=>Out.of o h
noncomputable def zV (op:Operator) (l r:XE):XE:=fun cf fr h=>(l cf fr h).bind fun a h₁=>(r cf fr h₁).bind fun b h₂=>QC op a b h₂
noncomputable def z0o (x:XE):XE:=fun cf fr h=>(x cf fr h).bind fun v h₁=>Out.of ((qE h₁ v).map fun b=>.bool (!b)) h₁
noncomputable def Zo (x:XE):XE:=fun cf fr h=>(x cf fr h).bind fun v h₁=>Out.of ((xj v).map fun i=>.int (-i)) h₁
noncomputable def evs:List XE→XEs
 | []=>fun _ _ h=>.ok [] h
 | x::xs=>fun cf fr h=>(x cf fr h).bind fun v h₁=>(evs xs cf fr h₁).bind fun vs h₂=>.ok (v::vs) h₂
noncomputable def zT (xs:List XE):XE:=fun cf fr h=>(evs xs cf fr h).bind fun vs h₁=>.ok (.ref h₁.length) (h₁++[.list vs])
noncomputable def xG (xs:List XE):XE:=fun cf fr h=>(evs xs cf fr h).bind fun vs h₁=>.ok (.tup vs) h₁
noncomputable def cIf (t:XT) (a b:XE):XE:=fun cf fr h=>(t cf fr h).bind fun c h₁=>if c then a cf fr h₁ else b cf fr h₁
noncomputable def wZ:XE:=fun _ _ h=>.ok (.ref h.length) (h++[.dict []])
noncomputable def wa (op:BoolOp):List XE→XE
 | []=>zk
 | [x]=>x
 | x::rest=>fun cf fr h=>(x cf fr h).bind fun v h₁=>match qE h₁ v with
  | some t=>(match op,t with
   | .And,false=>.ok v h₁
   | .Or,true=>.ok v h₁
   | _,_=>wa op rest cf fr h₁)
  | none=>.stuck
noncomputable def wY (left:AV):List CmpOp→List XE→XT
 | [],_=>fun _ _ _=>.stuck
 | op::ops,rs=>(match rs with
  | []=>fun _ _ _=>.stuck
  | r::rs=>(match ops with
   | []=>(match rs with
    | []=>fun cf fr h=>(r cf fr h).bind fun v h₁=>Out.of (xQ op left v h₁) h₁
    | _::_=>fun _ _ _=>.stuck)
   | _::_=>fun cf fr h=>(r cf fr h).bind fun v h₁=>(match xQ op left v h₁ with
    | none=>.stuck
    | some b=>cond b (wY v ops rs cf fr h₁) (.ok false h₁))))
noncomputable def zj (l:XE) (ops:List CmpOp) (rs:List XE):XT:=fun cf fr h=>(l cf fr h).bind fun v h₁=>wY v ops rs cf fr h₁
noncomputable def wV (l:XE) (ops:List CmpOp) (rs:List XE):XE:=fun cf fr h=>(zj l ops rs cf fr h).bind fun b h₁=>.ok (.bool b) h₁
noncomputable def yT (x:XE):XT:=fun cf fr h=>(x cf fr h).bind fun v h₁=>Out.of (qE h₁ v) h₁
noncomputable def yn (t:XT):XT:=fun cf fr h=>(t cf fr h).bind fun b h₁=>.ok (!b) h₁
noncomputable def y8 (op:BoolOp):List XT→XT
 | []=>fun _ _ h=>.ok (op == .And) h
 | t::ts=>fun cf fr h=>(t cf fr h).bind fun b h₁=>match op,b with
  | .And,false=>.ok false h₁
  | .Or,true=>.ok true h₁
  | _,_=>y8 op ts cf fr h₁
noncomputable def zH (o:XE) (name:Str):XE:=fun cf fr h=>(o cf fr h).bind fun v h₁=>match v with
 | .ref a=>(match h₁[a]? with
  | some (.inst _ fs)=>Out.of (fs.lookup name) h₁
  | _=>.stuck)
 | _=>.stuck
noncomputable def zn (o i:XE):XE:=fun cf fr h=>(o cf fr h).bind fun v h₁=>(i cf fr h₁).bind fun k h₂=>Out.of (we h₂ v k) h₂
noncomputable def Ym (o l u:XE):XE:=fun cf fr h=>(o cf fr h).bind fun v h₁=>(l cf fr h₁).bind fun a h₂=>(u cf fr h₂).bind fun b h₃=>z3f h₃ v a b
noncomputable def zK (f:XE) (args:List XE):XE:=fun cf fr h=>(f cf fr h).bind fun g h₁=>(evs args cf fr h₁).bind0 fun vs h₂=>match g with
 | .fn x=>cf (.fn x) vs h₂
 | .cls x=>cf (.cls x) vs h₂
 | .bi b=>qC b vs h₂
 | .lam l cs=>if vs.isEmpty=true then cf (.lam l) (cs.map AV.ref) h₂ else .stuck
 | _=>.stuck
noncomputable def z35:AV→Option Str
 | .exc c=>some c
 | _=>none
noncomputable def Jf:AV→Option Str
 | .cls c=>if c = "" then none else some c
 | .bi b=>(match b with
  | .valErr=>some ""
  | _=>Option.none)
 | _=>none
noncomputable def zHa:AV→Option Bool
 | .bi b=>(match b with
  | .isinstance=>some true
  | _=>Option.none)
 | _=>none
noncomputable def xc (isx:Str→Str→Option Bool) (f:XE) (args:List XE):XE:=fun cf fr h=>(f cf fr h).bind fun g h₁=>(evs args cf fr h₁).bind0 fun vs h₂ =>
 Out.of ((zHa g).bind fun _=>(Y4 vs).bind fun p=>(z35 p.1).bind fun c=>(Jf p.2).bind fun d=>(isx c d).map AV.bool) h₂
noncomputable def jO (cf:CF) (c name:Str) (v:AV) (o:Out (List AV)):Out AV:=match o with
 | .stuck=>.stuck
 | .ok vs h=>cf (.meth c name) (v::vs) h
 | .exc c' h=>(match cf (.has c name) [] h with
  | .ok _ _=>.exc c' h
  | _=>.stuck)
noncomputable def z9 (o:XE) (name:Str) (me:Option Me) (args:List XE):XE:=fun cf fr h=>(o cf fr h).bind fun v h₁=>match v with
 | .ref a=>(match h₁[a]? with
  | some (.inst c fs)=>(match fs.lookup name with
   | some _=>.stuck
   | none=>jO cf c name v (evs args cf fr h₁))
  | some (.list _)=>(match me with
   | some m=>(evs args cf fr h₁).bind0 fun vs h₂=>yQ m v vs h₂
   | none=>.stuck)
  | _=>.stuck)
 | .str _=>(match me with
   | some m=>(evs args cf fr h₁).bind0 fun vs h₂=>yQ m v vs h₂
   | none=>.stuck)
 | _=>.stuck
inductive NTgt where
 | one (i:Nat)
 | many (is:List Nat)
 | cell (i:Nat)
noncomputable def wy (h:Hp) (a:Nat):Option (Option AV):=match h[a]? with
 | some (.cell v)=>some v
 | _=>none
noncomputable def wC (fr:AFr) (i:Nat):Option Nat:=(fr[i]?).join.bind xh
noncomputable def qG (fr:AFr) (h:Hp) (i:Nat) (v:AV):Option Hp:=(wC fr i).bind fun a=>(wy h a).map fun _=>h.set a (.cell (some v))
noncomputable def zF (i:Nat):XE:=fun _ fr h=>Out.of ((wC fr i).bind fun a=>(wy h a).join) h
noncomputable def JF (h:Hp) (a:Nat):Option Str:=match h[a]? with
 | some (.tab q)=>some q
 | _=>none
noncomputable def zy (l:LamS) (is:List Nat) (ix:Nat):XE:=fun _ fr h=>Out.of ((JF h ix).bind fun q=>if q=l.q then (yd (wC fr) is).map (AV.lam l) else none) h
noncomputable def qS:List Nat→List AV→AFr→Option AFr
 | [],[],fr=>some fr
 | i::is,v::vs,fr=>if i<fr.length then qS is vs (fr.set i (some v)) else none
 | _,_,_=>none
noncomputable def z43:AV→Option (List AV)
 | .tup xs=>some xs
 | _=>none
noncomputable def NTgt.bind (t:NTgt) (v:AV) (fr:AFr):Option AFr:=match t with
 | .one i=>qS [i] [v] fr
 | .many is=>(match z43 v with
  | some vs=>qS is vs fr
  | none=>none)
 | .cell _=>none
noncomputable def yt (t:NTgt) (test:XT) (elt:XE) (src:Src):Nat→Nat→List AV→CF→AFr→Hp→Out (List AV)
 | 0,_,_=>fun _ _ _=>.stuck
 | f+1,k,acc=>fun cf fr h=>match src.next? h k with
  | none=>.stuck
  | some none=>.ok acc h
  | some (some x)=>(match t.bind x fr with
   | none=>.stuck
   | some fr₁=>(test cf fr₁ h).bind0 fun b h₁ =>
     if b then (elt cf fr₁ h₁).bind0 fun v h₂=>if acc.length<small then yt t test elt src f (k+1) (acc++[v]) cf fr₁ h₂ else .stuck
     else yt t test elt src f (k+1) acc cf fr₁ h₁)
noncomputable def xB (it:XE) (own:Nat) (t:NTgt) (test:XT) (elt:XE):XE:=fun cf fr h=>(it cf fr h).bind fun v h₁ =>
 match yw h₁ v with
 | none=>.stuck
 | some (src,n)=>(yt t test elt src (n+1) 0 [] cf (fr++List.replicate own none) h₁).bind0 fun vs h₂=>.ok (.ref h₂.length) (h₂++[.list vs])
inductive Tgt where
 | names (t:NTgt)
 | attr (o:XE) (name:Str)
 | item (o i:XE)
 | cell (i:Nat)
 | none
noncomputable def qY (name:Str) (v:AV):List (Str×AV)→List (Str×AV)
 | []=>[(name,v)]
 | p::r=>if p.1 == name then (p.1,v)::r else p::qY name v r
noncomputable def yB:XS:=fun _ _ _=>.stuck
noncomputable def zi (x:XE):XS:=fun cf fr h=>(x cf fr h).bindS fr fun v h₁=>.ok (.ret v) fr h₁
noncomputable def zM (x:XE):XS:=fun cf fr h=>(x cf fr h).bindS fr fun _ h₁=>.ok .next fr h₁
noncomputable def sIf (t:XT) (a b:XS):XS:=fun cf fr h=>(t cf fr h).bindS fr fun c h₁=>if c then a cf fr h₁ else b cf fr h₁
noncomputable def zJ:List XS→XS
 | []=>fun _ fr h=>.ok .next fr h
 | s::r=>fun cf fr h=>match s cf fr h with
  | .ok .next fr₁ h₁=>zJ r cf fr₁ h₁
  | o=>o
noncomputable def wF (h:Hp) (o i v:AV):Option Hp:=(xh o).bind fun a=>(xj i).bind fun k=>match xy h a with
 | some kvs=>if kvs.length<small then some (h.set a (.dict (Q8 kvs k v))) else none
 | none=>(y7 h a).bind fun xs=>if 0≤k∧k<xs.length∧xs.length≤small then some (h.set a (.list (xs.set k.toNat v))) else none
noncomputable def zA (okf:Str→Str→Bool) (t:Tgt) (x:XE):XS:=fun cf fr h=>match t with
 | .names t=>(x cf fr h).bindS fr fun v h₁=>(match t.bind v fr with
  | some fr₁=>.ok .next fr₁ h₁
  | none=>.stuck)
 | .attr o name=>(x cf fr h).bindS fr fun v h₁=>(o cf fr h₁).bindS fr fun ov h₂=>(match ov with
  | .ref a=>(match h₂[a]? with
   | some (.inst c fs)=>if okf c name && decide (fs.length<100) then .ok .next fr (h₂.set a (.inst c (qY name v fs))) else .stuck
   | _=>.stuck)
  | _=>.stuck)
 | .item o i=>(x cf fr h).bindS fr fun v h₁=>(o cf fr h₁).bindS fr fun ov h₂=>(i cf fr h₂).bindS fr fun iv h₃=>(match wF h₃ ov iv v with
  | some h₄=>.ok .next fr h₄
  | none=>.stuck)
 | .cell i=>(x cf fr h).bindS fr fun v h₁=>(match qG fr h₁ i v with
  | some h₂=>.ok .next fr h₂
  | none=>.stuck)
 | .none=>.stuck
noncomputable def XN (_:Hp) (t:NTgt) (v:AV) (fr:AFr):Option AFr:=NTgt.bind t v fr
noncomputable def jQ (h:Hp) (t:NTgt) (v:AV) (fr:AFr):Option (AFr×Hp):=match t with
 | .cell i=>(qG fr h i v).map fun h'=>(fr,h')
 | t=>(XN h t v fr).map fun fr'=>(fr',h)
noncomputable def yz (t:NTgt) (body:XS) (src:Src):Nat→Nat→XS
 | 0,_=>yB
 | f+1,k=>fun cf fr h=>match src.next? h k with
  | none=>.stuck
  | some none=>.ok .next fr h
  | some (some x)=>(match jQ h t x fr with
   | none=>.stuck
   | some p=>(match body cf p.1 p.2 with
    | .ok .next fr₂ h₂=>yz t body src f (k+1) cf fr₂ h₂
    | .ok (.ret v) fr₂ h₂=>.ok (.ret v) fr₂ h₂
    | _=>.stuck))
noncomputable def xz (t:NTgt) (it:XE) (enum:Bool) (body:XS):XS:=fun cf fr h=>(it cf fr h).bindS fr fun v h₁ =>
 match yw h₁ v with
 | none=>.stuck
 | some (src,n)=>(match enum with
  | true=>(match src with
   | .ref a=>(match t with
    | .many _=>yz t body (.enum a) (n+1) 0 cf fr h₁
    | _=>.stuck)
   | _=>.stuck)
  | false=>yz t body src (n+1) 0 cf fr h₁)
noncomputable def yu:List Nat→AFr→Hp→AFr×Hp
 | [],fr,h=>(fr,h)
 | i::is,fr,h=>yu is (fr.set i (some (.ref h.length))) (h++[.cell (fr[i]?).join])
noncomputable def wG (is:List Nat) (b:XS):XS:=fun cf fr h=>b cf (yu is fr h).1 (yu is fr h).2
noncomputable def yh (c:Str):XS:=fun _ fr h=>.exc true c fr h
noncomputable def YB (q:Str→Bool) (f:Str) (b:XS):XS:=fun cf fr h=>match b cf fr h with
 | .stuck=>.stuck
 | .ok fl fr' h'=>.ok fl fr' h'
 | .exc nw c fr' h'=>if nw=false∧q c=true then (match cf (.word f) [.exc c] h' with
  | .ok v h₂=>.ok (.ret v) (fr'.map fun _=>none) h₂
  | _=>.stuck) else .stuck
structure GTab where
 glob:Str→Option AV
 okf:Str→Str→Bool
 exc:Str→Bool
 exm:Str→Str→Bool
 isx:Str→Str→Option Bool
 lo:Bool
 code:Str→Option Addr
 tix:Str→Option Nat
structure Sc where
 kind:Str→Option NameKind
 slot:Str→Option Nat
 width:Nat
 fl:Bool
 law:Option (Str×Addr)
noncomputable def z2f:Me→Str
 | .append => "append" | .insert => "insert" | .index => "index" | .count => "count" | .join => "join"
noncomputable def zJ3:List (Str×Me):=[Me.append,.insert,.index,.count,.join].map fun m=>(z2f m,m)
noncomputable def Xs (x:Str):Option Me:=zJ3.lookup x
theorem xU {α β:Type} [BEq α] [LawfulBEq α] {x:α} {b:β}:∀ {l:List (α×β)},l.lookup x=some b→(x,b)∈l
 | [],h=>by cases h
 | (y,c)::r,h=>by
  rw [List.lookup_cons] at h
  cases q:(x == y) with
  | true=>rw [q] at h;cases h;rw [eq_of_beq q];exact .head _
  | false=>rw [q] at h;exact .tail _ (xU h)
theorem X8 {name:Str} {m:Me} (h:Xs name=some m):name=z2f m:=by
 obtain ⟨m',_,e⟩:=List.mem_map.mp (xU h)
 cases e;rfl
noncomputable def qi:Expr→Bool
 | .Call (.Name _ _) [] [] _=>true
 | _=>false
noncomputable def Sc.isOwn (sc:Sc) (x:Str):Option Nat:=match sc.kind x with
 | some .local=>sc.slot x
 | some .cell=>if sc.fl=false then sc.slot x else none
 | _=>none
noncomputable def Sc.isFlag (sc:Sc) (x:Str):Option Nat:=if sc.fl=true∧sc.kind x=some .cell then sc.slot x else none
noncomputable def qh (sc:Sc):Expr→Option Nat
 | .Name x _=>sc.isOwn x
 | _=>none
noncomputable def xZ (sc:Sc):Expr→Option NTgt
 | .Name x _=>(match sc.isFlag x with
  | some i=>some (.cell i)
  | none=>(sc.isOwn x).map .one)
 | .Tuple es _ _=>(match yd (qh sc) es with
  | some is=>if is.length≤10∧is.Nodup then some (.many is) else none
  | none=>none)
 | _=>none
noncomputable def y6 (s:Scope):List Str:=(s.names.filter fun p=>p.2 == .local && p.1 != (".0" : Str)).map (·.1)
noncomputable def xJ (x:Str):List Str→Nat→Option Nat
 | [],_=>none
 | y::ys,k=>if y == x then some k else xJ x ys (k+1)
noncomputable def Sc.inner (sc:Sc) (s:Scope):Sc where
 kind:=fun x=>match s.names.lookup x with
  | some .free=>if sc.kind x == some .cell then some .cell else some .free
  | o=>o
 slot:=fun x=>match s.names.lookup x with
  | some .local=>xJ x (y6 s) sc.width
  | some .free=>(match sc.kind x with
   | some .cell | some .free=>sc.slot x
   | _=>none)
  | _=>none
 width:=sc.width+(y6 s).length
 fl:=sc.fl
 law:=none
noncomputable def qZ (sc:Sc) (s:Scope):Bool:=s.kind == .function && s.names.all (fun p=>p.2 == .local || (p.2 == .free && (sc.kind p.1 == some .cell || sc.kind p.1 == some .free) && (sc.slot p.1).isSome) || p.2 == .globalImplicit) && (s.names.map (·.1)).Nodup
noncomputable def qR (s:Scope):Expr→Bool
 | .Name x _=>s.names.lookup x == some .local
 | .Tuple es _ _=>es.all fun e=>(match e with
  | .Name x _=>s.names.lookup x == some .local
  | _=>false)
 | _=>false
noncomputable def q9 (e:Expr):Bool:=!Nat.beq e.ctorIdx 22
noncomputable def jq (e:Expr):Bool:=!Nat.beq e.ctorIdx 7
noncomputable def zGi (e:Expr):Option {t:Expr×Str×Pos // e=.Attribute t.1 t.2.1 t.2.2}:=match e with
 | .Attribute o name p=>some ⟨(o,name,p),rfl⟩
 | _=>none
noncomputable def QE (e:Expr):Option (Expr×Str×Pos):=(zGi e).map (·.1)
noncomputable def zGt (e:Expr):Option {t:Option Expr×Option Expr×Option Expr×Pos // e=.Slice t.1 t.2.1 t.2.2.1 t.2.2.2}:=match e with
 | .Slice l u st p=>some ⟨(l,u,st,p),rfl⟩
 | _=>none
noncomputable def zHv (t:Option Expr×Option Expr×Option Expr×Pos):Option (Option Expr×Option Expr×Pos):=match t.2.2.1 with
 | none=>some (t.1,t.2.1,t.2.2.2)
 | some _=>none
noncomputable def qc (e:Expr):Option (Option (Option Expr×Option Expr×Pos)):=(zGt e).map fun t=>zHv t.1
noncomputable def ZD (e:Expr):Bool:=Nat.ble 8 e.ctorIdx && Nat.ble e.ctorIdx 10
noncomputable def z3c (G:GTab) (sc:Sc) (x:Str):XE:=if x == ("__debug__" : Str) || x == ("__classdict__" : Str) then zk else (match sc.kind x with
 | some k=>(match k with
  | .globalImplicit=>zI (G.glob x)
  | .globalExplicit=>zk
  | .local=>(match sc.slot x with | some i=>z6 i | none=>zk)
  | .cell=>(match sc.slot x with | some i=>if sc.fl=true then zF i else z6 i | none=>zk)
  | .free=>(match sc.slot x with | some i=>if sc.fl=true then zF i else z6 i | none=>zk))
 | none=>zk)
noncomputable def z3d:Const→XE
 | .none=>z8 .none
 | .bool b=>z8 (.bool b)
 | .int i=>z8 (.int i)
 | .str s=>if s.length≤small then z8 (.str s) else zk
 | _=>zk
noncomputable def Qh {α:Type}:List α→Option α
 | [a]=>some a
 | _=>none
noncomputable def zGb (e:Expr):Option {t:Str×Pos // e=.Name t.1 t.2}:=match e with
 | .Name x p=>some ⟨(x,p),rfl⟩
 | _=>none
noncomputable def X5 (e:Expr):Option (Str×Pos):=(zGb e).map (·.1)
noncomputable def zGh (e:Expr):Option {t:Expr×List Expr×Pos // e=.Call t.1 t.2.1 [] t.2.2}:=match e with
 | .Call f as ks p=>(match ks with
  | []=>some ⟨(f,as,p),rfl⟩
  | _::_=>none)
 | _=>none
noncomputable def Jg (e:Expr):Option (Expr×List Expr×Pos):=(zGh e).map (·.1)
noncomputable def z3g (e:Expr):Option {t:Const×Nat×Pos // e=.Constant t.1 t.2.1 t.2.2}:=match e with
 | .Constant c k p=>some ⟨(c,k,p),rfl⟩
 | _=>none
noncomputable def Ye (e:Expr):Option (Const×Nat×Pos):=(z3g e).map (·.1)
noncomputable def unS (e:Expr):Option {t:UnaryOp×Expr×Pos // e=.UnaryOp t.1 t.2.1 t.2.2}:=match e with
 | .UnaryOp op x p=>some ⟨(op,x,p),rfl⟩
 | _=>none
noncomputable def zJv:UnaryOp→Bool
 | .USub=>true
 | _=>false
noncomputable def zHb:Const→Option Int
 | .int i=>some i
 | _=>none
theorem z5c {c:Const} {i:Int} (h:zHb c=some i):c=.int i:=by
 cases c with
 | int=>cases h;rfl
 | _=>exact nos h
noncomputable def zHt:Const→Option Str
 | .str m=>some m
 | _=>none
noncomputable def zJg:Bi→Bool
 | .enumerate=>true
 | _=>false
theorem jp {α:Type} {l:List α} {a:α} (h:Qh l=some a):l=[a]:=by
 cases l with
 | nil=>exact nos h
 | cons x r=>cases r with
  | nil=>cases h;rfl
  | cons=>exact nos h
theorem wp {e:Expr} {t:Str×Pos} (h:X5 e=some t):e=.Name t.1 t.2:=Y7 (o:=zGb e) h
theorem Yk {e:Expr} {t:Expr×List Expr×Pos} (h:Jg e=some t):e=.Call t.1 t.2.1 [] t.2.2:=Y7 (o:=zGh e) h
theorem XC {e:Expr} {t:Const×Nat×Pos} (h:Ye e=some t):e=.Constant t.1 t.2.1 t.2.2:=Y7 (o:=z3g e) h
theorem z47 {c:Const} {m:Str} (h:zHt c=some m):c=.str m:=by
 cases c with
 | str=>cases h;rfl
 | _=>exact nos h
noncomputable def zv (s:Scope):List Str:=(s.names.filter fun p=>p.2 == .free).map (·.1)
noncomputable def z3h (e:Expr):Bool:=match Ye e with
 | some k=>(zHb k.1).isSome
 | none=>false
noncomputable def jD (a:Arguments):Bool:=a.posonlyargs.isEmpty && a.kwonlyargs.isEmpty && a.kw_defaults.isEmpty && a.vararg.isNone && a.kwarg.isNone && (Nat.beq a.args.length a.defaults.length) && Nat.ble a.args.length 1 && a.defaults.all z3h
noncomputable def W3 (sc:Sc) (sp:Scope):Bool:=sc.fl && sp.names.all fun p=>!(p.2 == .free) || sc.kind p.1 == some .cell
noncomputable def zK0 (G:GTab) (sc:Sc) (ar:Arguments) (body:Expr) (sp:Scope):XE:=match sc.law with
 | some q=>(match G.tix q.1 with
  | some ix=>(match yd sc.slot (zv sp) with
   | some is=>if W3 sc sp=true∧jD ar=true∧G.code q.1=some q.2∧G.lo=true then zy ⟨ar,body,sp,q.1⟩ is ix else zk
   | none=>zk)
  | none=>zk)
 | none=>zk
mutual
noncomputable def dE (G:GTab):Nat→Sc→Expr→XE
 | 0,_,_=>zk
 | n+1,sc,e=>match e with
  | .Constant c _ _=>z3d c
  | .Name x _=>z3c G sc x
  | .BoolOp op es _=>wa op (es.map (dE G n sc))
  | .BinOp l op r _=>zV op (dE G n sc l) (dE G n sc r)
  | .UnaryOp op x _=>(match op with
   | .Not=>z0o (dE G n sc x)
   | .USub=>Zo (dE G n sc x)
   | _=>zk)
  | .IfExp t a b _=>cIf (dT G n sc t) (dE G n sc a) (dE G n sc b)
  | .Lambda ar body sp _=>zK0 G sc ar body sp
  | .List es _=>if es.all q9=true∧es.length≤1000 then zT (es.map (dE G n sc)) else zk
  | .Tuple es _ _=>if es.all q9=true∧es.length≤1000 then xG (es.map (dE G n sc)) else zk
  | .Compare l ops rs _=>if lastMarks ops rs=false then wV (dE G n sc l) ops (rs.map (dE G n sc)) else zk
  | .Call f args kws pos=>(match kws with
   | []=>if args.all q9=true∧args.length<30 then (match QE f with
    | some t=>if qi t.1=false∧(t.2.2.endLine == pos.line)=true then z9 (dE G n sc t.1) t.2.1 (Xs t.2.1) (args.map (dE G n sc)) else zk
    | none=>(match G.lo with
     | true=>zK (dE G n sc f) (args.map (dE G n sc))
     | false=>xc G.isx (dE G n sc f) (args.map (dE G n sc)))) else zk
   | _::_=>zk)
  | .Dict ks vs _=>(match ks with
   | []=>(match vs with
    | []=>wZ
    | _::_=>zk)
   | _::_=>zk)
  | .Attribute o name _=>if qi o=false then zH (dE G n sc o) name else zk
  | .Subscript o i _=>(match qc i with
   | some q=>(match q with
    | some t=>Ym (dE G n sc o) (z3b G n sc t.1) (z3b G n sc t.2.1)
    | none=>zk)
   | none=>zn (dE G n sc o) (dE G n sc i))
  | .ListComp elt gs s _=>(match gs with
   | [g]=>if qZ sc s=true∧g.is_async=0∧jq g.iter=true∧qR s g.target=true∧G.lo=true then (match xZ (sc.inner s) g.target with
    | some t=>xB (dE G n sc g.iter) (y6 s).length t (y8 .And (g.ifs.map (dT G n (sc.inner s)))) (dE G n (sc.inner s) elt)
    | none=>zk) else zk
   | _=>zk)
  | _=>zk
noncomputable def dT (G:GTab):Nat→Sc→Expr→XT
 | 0,_,_=>fun _ _ _=>.stuck
 | n+1,sc,e=>match e with
  | .UnaryOp op x _=>(match op with
   | .Not=>yn (dT G n sc x)
   | _=>fun _ _ _=>.stuck)
  | .BoolOp op es _=>y8 op (es.map (dT G n sc))
  | .IfExp _ _ _ _=>fun _ _ _=>.stuck
  | .Compare l ops rs _=>if lastMarks ops rs=false then zj (dE G n sc l) ops (rs.map (dE G n sc)) else fun _ _ _=>.stuck
  | e=>yT (dE G n sc e)
noncomputable def z3b (G:GTab):Nat→Sc→Option Expr→XE
 | 0,_,_=>zk
 | n+1,sc,e=>match e with
  | some e=>dE G n sc e
  | none=>z8 .none
end
noncomputable def xv (sc:Sc) (G:GTab) (e:Expr):Option Expr:=(Jg e).bind fun c=>(X5 c.1).bind fun x=>(Qh c.2.1).bind fun a=>(G.glob x.1).bind fun v=>(zHp v).bind fun b =>
 if zJg b=true∧sc.kind x.1=some .globalImplicit∧q9 a=true∧(x.1 == ("__debug__" : Str))=false then some a else none
noncomputable def Xa (t e:Expr):Bool:=(Nat.beq t.ctorIdx 25 && Nat.beq e.ctorIdx 25) || Nat.beq t.ctorIdx 24
noncomputable def QA (sc:Sc) (e:Expr):Bool:=match xZ sc e with
 | some (.cell _)=>true
 | _=>false
noncomputable def Wx (sc:Sc) (e:Expr):Tgt:=match xZ sc e with
 | some (.cell i)=>.cell i
 | some t=>.names t
 | none=>.none
noncomputable def zJz (G:GTab) (n:Nat) (sc:Sc):Expr→Tgt
 | .Name x p=>Wx sc (.Name x p)
 | .Tuple es k p=>if G.lo=true then Wx sc (.Tuple es k p) else .none
 | .Attribute o name _=>if qi o=false then .attr (dE G n sc o) name else .none
 | .Subscript o i _=>(match qc i with
  | some _=>.none
  | none=>.item (dE G n sc o) (dE G n sc i))
 | _=>.none
noncomputable def Zt (e:Expr):Option (Str×Str):=(Jg e).bind fun c=>(X5 c.1).bind fun x=>(Qh c.2.1).bind fun a=>(Ye a).bind fun k=>(zHt k.1).map fun m=>(x.1,m)
noncomputable def zK3 (s:Stmt):Option {t:List Expr×Expr×Pos // s=.Assign t.1 t.2.1 t.2.2}:=match s with
 | .Assign ts e p=>some ⟨(ts,e,p),rfl⟩
 | _=>none
noncomputable def asgS (s:Stmt):Option (List Expr×Expr×Pos):=(zK3 s).map (·.1)
noncomputable def ZX:ExceptHandler→Option Expr×Option Str×List Stmt×Pos
 | .ExceptHandler t n b p=>(t,n,b,p)
theorem z2y (h:ExceptHandler):h=.ExceptHandler (ZX h).1 (ZX h).2.1 (ZX h).2.2.1 (ZX h).2.2.2:=by cases h;rfl
noncomputable def zHz (s:Stmt):Option {t:Expr×Pos // s=.Return (some t.1) t.2}:=match s with
 | .Return eo q=>(match eo with
  | some e=>some ⟨(e,q),rfl⟩
  | none=>none)
 | _=>none
noncomputable def zI0 (s:Stmt):Option (Expr×Pos):=(zHz s).map (·.1)
noncomputable def zI1 (s:Stmt):Option (Str×Str):=(zI0 s).bind fun r=>(Jg r.1).bind fun c=>(X5 c.1).bind fun f=>((Qh c.2.1).bind X5).map fun y=>(f.1,y.1)
noncomputable def z3v (G:GTab) (sc:Sc) (h:ExceptHandler):Option (Str×Str):=((ZX h).1.bind X5).bind fun x=>(ZX h).2.1.bind fun n=>((Qh (ZX h).2.2.1).bind zI1).bind fun q =>
 if q.2=n∧sc.kind x.1=some .globalImplicit∧(x.1 == ("__debug__" : Str))=false∧sc.kind q.1=some .globalImplicit∧(q.1 == ("__debug__" : Str))=false∧sc.kind n=some .local∧(sc.slot n).isSome=true∧(n == ("__classdict__" : Str))=false∧(n == ("__debug__" : Str))=false∧G.lo=true∧sc.fl=false then some (x.1,q.1) else none
mutual
noncomputable def dS (G:GTab):Nat→Sc→Stmt→XS
 | 0,_,_=>yB
 | n+1,sc,st=>match st with
  | .Return eo _=>(match eo with
   | some e=>zi (dE G n sc e)
   | none=>zi (z8 .none))
  | .Expr e _=>if ZD e=false then zM (dE G n sc e) else yB
  | .Assign ts e _=>(match ts with
   | [t]=>if Xa t e=false∧(ZD e && QA sc t)=false then zA G.okf (zJz G n sc t) (dE G n sc e) else yB
   | _=>yB)
  | .Raise e c _=>(match c with
   | some _=>yB
   | none=>(match e.bind Zt with
    | some p=>if G.lo=true∧G.exc p.1=true∧sc.kind p.1=some .globalImplicit∧(p.1 == ("__debug__" : Str))=false∧p.2.length≤small then yh p.1 else yB
    | none=>yB))
  | .Try b hs el fi _=>(match el with
   | _::_=>yB
   | []=>(match fi with
    | _::_=>yB
    | []=>(match (Qh hs).bind (z3v G sc) with
     | some p=>YB (fun c=>G.exm c p.1) p.2 (dSs G n sc b)
     | none=>yB)))
  | .If t a b _=>sIf (dT G n sc t) (dSs G n sc a) (dSs G n sc b)
  | .For t it b els _=>(match els with
   | []=>(match xZ sc t with
    | some t=>if G.lo=false then yB else (match xv sc G it with
     | some e=>xz t (dE G n sc e) true (dSs G n sc b)
     | none=>if jq it=true then xz t (dE G n sc it) false (dSs G n sc b) else yB)
    | none=>yB)
   | _::_=>yB)
  | _=>yB
noncomputable def dSs (G:GTab):Nat→Sc→List Stmt→XS
 | 0,_,_=>yB
 | n+1,sc,sts=>zJ (sts.map (dS G n sc))
end
structure Fn where
 np:Nat
 nl:Nat
 body:XS
inductive What where
 | fn (f:Fn)
 | cls
noncomputable def yL (w:Nat) (x:XE):XE:=fun cf fr h=>if fr.length=w then x cf fr h else .stuck
structure Tab where
 what:Str→Option What
 meth:Str→Str→Option Fn
 lam:LamS→Option XE
 word:Str→Option Fn
noncomputable def yW (f:Fn) (cf:CF) (args:List AV) (h:Hp):Out AV :=
 if args.length=f.np then (match f.body cf (args.map some++List.replicate (f.nl - f.np) none) h with
  | .ok (.ret v) _ h'=>.ok v h'
  | .ok .next _ h'=>.ok .none h'
  | .exc _ c _ h'=>.exc c h'
  | .stuck=>.stuck) else .stuck
noncomputable def run (T:Tab):Nat→CF
 | 0=>fun _ _ _=>.stuck
 | n+1=>fun c args h=>match c with
  | .fn x=>(match T.what x with
   | some (.fn f)=>yW f (run T n) args h
   | _=>.stuck)
  | .meth c x=>(match T.meth c x with
   | some f=>yW f (run T n) args h
   | none=>.stuck)
  | .has c x=>(match T.meth c x with
   | some _=>.ok .none h
   | none=>.stuck)
  | .lam l=>(match T.lam l with
   | some x=>x (run T n) (args.map some) h
   | none=>.stuck)
  | .word f=>(match T.word f with
   | some f=>yW f (fun _ _ _=>.stuck) args h
   | none=>.stuck)
  | .cls x=>(match T.what x with
   | some .cls=>(match T.meth x "__init__" with
    | some f=>(yW f (run T n) (.ref h.length::args) (h++[.inst x []])).bind fun v h'=>(match v with
     | .none=>.ok (.ref h.length) h'
     | _=>.stuck)
    | none=>.stuck)
   | _=>.stuck)
end Mine
end
end
section
set_option genSizeOf false
noncomputable section
namespace Mine
open PySem PySem.W
noncomputable abbrev Mu:=List (Addr×Option Addr)
noncomputable def zh (μ:Mu):List Addr:=μ.flatMap fun p=>p.1::p.2.toList
structure Cx where
 K:Frag
 base:Heap
 os:OsState
 tabP:Str→Addr
noncomputable def jR:Bi→Value
 | .str=>.type "str" | .any=>.builtin "any" | .all=>.builtin "all" | .enumerate=>.type "enumerate" | .len=>.builtin "len" | .isinstance=>.builtin "isinstance" | .int=>.type "int" | .bool=>.type "bool"  | .list=>.type "list"
 | .range=>.type "range" | .min=>.builtin "min" | .max=>.builtin "max" | .sorted=>.builtin "sorted" | .valErr=>.type "ValueError"
noncomputable abbrev ZC (q:Str):Str:=(q ++ ".<locals>.") ++ "<lambda>"
noncomputable def qM (q:Str) (h:Heap) (cv:Value):Prop:=∃ c o vs t,cv=.ref c∧h.get? c=some o∧o.cls=.type "code" ∧ o.data=.fields vs∧vs[1]? = some (.str (ZC q) t)
noncomputable def zGk (q:Str) (h:Heap) (P:Addr):Prop:=∃ ps:Array Value,h.get? P=some (tabObj ps)∧TriplesOk ps.toList∧∀ pos cv,codeAmong pos ps.toList=some cv→qM q h cv
noncomputable def Dfl (h:Heap) (ar:Arguments) (dv:Value):Prop:=(ar.defaults=[]∧dv=.none)∨∃ T v,ar.defaults.length=1∧dv=.ref T∧h.get? T=some (kdv_tup [v])
noncomputable abbrev Wo (l:LamS) (cl:List (Str×Addr)) (dv doc pm cv ctv:Value):Obj:={ cls:=.type "function",data:=.func (kdv_fn "<lambda>" (ZC l.q) l.ar (.expr l.body) l.sp cl dv doc pm cv ctv) }
noncomputable def WQ (μ:Mu) (h:Heap) (l:LamS) (cs:List Nat) (f:Addr):Prop:=∃ cl dv doc pm cv ctv,h.get? f=some (Wo l cl dv doc pm cv ctv)∧qM l.q h cv∧Dfl h l.ar dv ∧
 (∀ (j:Nat) (x:Str),(zv l.sp)[j]? = some x→∃ (c:Addr) (a:Nat),cl.lookup x=some c∧cs[j]? = some a∧μ[a]? = some (c,none))
mutual
inductive VR (X:Cx) (μ:Mu) (h:Heap):AV→Value→Prop
 | none:VR X μ h .none .none
 | bool (b:Bool):VR X μ h (.bool b) (.bool b)
 | int (i:Int) (t:Tok):VR X μ h (.int i) (.int i t)
 | str {x:Str} (t:Tok):x.length≤small→VR X μ h (.str x) (.str x t)
 | ref {a:Nat} {p:Addr×Option Addr}:μ[a]? = some p→VR X μ h (.ref a) (.ref p.1)
 | tup {c:Addr} {items:Array Value} {xs:List AV}:h.IsTuple c items→xs.length≤small→VRs X μ h xs items.toList→VR X μ h (.tup xs) (.ref c)
 | lst {c:Addr} {items:Array Value} {xs:List AV}:X.base.IsList c items→xs.length≤small→VRs X μ h xs items.toList→VR X μ h (.lst xs) (.ref c)
 | range {c:Addr} {a b:Int} {t u v:Tok}:IsRange h c a b 1 t u v→a.natAbs<2 ^ 62→b.natAbs<2 ^ 62→VR X μ h (.range a b) (.ref c)
 | fn {x:Str} {f:Addr}:nsIn X.K mainGlobals x=some (some (.ref f))→VR X μ h (.fn x) (.ref f)
 | cls {x:Str} {f:Addr}:nsIn X.K mainGlobals x=some (some (.ref f))→VR X μ h (.cls x) (.ref f)
 | bi (b:Bi):VR X μ h (.bi b) (jR b)
 | exc {x:Str} {e C:Addr} {o:Obj} {vs:Array Value}:nsIn X.K mainGlobals x=some (some (.ref C))→h.get? e=some o→o.cls=.ref C→o.data=.fields vs→VR X μ h (.exc x) (.ref e)
 | lam {l:LamS} {cs:List Nat} {f:Addr}:WQ μ h l cs f→VR X μ h (.lam l cs) (.ref f)
inductive VRs (X:Cx) (μ:Mu) (h:Heap):List AV→List Value→Prop
 | nil:VRs X μ h [] []
 | cons {x:AV} {v:Value} {xs:List AV} {vs:List Value}:VR X μ h x v→VRs X μ h xs vs→VRs X μ h (x::xs) (v::vs)
end
noncomputable def yb (o:Obj):Prop:=(o.cls=.type "tuple" ∧ ∃ xs n,o.data=.seq xs n)∨((o.cls=.type "range" ∨ o.cls=.type "code")∧∃ vs,o.data=.fields vs)∨(o.cls=.type "function" ∧ ∃ fd,o.data=.func fd)∨∃ C vs,o.cls=.ref C∧o.data=.fields vs
section
variable {X:Cx} {μ μ':Mu} {h h':Heap} (hp:μ <+: μ') (hf:∀ b o,h.get? b=some o→yb o→h'.get? b=some o)
include hp hf
theorem z2d {a:Nat} {p:Addr×Option Addr} (e:μ[a]? = some p):μ'[a]? = some p:=by
 obtain ⟨r,rfl⟩:=hp
 rw [List.getElem?_append_left (yj e).1];exact e
omit hp in
theorem qM.mono {q:Str} {cv:Value} (x:qM q h cv):qM q h' cv :=
 let ⟨c,o,vs,t,e1,e2,e3,e4,e5⟩:=x;⟨c,o,vs,t,e1,hf _ _ e2 (.inr (.inl ⟨.inr e3,_,e4⟩)),e3,e4,e5⟩
theorem WQ.mono {l:LamS} {cs:List Nat} {f:Addr} (r:WQ μ h l cs f):WQ μ' h' l cs f:=by
 obtain ⟨cl,dv,doc,pm,cv,ctv,e1,e2,e3,e4⟩:=r
 refine ⟨cl,dv,doc,pm,cv,ctv,hf _ _ e1 (.inr (.inr (.inl ⟨rfl,_,rfl⟩))),e2.mono hf,e3.imp id fun ⟨T,v,a,b,c⟩=>⟨T,v,a,b,hf _ _ c (.inl ⟨rfl,_,_,rfl⟩)⟩,fun j x e=>?_⟩
 obtain ⟨c,a,q1,q2,q3⟩:=e4 j x e
 exact ⟨c,a,q1,q2,z2d hp hf q3⟩
theorem VR.mono {x:AV} {v:Value} (r:VR X μ h x v):VR X μ' h' x v :=
 VR.rec (motive_1:=fun x v _=>VR X μ' h' x v) (motive_2:=fun xs vs _=>VRs X μ' h' xs vs) .none .bool .int (fun t z=>.str t z)
  (fun e=>.ref (z2d hp hf e))
  (fun t z _ q=>.tup (let ⟨o,ho,hc,n,hd⟩:=t;⟨o,hf _ _ ho (.inl ⟨hc,_,n,hd⟩),hc,n,hd⟩) z q) (fun e z _ q=>.lst e z q) (fun e z1 z2=>.range (hf _ _ e (.inr (.inl ⟨.inl rfl,_,rfl⟩))) z1 z2) .fn .cls .bi (fun a b c d=>.exc a (hf _ _ b (.inr (.inr (.inr ⟨_,_,c,d⟩)))) c d) (fun r=>.lam (r.mono hp hf)) .nil (fun _ _ a b=>.cons a b) r
theorem VRs.mono {xs:List AV} {vs:List Value} (r:VRs X μ h xs vs):VRs X μ' h' xs vs:=by
 induction xs generalizing vs with
 | nil=>cases r;exact .nil
 | cons x xs ih=>cases r with | cons a b=>exact .cons (a.mono hp hf) (ih b)
end
section
variable {X:Cx} {μ:Mu} {h:Heap} {c:Value}
theorem VR.none_ (r:VR X μ h .none c):c=.none:=by cases r;rfl
theorem VR.bool_ {b:Bool} (r:VR X μ h (.bool b) c):c=.bool b:=by cases r;rfl
theorem VR.int_ {i:Int} (r:VR X μ h (.int i) c):∃ t,c=.int i t:=by cases r;exact ⟨_,rfl⟩
theorem VR.str_ {x:Str} (r:VR X μ h (.str x) c):∃ t,c=.str x t∧x.length≤small:=by cases r;exact ⟨_,rfl,by assumption⟩
theorem VR.ref_ {a:Nat} (r:VR X μ h (.ref a) c):∃ p,μ[a]? = some p∧c=.ref p.1:=by cases r;exact ⟨_,by assumption,rfl⟩
theorem VR.tup_ {xs:List AV} (r:VR X μ h (.tup xs) c):∃ a items,c=.ref a∧h.IsTuple a items∧xs.length≤small∧VRs X μ h xs items.toList:=by
 cases r with | tup a b d=>exact ⟨_,_,rfl,a,b,d⟩
theorem VR.lst_ {xs:List AV} (r:VR X μ h (.lst xs) c):∃ a items,c=.ref a∧X.base.IsList a items∧xs.length≤small∧VRs X μ h xs items.toList:=by
 cases r with | lst a b d=>exact ⟨_,_,rfl,a,b,d⟩
theorem VR.range_ {a b:Int} (r:VR X μ h (.range a b) c):∃ e t u v,c=.ref e∧IsRange h e a b 1 t u v∧a.natAbs<2 ^ 62∧b.natAbs<2 ^ 62:=by
 cases r with | range a b d=>exact ⟨_,_,_,_,rfl,a,b,d⟩
theorem VR.fn_ {x:Str} (r:VR X μ h (.fn x) c):∃ f,c=.ref f∧nsIn X.K mainGlobals x=some (some (.ref f)):=by cases r;exact ⟨_,rfl,by assumption⟩
theorem VR.cls_ {x:Str} (r:VR X μ h (.cls x) c):∃ f,c=.ref f∧nsIn X.K mainGlobals x=some (some (.ref f)):=by cases r;exact ⟨_,rfl,by assumption⟩
theorem VR.bi_ {b:Bi} (r:VR X μ h (.bi b) c):c=jR b:=by cases r;rfl
theorem VR.exc_ {x:Str} (r:VR X μ h (.exc x) c):∃ e C o vs,c=.ref e∧nsIn X.K mainGlobals x=some (some (.ref C))∧h.get? e=some o∧o.cls=.ref C∧o.data=.fields vs:=by
 cases r with | exc a b d e=>exact ⟨_,_,_,_,rfl,a,b,d,e⟩
theorem VR.lam_ {l:LamS} {cs:List Nat} (r:VR X μ h (.lam l cs) c):∃ f,c=.ref f∧WQ μ h l cs f:=by
 cases r with | lam a=>exact ⟨_,rfl,a⟩
theorem VRs.nil_ {vs:List Value} (r:VRs X μ h [] vs):vs=[]:=by cases r;rfl
theorem VRs.cons_ {x:AV} {xs:List AV} {vs:List Value} (r:VRs X μ h (x::xs) vs):∃ v ws,vs=v::ws∧VR X μ h x v∧VRs X μ h xs ws:=by
 cases r with | cons a b=>exact ⟨_,_,rfl,a,b⟩
end
inductive FsR (X:Cx) (μ:Mu) (h:Heap):List (Str×AV)→List DictEntry→Prop
 | nil:FsR X μ h [] []
 | cons {n:Str} {v:AV} {hs:Int} {t:Tok} {w:Value} {r:List (Str×AV)} {es:List DictEntry}:VR X μ h v w→FsR X μ h r es→FsR X μ h ((n,v)::r) (⟨hs,.str n t,w⟩::es)
theorem FsR.mono {X:Cx} {μ μ':Mu} {h h':Heap} (hp:μ <+: μ') (hf:∀ b o,h.get? b=some o→yb o→h'.get? b=some o) :
  ∀ {fs:List (Str×AV)} {es:List DictEntry},FsR X μ h fs es→FsR X μ' h' fs es
 | _,_,.nil=>.nil
 | _,_,.cons a b=>.cons (a.mono hp hf) (b.mono hp hf)
noncomputable def xo (K:Frag) (C:Addr):Bool:=plainGet K C Str.empty && hasDictIn K C && (findIn K (.ref C) "__setattr__" == some (some (.builtin "object.__setattr__"))) && plainOver K C
noncomputable def jG (K:Frag) (C:Addr) (name:Str):Bool:=findIn K (.ref C) name == some none
inductive PRs (X:Cx) (μ:Mu) (h:Heap):List (Int×AV)→List (Int×Value)→Prop
 | nil:PRs X μ h [] []
 | cons {k:Int} {v:AV} {w:Value} {r:List (Int×AV)} {es:List (Int×Value)}:VR X μ h v w→PRs X μ h r es→PRs X μ h ((k,v)::r) ((k,w)::es)
theorem PRs.mono {X:Cx} {μ μ':Mu} {h h':Heap} (hp:μ <+: μ') (hf:∀ b o,h.get? b=some o→yb o→h'.get? b=some o) {fs:List (Int×AV)} {es:List (Int×Value)} (r:PRs X μ h fs es):PRs X μ' h' fs es:=by
 induction r with
 | nil=>exact .nil
 | cons a _ b=>exact .cons (a.mono hp hf) b
theorem z2a {prog prog':Program} {w w':World} {es:List DictEntry} {kvs:List (Int×Value)} (p:Pairs (intKind prog w) es kvs):Pairs (intKind prog' w') es kvs:=by
 induction p with
 | nil=>exact .nil
 | cons a b _ ih=>exact .cons a b ih
theorem z5k {prog prog':Program} {w w':World} {h:Heap} {c:Addr} {kvs:List (Int×Value)} (d:h.DictOf (intKind prog w) c kvs):h.DictOf (intKind prog' w') c kvs :=
 let ⟨o,es,ep,ho,hc,hd,hk,hp,hn⟩:=d
 ⟨o,es,ep,ho,hc,hd,hk,z2a hp,hn⟩
inductive OR (X:Cx) (μ:Mu) (h:Heap):AO→Addr×Option Addr→Prop
 | list {c:Addr} {items:Array Value} {n:Nat} {xs:List AV}:IsL h c items n→xs.length≤small→VRs X μ h xs items.toList→OR X μ h (.list xs) (c,none)
 | inst {x dx C:Addr} {cls:Str} {fs:List (Str×AV)} {es:List DictEntry} {n:Nat} {sl:Array (Option Value)} :
   nsIn X.K mainGlobals cls=some (some (.ref C))→h.get? x=some ⟨.ref C,some dx,.plain,sl⟩→h.get? dx=some (dictOf es n)→FsR X μ h fs es →
   xo X.K C=true→(∀ p∈fs,jG X.K C p.1=true)→fs.length≤100→OR X μ h (.inst cls fs) (x,some dx)
 | dict {prog:Program} {w:World} {c:Addr} {kvs:List (Int×AV)} {es:List (Int×Value)}:h.DictOf (intKind prog w) c es→PRs X μ h kvs es→(c == sysModules)=false→kvs.length≤small→OR X μ h (.dict kvs) (c,none)
 | cell {c:Addr} {v:Option AV} {cv:Option Value}:h.IsCell c cv→(∀ u,v=some u→∃ u',cv=some u'∧VR X μ h u u')→OR X μ h (.cell v) (c,none)
 | tab {q:Str}:zGk q h (X.tabP q)→OR X μ h (.tab q) (X.tabP q,none)
noncomputable def ads (p:Addr×Option Addr):List Addr:=p.1::p.2.toList
theorem OR.mono {X:Cx} {μ μ':Mu} {h h':Heap} {o:AO} {p:Addr×Option Addr} (r:OR X μ h o p) (hp:μ <+: μ') (hf:∀ b o,h.get? b=some o→yb o→h'.get? b=some o)
  (hk:∀ b∈ads p,∀ o,h.get? b=some o→h'.get? b=some o):OR X μ' h' o p:=by
 cases r with
 | list l z q =>
  exact .list (hk _ (.head _) _ l) z (q.mono hp hf)
 | inst a b c d e f g=>exact .inst a (hk _ (.head _) _ b) (hk _ (.tail _ (.head _)) _ c) (d.mono hp hf) e f g
 | dict a b c d=>exact .dict (let ⟨o,es,ep,ho,q⟩:=a;⟨o,es,ep,hk _ (.head _) _ ho,q⟩) (b.mono hp hf) c d
 | cell a b=>exact .cell (let ⟨o,ho,q⟩:=a;⟨o,hk _ (.head _) _ ho,q⟩) fun u e=>let ⟨u',e',r⟩:=b u e;⟨u',e',r.mono hp hf⟩
 | tab x =>
  obtain ⟨ps,e,t,c⟩:=x
  exact .tab ⟨ps,hk _ (.head _) _ e,t,fun pos cv q=>(c pos cv q).mono hf⟩
theorem OR.cell_ {X:Cx} {μ:Mu} {h:Heap} {v:Option AV} {p:Addr×Option Addr} (r:OR X μ h (.cell v) p):∃ c cv,p=(c,none)∧h.IsCell c cv∧∀ u,v=some u→∃ u',cv=some u'∧VR X μ h u u':=by
 cases r with | cell a b=>exact ⟨_,_,rfl,a,b⟩
theorem OR.tab_ {X:Cx} {μ:Mu} {h:Heap} {q:Str} {p:Addr×Option Addr} (r:OR X μ h (.tab q) p):p=(X.tabP q,none)∧zGk q h (X.tabP q):=by
 cases r with | tab a=>exact ⟨rfl,a⟩
theorem OR.list_ {X:Cx} {μ:Mu} {h:Heap} {xs:List AV} {p:Addr×Option Addr} (r:OR X μ h (.list xs) p):∃ c items n,p=(c,none)∧IsL h c items n∧xs.length≤small∧VRs X μ h xs items.toList:=by
 cases r with | list a b d=>exact ⟨_,_,_,rfl,a,b,d⟩
theorem OR.inst_ {X:Cx} {μ:Mu} {h:Heap} {cls:Str} {fs:List (Str×AV)} {p:Addr×Option Addr} (r:OR X μ h (.inst cls fs) p):∃ (x dx C:Addr) (es:List DictEntry) (n:Nat) (sl:Array (Option Value)),p=(x,some dx) ∧
   nsIn X.K mainGlobals cls=some (some (.ref C))∧h.get? x=some ⟨.ref C,some dx,.plain,sl⟩∧h.get? dx=some (dictOf es n)∧FsR X μ h fs es∧xo X.K C=true∧(∀ p∈fs,jG X.K C p.1=true)∧fs.length≤100:=by
 cases r with | inst a b d e f g i=>exact ⟨_,_,_,_,_,_,rfl,a,b,d,e,f,g,i⟩
noncomputable def Mut (o:Obj):Prop:=(o.cls=.type "list" ∧ ∃ xs n,o.data=.seq xs n)∨(∃ C,o.cls=.ref C∧o.data=.plain)∨(o.cls=.type "dict")∨(∃ v,o.data=.cell v)∨∃ ps,o=tabObj ps
theorem Mut.notFixed {o:Obj} (m:Mut o):¬ yb o:=by
 rintro (⟨f,xs,n,f'⟩ | ⟨f | f,vs,f'⟩ | ⟨f,fd,f'⟩ | ⟨C,vs,f,f'⟩) <;> rcases m with ⟨m,_,_,m'⟩ | ⟨C,m,m'⟩ | m | ⟨v,m'⟩ | ⟨ps,rfl⟩ <;> first | (rw [f'] at m';cases m';done) | (rw [f] at m;cases m;done) | (rw [f] at m;injection m with m;exact absurd m (by decide)) | (cases f;done) | (cases f';done)
theorem OR.mut {X:Cx} {μ:Mu} {h:Heap} {o:AO} {p:Addr×Option Addr} (r:OR X μ h o p):∀ b∈ads p,∃ o,h.get? b=some o∧Mut o:=by
 cases r with
 | list l z q =>
  intro b hb
  cases hb with
  | head=>exact ⟨_,l,.inl ⟨rfl,_,_,rfl⟩⟩
  | tail _ h=>cases h
 | inst a b' c d e f g =>
  intro b hb
  cases hb with
  | head=>exact ⟨_,b',.inr (.inl ⟨_,rfl,rfl⟩)⟩
  | tail _ h=>cases h with
   | head=>exact ⟨_,c,.inr (.inr (.inl rfl))⟩
   | tail _ h=>cases h
 | dict a _ _ _ =>
  intro b hb
  cases hb with
  | head =>
   obtain ⟨o,es,ep,ho,hc,_⟩:=a
   exact ⟨_,ho,.inr (.inr (.inl hc.1))⟩
  | tail _ h=>cases h
 | cell a _ =>
  intro b hb
  cases hb with
  | head =>
   obtain ⟨o,ho,hd⟩:=a
   exact ⟨_,ho,.inr (.inr (.inr (.inl ⟨_,hd⟩)))⟩
  | tail _ h=>cases h
 | tab x =>
  intro b hb
  obtain ⟨ps,e,_⟩:=x
  cases hb with
  | head=>exact ⟨_,e,.inr (.inr (.inr (.inr ⟨_,rfl⟩)))⟩
  | tail _ h=>cases h
structure Inv (X:Cx) (μ:Mu) (hp:Hp) (s:Shared):Prop where
 len:μ.length=hp.length
 nodup:(zh μ).Nodup
 above:∀ a∈zh μ,X.base.get? a=none
 rep:∀ (i:Nat) (p:Addr×Option Addr) (o:AO),μ[i]? = some p→hp[i]? = some o→OR X μ s.heap o p
 keep:∀ b o,X.base.get? b=some o→s.heap.get? b=some o
 gens:s.gens=#[]
 os:s.os=X.os
theorem yX {μ:Mu} {b:Addr}:b∈zh μ↔∃ (i:Nat) (p:Addr×Option Addr),μ[i]? = some p∧b∈ads p:=by
 unfold zh ads
 rw [List.mem_flatMap]
 constructor
 ·rintro ⟨p,hp,hb⟩
  obtain ⟨i,hi⟩:=List.getElem?_of_mem hp
  exact ⟨i,p,hi,hb⟩
 ·rintro ⟨i,p,hi,hb⟩
  exact ⟨p,yq hi,hb⟩
theorem Zf:∀ {μ:Mu},(zh μ).Nodup→∀ {i j:Nat} {p q:Addr×Option Addr} {b:Addr},μ[i]? = some p→μ[j]? = some q→b∈ads p→b∈ads q→i=j
 | [],_,_,_,_,_,_,h,_,_,_=>by cases h
 | r::μ,nd,i,j,p,q,b,hi,hj,hp,hq=>by
  have e:zh (r::μ)=ads r++zh μ:=rfl
  rw [e,List.nodup_append] at nd
  obtain ⟨_,n2,n3⟩:=nd
  cases i with
  | zero =>
   cases j with
   | zero=>rfl
   | succ j =>
    cases hi
    exact absurd rfl (n3 b hp b (yX.mpr ⟨j,q,hj,hq⟩))
  | succ i =>
   cases j with
   | zero =>
    cases hj
    exact absurd rfl (n3 b hq b (yX.mpr ⟨i,p,hi,hp⟩))
   | succ j=>exact congrArg _ (Zf n2 (i:=i) (j:=j) hi hj hp hq)
section
variable {X:Cx} {μ μ':Mu} {hp hp':Hp} {s s':Shared}
theorem Inv.obj (I:Inv X μ hp s) {i:Nat} {p:Addr×Option Addr} (h:μ[i]? = some p):∃ o,hp[i]? = some o:=by
 have:=(yj h).1
 rw [I.len] at this
 exact ⟨hp[i],yO this⟩
theorem Inv.mut (I:Inv X μ hp s) {b:Addr} (h:b∈zh μ):∃ o,s.heap.get? b=some o∧Mut o:=by
 obtain ⟨i,p,hi,hb⟩:=yX.mp h
 obtain ⟨o,ho⟩:=I.obj hi
 exact (I.rep i p o hi ho).mut b hb
theorem Inv.dict_at (I:Inv X μ hp s) {a:Nat} {c:Value} {kvs:List (Int×AV)} (r:VR X μ s.heap (.ref a) c) (e:hp[a]? = some (.dict kvs)) (prog:Program) (w:World) :
  ∃ d es,c=.ref d∧μ[a]? = some (d,none)∧s.heap.DictOf (intKind prog w) d es∧PRs X μ s.heap kvs es∧(d == sysModules)=false∧kvs.length≤small:=by
 obtain ⟨p,hp,rfl⟩:=r.ref_
 have:=I.rep _ _ _ hp e
 cases this with
 | dict a b c d=>exact ⟨_,_,rfl,hp,z5k a,b,c,d⟩
theorem Inv.list_at (I:Inv X μ hp s) {a:Nat} {c:Value} {xs:List AV} (r:VR X μ s.heap (.ref a) c) (e:hp[a]? = some (.list xs)) :
  ∃ d items n,c=.ref d∧μ[a]? = some (d,none)∧IsL s.heap d items n∧xs.length≤small∧VRs X μ s.heap xs items.toList:=by
 obtain ⟨p,hp,rfl⟩:=r.ref_
 obtain ⟨d,items,n,rfl,l,z,q⟩:=(I.rep _ _ _ hp e).list_
 exact ⟨d,items,n,rfl,hp,l,z,q⟩
noncomputable def isD (o:Obj):Bool:=match o.data with
 | .dict ..=>true
 | _=>false
noncomputable def Yp (o:Obj) (x:Option Obj):Prop:=x=some o∨(isD o=true∧∃ sl,x=some { o with slots:=sl })
theorem Yp.exact {o:Obj} {x:Option Obj} (n:Yp o x) (h:isD o=false):x=some o:=by
 rcases n with e | ⟨e,_⟩
 ·exact e
 ·rw [h] at e;exact nob e
theorem Yp.get {o:Obj} {x:Option Obj} (n:Yp o x):∃ o',x=some o'∧o'.data=o.data:=by
 rcases n with e | ⟨_,sl,e⟩
 ·exact ⟨o,e,rfl⟩
 ·exact ⟨_,e,rfl⟩
theorem Yp.trans {o:Obj} {x y:Option Obj} (n:Yp o x) (m:∀ o',x=some o'→Yp o' y):Yp o y:=by
 rcases n with e | ⟨d,sl,e⟩
 ·exact m o e
 ·rcases m _ e with q | ⟨_,sl',q⟩
  ·exact .inr ⟨d,sl,q⟩
  ·exact .inr ⟨d,sl',q⟩
theorem yb.notD {o:Obj} (f:yb o):isD o=false:=by
 unfold isD
 rcases f with ⟨_,xs,n,q⟩ | ⟨_,vs,q⟩ | ⟨_,fd,q⟩ | ⟨C,vs,_,q⟩ <;> rw [q]
theorem w9 {o:Obj} {es:Array DictEntry} {n:Nat} (h:o.data=.dict es n):isD o=true:=by unfold isD;rw [h]
theorem z2x {o o':Obj} (h:o'.data=o.data):isD o'=isD o:=by unfold isD;rw [h]
structure Le (S:Addr→Prop) (μ:Mu) (s:Shared) (μ':Mu) (s':Shared):Prop where
 pre:μ <+: μ'
 fresh:∀ a∈zh μ',a∈zh μ∨s.heap.get? a=none
 exist:∀ b o,s.heap.get? b=some o→∃ o',s'.heap.get? b=some o'
 keep:∀ b o,b∉zh μ→¬ S b→s.heap.get? b=some o→Yp o (s'.heap.get? b)
noncomputable def noS:Addr→Prop:=fun _=>False
theorem Le.refl {S:Addr→Prop}:Le S μ s μ s:=⟨List.prefix_refl _,fun _ h=>.inl h,fun _ o e=>⟨o,e⟩,fun _ _ _ _ e=>.inl e⟩
theorem Le.trans {S:Addr→Prop} {μ₁ μ₂:Mu} {s₁ s₂:Shared} (a:Le S μ s μ₁ s₁) (b:Le S μ₁ s₁ μ₂ s₂):Le S μ s μ₂ s₂:=by
 refine ⟨a.pre.trans b.pre,fun x hx=>?_,fun x o e=>?_,fun x o n ns e=>?_⟩
 ·rcases b.fresh x hx with h | h
  ·exact a.fresh x h
  ·cases q:s.heap.get? x with
   | none=>exact .inr rfl
   | some o=>obtain ⟨o',e'⟩:=a.exist x o q;rw [h] at e';cases e'
 ·obtain ⟨o',e'⟩:=a.exist x o e
  exact b.exist x o' e'
 ·refine (a.keep x o n ns e).trans fun o' e'=>b.keep x o' (fun h=>?_) ns e'
  rcases a.fresh x h with h | h
  ·exact n h
  ·rw [e] at h;cases h
theorem Le.weak {S S':Addr→Prop} (h:∀ b,S b→S' b) (a:Le S μ s μ' s'):Le S' μ s μ' s':=⟨a.pre,a.fresh,a.exist,fun b o n ns e=>a.keep b o n (fun q=>ns (h b q)) e⟩
theorem Le.drop {S S':Addr→Prop} (a:Le S μ s μ' s') (h:∀ b o,S b→s.heap.get? b=some o→S' b):Le S' μ s μ' s' :=
 ⟨a.pre,a.fresh,a.exist,fun b o n ns e=>a.keep b o n (fun q=>ns (h b o q e)) e⟩
theorem Le.ofKeep {S:Addr→Prop} (h:∀ b o,s.heap.get? b=some o→s'.heap.get? b=some o):Le S μ s μ s':=⟨List.prefix_refl _,fun _ h=>.inl h,fun b o e=>⟨o,h b o e⟩,fun b o _ _ e=>.inl (h b o e)⟩
theorem Le.fixed {S:Addr→Prop} (I:Inv X μ hp s) (hS:∀ b o,S b→s.heap.get? b=some o→¬ yb o) (a:Le S μ s μ' s'):∀ b o,s.heap.get? b=some o→yb o→s'.heap.get? b=some o:=fun b o e f =>
 (a.keep b o (fun h=>by obtain ⟨o',e',m⟩:=I.mut h;rw [e] at e';cases e';exact m.notFixed f) (fun h=>hS b o h e f) e).exact f.notD
theorem VR.le {x:AV} {v:Value} (r:VR X μ s.heap x v) (I:Inv X μ hp s) (a:Le noS μ s μ' s'):VR X μ' s'.heap x v:=r.mono a.pre (a.fixed I fun _ _ h=>h.elim)
theorem VRs.le {x:List AV} {v:List Value} (r:VRs X μ s.heap x v) (I:Inv X μ hp s) (a:Le noS μ s μ' s'):VRs X μ' s'.heap x v:=r.mono a.pre (a.fixed I fun _ _ h=>h.elim)
theorem Inv.grow (I:Inv X μ hp s) {h':Heap} {t:Nat} (hk:∀ b o,s.heap.get? b=some o→h'.get? b=some o):Inv X μ hp { s with heap:=h',toks:=t } where
 len:=I.len
 nodup:=I.nodup
 above:=I.above
 rep i p o a b:=(I.rep i p o a b).mono (List.prefix_refl _) (fun b o e _=>hk b o e) fun b _ o e=>hk b o e
 keep b o e:=hk b o (I.keep b o e)
 gens:=I.gens
 os:=I.os
theorem Inv.tok (I:Inv X μ hp s) (t:Nat):Inv X μ hp { s with toks:=t }:=⟨I.len,I.nodup,I.above,I.rep,I.keep,I.gens,I.os⟩
theorem Le.grow {S:Addr→Prop} {h':Heap} {t:Nat} (hk:∀ b o,s.heap.get? b=some o→h'.get? b=some o):Le S μ s μ { s with heap:=h',toks:=t }:=.ofKeep hk
theorem Le.tok {S:Addr→Prop} (t:Nat):Le S μ s μ { s with toks:=t }:=.ofKeep fun _ _ e=>e
noncomputable def Frs (X:Cx) (l:List Env) (μ:Mu) (h:Heap):Prop:=∀ v∈l,v.scope.kind≠.module∧∃ L o,v.frame=some L∧X.base.get? L=none∧L∉zh μ∧h.get? L=some o∧isD o=true
theorem Frs.mono {l:List Env} {h h':Heap} (f:Frs X l μ h) (m:∀ b o,b∉zh μ→h.get? b=some o→isD o=true→b∉zh μ'∧∃ o',h'.get? b=some o'∧isD o'=true):Frs X l μ' h':=fun v hv=>by
 obtain ⟨k,L,o,e1,e2,e3,e4,e5⟩:=f v hv
 obtain ⟨m1,o',m2,m3⟩:=m L o e3 e4 e5
 exact ⟨k,L,o',e1,e2,m1,m2,m3⟩
theorem Le.out {S:Addr→Prop} (a:Le S μ s μ' s') {b:Addr} {o:Obj} (n:b∉zh μ) (e:s.heap.get? b=some o):b∉zh μ':=fun h=>by
 rcases a.fresh b h with h | h
 ·exact n h
 ·rw [e] at h;cases h
theorem Frs.le {l:List Env} (f:Frs X l μ s.heap) (a:Le noS μ s μ' s'):Frs X l μ' s'.heap:=f.mono fun b o n e d=>by
 obtain ⟨o',e',q⟩:=(a.keep b o n (fun h=>h) e).get
 exact ⟨a.out n e,o',e',(z2x q).trans d⟩
theorem xe (μ ν:Mu):zh (μ++ν)=zh μ++zh ν:=by unfold zh;rw [List.flatMap_append]
theorem Inv.new (I:Inv X μ hp s) {h':Heap} {t:Nat} {p:Addr×Option Addr} {o:AO} (hk:∀ b o,s.heap.get? b=some o→h'.get? b=some o) (hn:∀ b∈ads p,s.heap.get? b=none) (nd:(ads p).Nodup)
  (r:OR X (μ++[p]) h' o p):Inv X (μ++[p]) (hp++[o]) { s with heap:=h',toks:=t }∧Le noS μ s (μ++[p]) { s with heap:=h',toks:=t }:=by
 have ea:zh (μ++[p])=zh μ++ads p:=by rw [xe];simp [zh,ads]
 refine ⟨⟨by simp [I.len],?_,fun a ha=>?_,fun i q x hi hx=>?_,fun b o e=>hk b o (I.keep b o e),I.gens,I.os⟩,⟨List.prefix_append _ _,fun a ha=>?_,fun b o e=>⟨o,hk b o e⟩,fun b o _ _ e=>.inl (hk b o e)⟩⟩
 ·rw [ea,List.nodup_append]
  refine ⟨I.nodup,nd,fun a ha b hb e=>?_⟩
  subst e
  obtain ⟨o,e,_⟩:=I.mut ha
  rw [hn a hb] at e;exact nos e
 ·rw [ea,List.mem_append] at ha
  rcases ha with ha | ha
  ·exact I.above a ha
  ·cases q:X.base.get? a with
   | none=>rfl
   | some o=>have:=I.keep a o q;rw [hn a ha] at this;exact nos this
 ·by_cases hlt:i<μ.length
  ·rw [List.getElem?_append_left hlt] at hi
   rw [List.getElem?_append_left (by rw [← I.len];exact hlt)] at hx
   exact (I.rep i q x hi hx).mono (List.prefix_append _ _) (fun b o e _=>hk b o e) fun b _ o e=>hk b o e
  ·have e1:i=μ.length:=by
    have:=(yj hi).1
    simp at this;lia
   subst e1
   rw [List.getElem?_append_right (Nat.le_refl _)] at hi
   rw [I.len,List.getElem?_append_right (Nat.le_refl _)] at hx
   simp at hi hx
   subst hi hx
   exact r
 ·rw [ea,List.mem_append] at ha
  rcases ha with ha | ha
  ·exact .inl ha
  ·exact .inr (hn a ha)
theorem Inv.updS (I:Inv X μ hp s) {S:Addr→Prop} (hS:∀ b,S b→b∉zh μ∧X.base.get? b=none) (hF:∀ b o,S b→s.heap.get? b=some o→¬ yb o∧∃ o',s'.heap.get? b=some o') {a:Nat} {p:Addr×Option Addr} {o':AO} (ha:μ[a]? = some p)
  (hk:∀ b o,b∉ads p→¬ S b→s.heap.get? b=some o→s'.heap.get? b=some o) (r:OR X μ s'.heap o' p) (hg:s'.gens=s.gens) (hos:s'.os=s.os):Inv X μ (hp.set a o') s'∧Le S μ s μ s':=by
 have inA:∀ b∈ads p,b∈zh μ:=fun b hb=>yX.mpr ⟨a,p,ha,hb⟩
 have fx:∀ b o,s.heap.get? b=some o→yb o→s'.heap.get? b=some o:=fun b o e f=>hk b o (fun hb=>by
  obtain ⟨o',e',m⟩:=I.mut (inA b hb);rw [e] at e';cases e';exact m.notFixed f) (fun h=>(hF b o h e).1 f) e
 refine ⟨⟨by simp [I.len],I.nodup,I.above,fun i q x hi hx=>?_,fun b o e=>hk b o (fun hb=>?_) (fun h=>?_) (I.keep b o e),hg.trans I.gens,hos.trans I.os⟩,⟨List.prefix_refl _,fun _ h=>.inl h,fun b o e=>?_,fun b o n ns e=>.inl (hk b o (fun hb=>n (inA b hb)) ns e)⟩⟩
 ·by_cases hia:a=i
  ·subst hia
   rw [ha] at hi;cases hi
   rw [List.getElem?_set_self (by rw [← I.len];exact (yj ha).1)] at hx
   cases hx;exact r
  ·rw [List.getElem?_set_ne hia] at hx
   exact (I.rep i q x hi hx).mono (List.prefix_refl _) fx fun b hb o e=>hk b o (fun hb'=>hia (Zf I.nodup ha hi hb' hb)) (fun h=>(hS b h).1 (yX.mpr ⟨i,q,hi,hb⟩)) e
 ·have:=I.above b (inA b hb);rw [e] at this;cases this
 ·have:=(hS b h).2;rw [e] at this;cases this
 ·by_cases hb:b∈ads p
  ·obtain ⟨o',e',_⟩:=r.mut b hb;exact ⟨o',e'⟩
  ·by_cases h:S b
   ·exact (hF b o h e).2
   ·exact ⟨o,hk b o hb h e⟩
theorem Inv.upd (I:Inv X μ hp s) {h':Heap} {t a:Nat} {p:Addr×Option Addr} {o':AO} (ha:μ[a]? = some p) (hk:∀ b o,b∉ads p→s.heap.get? b=some o→h'.get? b=some o)
  (r:OR X μ h' o' p):Inv X μ (hp.set a o') { s with heap:=h',toks:=t }∧Le noS μ s μ { s with heap:=h',toks:=t } :=
 I.updS (s':={ s with heap:=h',toks:=t }) (S:=noS) (fun _ h=>h.elim) (fun _ _ h=>h.elim) ha (fun b o n _ e=>hk b o n e) r rfl rfl
theorem Inv.own (I:Inv X μ hp s) {S:Addr→Prop} (hS:∀ b,S b→b∉zh μ∧X.base.get? b=none) (hF:∀ b o,S b→s.heap.get? b=some o→¬ yb o∧∃ o',s'.heap.get? b=some o')
  (hk:∀ b o,¬ S b→s.heap.get? b=some o→s'.heap.get? b=some o) (hg:s'.gens=s.gens) (hos:s'.os=s.os):Inv X μ hp s'∧Le S μ s μ s':=by
 have fx:∀ b o,s.heap.get? b=some o→yb o→s'.heap.get? b=some o:=fun b o e f=>hk b o (fun h=>(hF b o h e).1 f) e
 refine ⟨⟨I.len,I.nodup,I.above,fun i q x hi hx=>(I.rep i q x hi hx).mono (List.prefix_refl _) fx fun b hb o e=>hk b o (fun h=>(hS b h).1 (yX.mpr ⟨i,q,hi,hb⟩)) e,fun b o e=>hk b o (fun h=>?_) (I.keep b o e),hg.trans I.gens,hos.trans I.os⟩,
  ⟨List.prefix_refl _,fun _ h=>.inl h,fun b o e=>?_,fun b o _ ns e=>.inl (hk b o ns e)⟩⟩
 ·have:=(hS b h).2;rw [e] at this;cases this
 ·by_cases h:S b
  ·exact (hF b o h e).2
  ·exact ⟨o,hk b o h e⟩
end
theorem jz {h:Hp} {a:Nat} {kvs:List (Int×AV)} (e:xy h a=some kvs):h[a]? = some (.dict kvs):=by
 unfold xy at e
 cases q:h[a]? with
 | none=>rw [q] at e;exact nos e
 | some o =>
  rw [q] at e
  cases o with
  | dict k=>cases e;rfl
  | _=>exact nos e
theorem PRs.get {X:Cx} {μ:Mu} {h:Heap} {k:Int} {kvs:List (Int×AV)} {es:List (Int×Value)} (r:PRs X μ h kvs es):(ZG kvs k=none∧valueAt es k=none)∨∃ v w,ZG kvs k=some v∧valueAt es k=some w∧VR X μ h v w:=by
 induction r with
 | nil=>exact .inl ⟨rfl,rfl⟩
 | @cons k' v w r es a _ ih =>
  by_cases q:k'=k
  ·subst q
   refine .inr ⟨v,w,?_,?_,a⟩
   ·unfold ZG;rw [List.find?_cons_of_pos (by simp)];rfl
   ·unfold valueAt;rw [List.find?_cons_of_pos (by simp)];rfl
  ·have e1:ZG ((k',v)::r) k=ZG r k:=by unfold ZG;rw [List.find?_cons_of_neg (by simpa using q)]
   have e2:valueAt ((k',w)::es) k=valueAt es k:=by unfold valueAt;rw [List.find?_cons_of_neg (by simpa using q)]
   rw [e1,e2];exact ih
theorem PRs.len {X:Cx} {μ:Mu} {h:Heap} {kvs:List (Int×AV)} {es:List (Int×Value)} (r:PRs X μ h kvs es):kvs.length=es.length:=by
 induction r with
 | nil=>rfl
 | cons _ _ ih=>exact congrArg (·+1) ih
theorem PRs.keys {X:Cx} {μ:Mu} {h:Heap} {kvs:List (Int×AV)} {es:List (Int×Value)} (r:PRs X μ h kvs es):es.map (·.1)=kvs.map (·.1):=by
 induction r with
 | nil=>rfl
 | cons _ _ ih=>rw [List.map_cons,List.map_cons,ih]
theorem PRs.isSome {X:Cx} {μ:Mu} {h:Heap} {k:Int} {kvs:List (Int×AV)} {es:List (Int×Value)} (r:PRs X μ h kvs es):(valueAt es k).isSome=(ZG kvs k).isSome:=by
 rcases r.get (k:=k) with ⟨a,b⟩ | ⟨v,w,a,b,_⟩ <;> rw [a,b] <;> rfl
section
variable {X:Cx} {μ:Mu} {h:Heap}
theorem VRs.length {xs:List AV}:∀ {vs:List Value},VRs X μ h xs vs→vs.length=xs.length:=by
 induction xs with
 | nil=>intro vs r;rw [r.nil_];rfl
 | cons x xs ih=>intro vs r;obtain ⟨v,ws,rfl,_,q⟩:=r.cons_;exact congrArg (·+1) (ih q)
theorem VRs.size {xs:List AV} {items:Array Value} (r:VRs X μ h xs items.toList):items.size=xs.length:=r.length
theorem VRs.get {xs:List AV}:∀ {vs:List Value},VRs X μ h xs vs→∀ {k:Nat} {x:AV},xs[k]? = some x→∃ v,vs[k]? = some v∧VR X μ h x v:=by
 induction xs with
 | nil=>intro vs r k x e;exact nos e
 | cons x xs ih =>
  intro vs r k y e
  obtain ⟨v,ws,rfl,a,q⟩:=r.cons_
  cases k with
  | zero=>cases e;exact ⟨_,rfl,a⟩
  | succ k=>exact ih q e
theorem VRs.app {xs:List AV}:∀ {vs:List Value},VRs X μ h xs vs→∀ {ys:List AV} {ws:List Value},VRs X μ h ys ws→VRs X μ h (xs++ys) (vs++ws):=by
 induction xs with
 | nil=>intro vs r ys ws q;rw [r.nil_];exact q
 | cons x xs ih=>intro vs r ys ws q;obtain ⟨v,vs,rfl,a,r⟩:=r.cons_;exact .cons a (ih r q)
theorem VRs.take {xs:List AV}:∀ {vs:List Value},VRs X μ h xs vs→∀ k,VRs X μ h (xs.take k) (vs.take k):=by
 induction xs with
 | nil=>intro vs r k;rw [r.nil_];cases k <;> exact .nil
 | cons x xs ih =>
  intro vs r k
  obtain ⟨v,vs,rfl,a,r⟩:=r.cons_
  cases k with
  | zero=>exact .nil
  | succ k=>exact .cons a (ih r k)
theorem VRs.drop {xs:List AV}:∀ {vs:List Value},VRs X μ h xs vs→∀ k,VRs X μ h (xs.drop k) (vs.drop k):=by
 induction xs with
 | nil=>intro vs r k;rw [r.nil_];cases k <;> exact .nil
 | cons x xs ih =>
  intro vs r k
  obtain ⟨v,vs,rfl,a,q⟩:=r.cons_
  cases k with
  | zero=>exact r
  | succ k=>exact ih q k
theorem VRs.set {x:AV} {v:Value} (hv:VR X μ h x v) {xs:List AV}:∀ {vs:List Value},VRs X μ h xs vs→∀ k,VRs X μ h (xs.set k x) (vs.set k v):=by
 induction xs with
 | nil=>intro vs r k;rw [r.nil_];exact .nil
 | cons y xs ih =>
  intro vs r k
  obtain ⟨u,vs,rfl,a,q⟩:=r.cons_
  cases k with
  | zero=>exact .cons hv q
  | succ k=>exact .cons a (ih q k)
theorem VRs.one {x:AV} {vs:List Value} (r:VRs X μ h [x] vs):∃ v,vs=[v]∧VR X μ h x v:=by
 obtain ⟨v,ws,rfl,a,q⟩:=r.cons_;rw [q.nil_];exact ⟨_,rfl,a⟩
theorem VRs.two {x y:AV} {vs:List Value} (r:VRs X μ h [x,y] vs):∃ v u,vs=[v,u]∧VR X μ h x v∧VR X μ h y u:=by
 obtain ⟨v,ws,rfl,a,q⟩:=r.cons_;obtain ⟨u,rfl,b⟩:=q.one;exact ⟨_,_,rfl,a,b⟩
end
theorem yg {v:AV} {i:Int} (e:xj v=some i):v=.int i:=by
 cases v with
 | int=>cases e;rfl
 | _=>exact nos e
theorem XK {v:AV} {i:Bool} (e:J3 v=some i):v=.bool i:=by
 cases v with
 | bool=>cases e;rfl
 | _=>exact nos e
theorem z5o {v:AV} {i:Bi} (e:zHp v=some i):v=.bi i:=by
 cases v with
 | bi=>cases e;rfl
 | _=>exact nos e
theorem xq {v:AV} {i:Str} (e:xg v=some i):v=.str i:=by
 cases v with
 | str=>cases e;rfl
 | _=>exact nos e
theorem xY {v:AV} {i:Nat} (e:xh v=some i):v=.ref i:=by
 cases v with
 | ref=>cases e;rfl
 | _=>exact nos e
theorem QJ {v:AV} {i:List AV} (e:ZL v=some i):v=.tup i:=by
 cases v with
 | tup=>cases e;rfl
 | _=>exact nos e
theorem xu {h:Hp} {a:Nat} {xs:List AV} (e:y7 h a=some xs):h[a]? = some (.list xs):=by
 unfold y7 at e
 cases q:h[a]? with
 | none=>rw [q] at e;exact nos e
 | some o=>rw [q] at e;cases o <;> cases e;rfl
theorem xO {l:List AV} {a:AV} (e:wl l=some a):l=[a]:=by
 cases l with
 | nil=>exact nos e
 | cons x l=>cases l <;> cases e;rfl
theorem wg {l:List AV} {p:AV×AV} (e:Y4 l=some p):l=[p.1,p.2]:=by
 cases l with
 | nil=>exact nos e
 | cons x l =>
  cases l with
  | nil=>exact nos e
  | cons y l=>cases l <;> cases e;rfl
theorem wq {α β:Type} {f:α→Option β} {x:α} {xs:List α} {zs:List β} (e:yd f (x::xs)=some zs):∃ y ys,f x=some y∧yd f xs=some ys∧zs=y::ys:=by
 have e:(match f x,yd f xs with | some y,some ys=>some (y::ys) | _,_=>none)=some zs:=e
 cases q:f x with
 | none=>rw [q] at e;exact nos e
 | some y =>
  cases q':yd f xs with
  | none=>rw [q,q'] at e;exact nos e
  | some ys=>rw [q,q'] at e;cases e;exact ⟨_,_,rfl,rfl,rfl⟩
structure Room (n:Nat) (A:Around) (l:List Env):Prop where
 frames:A.frames=some l
 depth:A.depth+2 * n+2<recursionLimit
 units:A.units+100 * n+300<cLine
 handled:n≠0→A.handled=none
noncomputable def PE (X:Cx) (μ:Mu) (s:Shared) (v:AV) (hp':Hp) (Q:Value→Shared→Prop):Prop :=
 ∀ v' μ' s',Le noS μ s μ' s'→Inv X μ' hp' s'→VR X μ' s'.heap v v'→Q v' s'
section
variable {X:Cx} {μ μ':Mu} {hp hp':Hp} {s s':Shared} {Q:Value→Shared→Prop} {v:AV}
theorem PE.le (k:PE X μ s v hp' Q) (a:Le noS μ s μ' s'):PE X μ' s' v hp' Q:=fun v' μ'' s'' b=>k v' μ'' s'' (a.trans b)
theorem PE.here (k:PE X μ s v hp Q) (I:Inv X μ hp s) {v':Value} (r:VR X μ s.heap v v'):Q v' s:=k v' μ s .refl I r
theorem PE.tok (k:PE X μ s v hp Q) (I:Inv X μ hp s) {v':Value} {t:Nat} (r:VR X μ s.heap v v'):Q v' { s with toks:=t }:=k v' μ _ (.tok t) (I.tok t) r
noncomputable def PC (X:Cx) (l:List Env) (μ:Mu) (s:Shared) (c:Str) (hp':Hp) (E:Value→Shared→Prop):Prop :=
 ∀ e μ' s' B C a0,nsIn X.K mainGlobals c=some (some (.ref C))→Heap.FlyingW B l e (.ref C) a0 s'.heap →
  (∀ h6 t,B.StaysIn h6→s'.heap.UpToSlots h6→Le noS μ s μ' { s' with heap:=h6,toks:=t }∧Inv X μ' hp' { s' with heap:=h6,toks:=t })→E (.ref e) s'
theorem PC.le {l:List Env} {c:Str} {E:Value→Shared→Prop} (k:PC X l μ s c hp' E) (a:Le noS μ s μ' s'):PC X l μ' s' c hp' E:=fun e μ'' s'' B C a0 h1 h2 h3 =>
 k e μ'' s'' B C a0 h1 h2 fun h6 t g1 g2=>⟨a.trans (h3 h6 t g1 g2).1,(h3 h6 t g1 g2).2⟩
noncomputable def PG {α β:Type} (rel:Mu→Heap→α→β→Prop) (X:Cx) (l:List Env) (μ:Mu) (s:Shared) (o:Out α) (Q:β→Shared→Prop) (E:Value→Shared→Prop):Prop:=match o with
 | .stuck=>False
 | .ok a h=>∀ b μ' s',Le noS μ s μ' s'→Inv X μ' h s'→rel μ' s'.heap a b→Q b s'
 | .exc c h=>PC X l μ s c h E
theorem PG.le {α β:Type} {rel:Mu→Heap→α→β→Prop} {l:List Env} {o:Out α} {Q:β→Shared→Prop} {E:Value→Shared→Prop} (k:PG rel X l μ s o Q E) (a:Le noS μ s μ' s'):PG rel X l μ' s' o Q E:=by
 cases o with
 | stuck=>exact k
 | ok v h=>exact fun b μ'' s'' L=>k b μ'' s'' (a.trans L)
 | exc c h=>exact PC.le k a
theorem PG.bind {α β γ δ:Type} {rel:Mu→Heap→α→β→Prop} {rel':Mu→Heap→γ→δ→Prop} {l:List Env} {o:Out α} {f:α→Hp→Out γ} {Q':δ→Shared→Prop} {Q:β→Shared→Prop} {E:Value→Shared→Prop}
  (k:PG rel' X l μ s (o.bind f) Q' E) (h:∀ a b hp' μ' s',Le noS μ s μ' s'→Inv X μ' hp' s'→rel μ' s'.heap a b→PG rel' X l μ' s' (f a hp') Q' E→Q b s'):PG rel X l μ s o Q E:=by
 cases o with
 | stuck=>exact k
 | ok v hp'=>exact fun b μ' s' L I r=>h v b hp' μ' s' L I r (PG.le (o:=f v hp') k L)
 | exc c hp'=>exact k
theorem PG.bind0 {α β γ δ:Type} {rel:Mu→Heap→α→β→Prop} {rel':Mu→Heap→γ→δ→Prop} {l:List Env} {o:Out α} {f:α→Hp→Out γ} {Q':δ→Shared→Prop} {Q:β→Shared→Prop} {E:Value→Shared→Prop}
  (k:PG rel' X l μ s (o.bind0 f) Q' E) (h:∀ a b hp' μ' s',Le noS μ s μ' s'→Inv X μ' hp' s'→rel μ' s'.heap a b→PG rel' X l μ' s' (f a hp') Q' E→Q b s'):PG rel X l μ s o Q E:=by
 cases o with
 | stuck=>exact k
 | ok v hp'=>exact fun b μ' s' L I r=>h v b hp' μ' s' L I r (PG.le (o:=f v hp') k L)
 | exc c hp'=>exact k.elim
theorem PG.of {α β:Type} {rel:Mu→Heap→α→β→Prop} {l:List Env} {o:Option α} {hp:Hp} {Q:β→Shared→Prop} {E:Value→Shared→Prop} (k:PG rel X l μ s (Out.of o hp) Q E):∃ a,o=some a∧PG rel X l μ s (.ok a hp) Q E:=by
 cases o with
 | none=>exact k.elim
 | some a=>exact ⟨a,rfl,k⟩
theorem PG.ofP {β:Type} {rel:Mu→Heap→AV→β→Prop} {l:List Env} {o:Option (AV×Hp)} {Q:β→Shared→Prop} {E:Value→Shared→Prop} (k:PG rel X l μ s (Mine.ofP o) Q E):∃ a hp,o=some (a,hp)∧PG rel X l μ s (.ok a hp) Q E:=by
 cases o with
 | none=>exact k.elim
 | some a=>exact ⟨a.1,a.2,rfl,k⟩
noncomputable abbrev PO (X:Cx) (l:List Env) (μ:Mu) (s:Shared) (o:Out AV) (Q:Value→Shared→Prop) (E:Value→Shared→Prop):Prop:=PG (fun μ h=>VR X μ h) X l μ s o Q E
noncomputable def DR (h:Heap) (n:Nat) (c:Value) (d:PyData):Prop:=(∃ as,Reads h c d as)∧d.canLay0=true∧d.depth≤n
noncomputable def DRs (h:Heap) (n:Nat) (cs:List Value) (ds:List PyData):Prop:=(∃ as,ReadsAll h cs ds as)∧PyData.canLayAll0 ds=true∧PyData.depthAll ds≤n
theorem ZZ {n:Nat} {v:AV} {c:Value} {d:PyData} (e:WG v=some d) (r:VR X μ s.heap v c):DR s.heap n c d:=by
 cases v with
 | none=>cases e;rw [r.none_];exact ⟨⟨_,.none⟩,rfl,Nat.zero_le _⟩
 | bool b=>cases e;rw [r.bool_];exact ⟨⟨_,.bool _⟩,rfl,Nat.zero_le _⟩
 | int i=>cases e;obtain ⟨t,rfl⟩:=r.int_;exact ⟨⟨_,.int _ _⟩,rfl,Nat.zero_le _⟩
 | str x =>
  have e:(if PyData.strOk x then some (PyData.str x) else none)=some d:=e
  by_cases h:PyData.strOk x=true
  ·rw [if_pos h] at e;cases e;obtain ⟨t,rfl,_⟩:=r.str_;exact ⟨⟨_,.str _ _⟩,h,Nat.zero_le _⟩
  ·rw [if_neg h] at e;exact nos e
 | _=>exact nos e
theorem jY {n:Nat} (h:∀ {v:AV} {c:Value} {d:PyData},toD hp n v=some d→VR X μ s.heap v c→DR s.heap n c d) {xs:List AV}:∀ {vs:List Value} {ds:List PyData},yd (toD hp n) xs=some ds→VRs X μ s.heap xs vs→DRs s.heap n vs ds:=by
 induction xs with
 | nil=>intro vs ds e r;cases e;rw [r.nil_];exact ⟨⟨_,.nil⟩,rfl,Nat.zero_le _⟩
 | cons x xs ih =>
  intro vs ds e r
  obtain ⟨y,ys,e1,e2,rfl⟩:=wq e
  obtain ⟨v,ws,rfl,a,q⟩:=r.cons_
  obtain ⟨⟨as,ra⟩,c,dp⟩:=h e1 a
  obtain ⟨⟨bs,rb⟩,c',dp'⟩:=ih e2 q
  exact ⟨⟨_,.cons ra rb⟩,Bool.and_eq_true_iff.mpr ⟨c,c'⟩,Nat.max_le.mpr ⟨dp,dp'⟩⟩
theorem qq (I:Inv X μ hp s) (n:Nat):∀ {v:AV} {c:Value} {d:PyData},toD hp n v=some d→VR X μ s.heap v c→DR s.heap n c d:=by
 induction n with
 | zero=>intro v c d e r;exact ZZ e r
 | succ n ih =>
  intro v c d e r
  have e:(match xh v with
   | some a=>(match y7 hp a with
    | some xs=>(yd (toD hp n) xs).map PyData.list
    | none=>none)
   | none=>(match ZL v with
    | some xs=>(yd (toD hp n) xs).map PyData.tuple
    | none=>WG v))=some d:=e
  cases q:xh v with
  | none =>
   rw [q] at e
   have e:(match ZL v with
    | some xs=>(yd (toD hp n) xs).map PyData.tuple
    | none=>WG v)=some d:=e
   cases qt:ZL v with
   | none=>rw [qt] at e;exact ZZ e r
   | some xs =>
    rw [qt] at e
    have:=QJ qt;subst this
    obtain ⟨ds,e',rfl⟩:=yC e
    obtain ⟨b,items,rfl,⟨o,ho,hc,m,hd⟩,_,rs⟩:=r.tup_
    obtain ⟨⟨as,ra⟩,c,dp⟩:=jY ih e' rs
    exact ⟨⟨_,.tuple ho hc hd ra⟩,c,Nat.succ_le_succ dp⟩
  | some a =>
   have:=xY q;subst this
   have e:(match y7 hp a with
    | some xs=>(yd (toD hp n) xs).map PyData.list
    | none=>none)=some d:=e
   cases ql:y7 hp a with
   | none=>rw [ql] at e;exact nos e
   | some xs =>
    rw [ql] at e
    obtain ⟨ds,e',rfl⟩:=yC e
    obtain ⟨b,items,m,rfl,_,l,_,rs⟩:=I.list_at r (xu ql)
    obtain ⟨⟨as,ra⟩,c,dp⟩:=jY ih e' rs
    exact ⟨⟨_,.list l rfl rfl ra⟩,c,Nat.succ_le_succ dp⟩
end
section
variable {prog:Program} {w:World} {X:Cx} {μ:Mu} {hp hp':Hp} {s:Shared} {A:Around} {E:Value→Shared→Prop} {n:Nat} {l:List Env} {Q:Value→Shared→Prop}
theorem Room.units' (R:Room n A l):A.units+200<cLine:=Nat.lt_of_le_of_lt (Nat.le_trans (Nat.add_le_add_left (show 200≤100 * n+300 from Nat.le_add_left_of_le (by decide)) _) (Nat.le_of_eq (Nat.add_assoc _ _ _).symm)) R.units
theorem z1m:small=1048576:=rfl
theorem yY {k:Nat} (h:k≤small):k≤sizeLine:=Nat.le_trans h (by decide)
theorem QZ {k:Nat} (h:k≤small):(k:Int)<2 ^ 63:=Int.lt_of_le_of_lt (Int.ofNat_le.mpr h) (by decide)
theorem qr (I:Inv X μ hp s) {v:AV} {c:Value} {xs:List AV} (e:ji hp v=some xs) (r:VR X μ s.heap v c) :
  ∃ a items,c=.ref a∧s.heap.IsList a items∧xs.length≤small∧VRs X μ s.heap xs items.toList:=by
 cases v with
 | lst ys =>
  cases e
  obtain ⟨a,items,rfl,⟨o,ho,q⟩,z,rs⟩:=r.lst_
  exact ⟨_,_,rfl,⟨o,I.keep _ _ ho,q⟩,z,rs⟩
 | ref a =>
  obtain ⟨d,items,m,rfl,_,l,z,rs⟩:=I.list_at r (xu e)
  exact ⟨_,_,rfl,l.isList,z,rs⟩
 | _=>exact nos e
theorem wD {v:AV} {c:Value} {b:Bool} {Q:Bool→Shared→Prop} (e:qE hp v=some b) (I:Inv X μ hp s) (r:VR X μ s.heap v c)
  (k:∀ t,Q b { s with toks:=t }):wpAny (model prog w) A (truthy c) Q E s:=by
 cases v with
 | none=>cases e;rw [r.none_];exact PyProof.Rows.truthy_none (k s.toks)
 | bool b=>cases e;rw [r.bool_];exact wpAny_truthy_bool (k s.toks)
 | int i =>
  cases e
  obtain ⟨t,rfl⟩:=r.int_
  refine P.truthy_int ?_
  have q:(i != 0)=decide (i≠0):=by
   by_cases h:i=0
   ·rw [h];rfl
   ·rw [decide_eq_true h];exact bne_iff_ne.mpr h
  rw [q];exact k s.toks
 | _=>exact nos e
theorem XA {a b:AV} {c d:Value} {r:Bool} (e:isA a b=some r) (ra:VR X μ s.heap a c) (rb:VR X μ s.heap b d):plainIs c d=true∧(c == d)=r:=by
 cases b with
 | none =>
  rw [rb.none_]
  cases a with
  | none=>cases e;rw [ra.none_];exact ⟨rfl,rfl⟩
  | bool x=>cases e;rw [ra.bool_];exact ⟨rfl,rfl⟩
  | int x=>cases e;obtain ⟨t,rfl⟩:=ra.int_;exact ⟨rfl,rfl⟩
  | ref x=>cases e;obtain ⟨t,_,rfl⟩:=ra.ref_;exact ⟨rfl,rfl⟩
  | str x=>cases e;obtain ⟨t,rfl,_⟩:=ra.str_;exact ⟨rfl,rfl⟩
  | tup xs=>cases e;obtain ⟨a,_,rfl,_⟩:=ra.tup_;exact ⟨rfl,rfl⟩
  | _=>exact nos e
 | bool y =>
  rw [rb.bool_]
  obtain ⟨x,hx,rfl⟩:=yC e
  rw [XK hx] at ra
  rw [ra.bool_]
  exact ⟨rfl,by cases x <;> cases y <;> rfl⟩
 | _=>exact nos e
theorem XV {a b:AV} {c d:Value} {r:Bool} (e:aEq hp a b=some r) (R:Room n A l) (I:Inv X μ hp s) (ra:VR X μ s.heap a c) (rb:VR X μ s.heap b d) :
  ∃ x y as bs,Reads s.heap c x as∧Reads s.heap d y bs∧x.canLay0=true∧y.canLay0=true∧A.units+min x.depth y.depth<cLine∧PyData.eqv x y=r:=by
 obtain ⟨x,hx,e⟩:=zf e
 obtain ⟨y,hy,rfl⟩:=yC e
 obtain ⟨⟨as,r1⟩,c1,d1⟩:=qq I _ hx ra
 obtain ⟨⟨bs,r2⟩,c2,d2⟩:=qq I _ hy rb
 exact ⟨x,y,as,bs,r1,r2,c1,c2,Nat.lt_of_le_of_lt (Nat.add_le_add_left (Nat.le_trans (Nat.min_le_left _ _) (Nat.le_trans d1 (by decide))) _) R.units',rfl⟩
theorem wT {p:Int→Int→Bool} {a b:AV} {c d:Value} {r:Bool} (e:z3k p a b=some r) (ra:VR X μ s.heap a c) (rb:VR X μ s.heap b d):∃ i j t u,c=.int i t∧d=.int j u∧p i j=r:=by
 obtain ⟨i,hi,e⟩:=zf e
 obtain ⟨j,hj,rfl⟩:=yC e
 have:=yg hi;subst this
 have:=yg hj;subst this
 obtain ⟨t,rfl⟩:=ra.int_
 obtain ⟨u,rfl⟩:=rb.int_
 exact ⟨_,_,_,_,rfl,rfl,rfl⟩
theorem WA {a b:AV} {c d:Value} {r neg:Bool} {Q:Value→Shared→Prop} (e:inA hp a b=some r) (I:Inv X μ hp s) (ra:VR X μ s.heap a c) (rb:VR X μ s.heap b d)
  (k:∀ t,Q (.bool (bif neg then !r else r)) { s with toks:=t }):wpAny (model prog w) A (compareOp (bif neg then .NotIn else .In) c d) Q E s:=by
 have e:(match xh b with
  | some d=>(xj a).bind fun k=>(xy hp d).map fun kvs=>(ZG kvs k).isSome
  | none=>(xg a).bind fun x=>(xg b).map fun y=>Txt.contains y x)=some r:=e
 cases hb:xh b with
 | some q =>
  rw [hb] at e
  obtain ⟨i,hi,e⟩:=zf e
  obtain ⟨kvs,h2,rfl⟩:=yC e
  rw [yg hi] at ra
  rw [xY hb] at rb
  obtain ⟨t,rfl⟩:=ra.int_
  obtain ⟨d',es,rfl,_,m,p,z,_⟩:=I.dict_at rb (jz h2) prog w
  have hk:(intKind prog w).is i (.int i t)=true:=by show Value.isInt i (.int i t)=true;simp [Value.isInt]
  rw [← p.isSome] at k
  cases neg with
  | false=>exact wpAny_in_of hk z m.mapOf (k _)
  | true=>exact wpAny_notIn_of hk z m.mapOf (k _)
 | none =>
 rw [hb] at e
 obtain ⟨x,hx,e⟩:=zf e
 obtain ⟨y,hy,rfl⟩:=yC e
 rw [xq hx] at ra
 rw [xq hy] at rb
 obtain ⟨t,rfl,_⟩:=ra.str_
 obtain ⟨u,rfl,_⟩:=rb.str_
 cases neg with
 | false=>exact SB.contains (k s.toks)
 | true=>exact SB.notContains (k s.toks)
theorem jJ {op:CmpOp} {a b:AV} {c d:Value} {r:Bool} {Q:Value→Shared→Prop} (e:xQ op a b hp=some r) (R:Room n A l) (I:Inv X μ hp s) (ra:VR X μ s.heap a c) (rb:VR X μ s.heap b d)
  (k:∀ t,Q (.bool r) { s with toks:=t }):wpAny (model prog w) A (compareOp op c d) Q E s:=by
 have k0:=k s.toks
 cases op with
 | Eq =>
  obtain ⟨x,y,as,bs,r1,r2,c1,c2,d1,rfl⟩:=XV e R I ra rb
  exact SeqAt.compareEq_reads r1 r2 c1 c2 d1 k0
 | NotEq =>
  obtain ⟨r',e',rfl⟩:=yC e
  obtain ⟨x,y,as,bs,r1,r2,c1,c2,d1,rfl⟩:=XV e' R I ra rb
  exact SeqAt.compareNe_reads r1 r2 c1 c2 d1 k0
 | Lt=>obtain ⟨i,j,t,u,rfl,rfl,rfl⟩:=wT e ra rb;exact P.lt_int k0
 | LtE=>obtain ⟨i,j,t,u,rfl,rfl,rfl⟩:=wT e ra rb;exact P.le_int k0
 | Gt=>obtain ⟨i,j,t,u,rfl,rfl,rfl⟩:=wT e ra rb;exact P.gt_int k0
 | GtE=>obtain ⟨i,j,t,u,rfl,rfl,rfl⟩:=wT e ra rb;exact P.ge_int k0
 | Is =>
  obtain ⟨p,q⟩:=XA e ra rb
  exact wpAny_is_plain p (by rw [q];exact k0)
 | IsNot =>
  obtain ⟨r',e',rfl⟩:=yC e
  obtain ⟨p,q⟩:=XA e' ra rb
  exact wpAny_isNot_plain p (by rw [q];exact k0)
 | In=>exact WA (neg:=false) e I ra rb k
 | NotIn =>
  obtain ⟨r',e',rfl⟩:=yC e
  exact WA (neg:=true) e' I ra rb k
end
section
variable {prog:Program} {w:World} {X:Cx} {μ:Mu} {hp hp':Hp} {s:Shared} {A:Around} {E:Value→Shared→Prop} {n:Nat} {l:List Env} {Q:Value→Shared→Prop}
theorem xm (h:Heap):h.get? h.objs.size=none:=by
 cases q:h.get? h.objs.size with
 | none=>rfl
 | some o=>exact absurd (Heap.lt_size q) (Nat.lt_irrefl _)
theorem jL {c:Addr} {b:Addr} (hb:b∈ads (c,none)):b=c:=by
 cases hb with
 | head=>rfl
 | tail _ h=>cases h
theorem jt (μ:Mu) (p:Addr×Option Addr) {k:Nat} (hk:μ.length=k):(μ++[p])[k]? = some p:=by
 subst hk
 rw [List.getElem?_append_right (Nat.le_refl _),Nat.sub_self];rfl
theorem PE.listNew {xs:List AV} (k:PE X μ s (.ref hp.length) (hp++[.list xs]) Q) (I:Inv X μ hp s) {items:Array Value} {t j:Nat} {h':Heap} (z:xs.length≤small)
  (hk:∀ b o,s.heap.get? b=some o→h'.get? b=some o) (hl:h'.get? s.heap.objs.size=some { cls:=.type "list",dict:=none,data:=.seq items j,slots:=#[] }) (r:VRs X μ h' xs items.toList) :
  Q (.ref s.heap.objs.size) { s with heap:=h',toks:=t }:=by
 obtain ⟨I',a⟩:=I.new (t:=t) (p:=(s.heap.objs.size,none)) (o:=.list xs) hk (fun b hb=>by rw [jL hb];exact xm _) (List.nodup_cons.mpr ⟨List.not_mem_nil,List.nodup_nil⟩) (.list (n:=j) hl z (r.mono (List.prefix_append _ _) fun _ _ e _=>e))
 exact k _ _ _ a I' (.ref (jt μ _ I.len))
theorem PE.list {xs:List AV} (k:PE X μ s (.ref hp.length) (hp++[.list xs]) Q) (I:Inv X μ hp s) {items:Array Value} {t j:Nat} (z:xs.length≤small) (r:VRs X μ s.heap xs items.toList) :
  Q (.ref s.heap.objs.size) { s with heap:=s.heap.push { cls:=.type "list",data:=.seq items j },toks:=t } :=
 k.listNew I z (fun b o e=>Heap.get?_push_of_some _ e) (Heap.get?_push_size _ rfl) (r.mono (List.prefix_refl _) fun b o e _=>Heap.get?_push_of_some _ e)
theorem QF {a:Int} (h:a.natAbs<2 ^ 63):-(2 ^ 63)≤a∧a<2 ^ 63:=by
 have h:((a.natAbs:Nat):Int)<2 ^ 63:=Int.ofNat_lt.mpr h
 exact ⟨Int.neg_le_of_neg_le (Int.le_trans (by rw [← Int.natAbs_neg];exact Int.le_natAbs) (Int.le_of_lt h)),Int.lt_of_le_of_lt Int.le_natAbs h⟩
theorem z3n {i:Int} (h:i.natAbs<2 ^ 63):Builtin.Int.intBits i≤64:=PySem.intBits_le_64 (Int.lt_of_lt_of_le (by decide) (QF h).1) (Int.lt_trans (QF h).2 (by decide))
theorem Jd {k:Int} (h:k<4611686018427387904):k<2 ^ 63:=Int.lt_of_lt_of_le h (by decide)
theorem zJ4 {k:Int} (h:0≤k):-(2 ^ 63)≤k:=Int.le_trans (by decide) h
theorem zJd {j:Int} (h0:0≤j) (h1:j<4611686018427387904):fitsSsize j=true:=by
 unfold fitsSsize
 rw [decide_eq_false (Int.not_lt.mpr (zJ4 h0)),decide_eq_false (Int.not_le.mpr (Jd h1))];rfl
theorem zJe {i:Int} (h0:0≤i) (h1:i<4611686018427387904):¬(!Builtin.List.listFitsIndex i)=true:=by
 rw [fitsIndex_of h0 (Jd h1)];exact Bool.false_ne_true
theorem z0p {op:Operator} {a b:AV} {c d:Value} (I:Inv X μ hp s) (ra:VR X μ s.heap a c) (rb:VR X μ s.heap b d)
  (k:PO X l μ s (QC op a b hp) Q E):wpAny (model prog w) A (binaryOp op c d) Q E s:=by
 have k:PO X l μ s (match xh a with
  | some a=>Mine.ofP (z2n op a b hp)
  | none=>Out.of (match xg a with
   | some x=>(xg b).bind fun y=>z14 op x y
   | none=>(xj a).bind fun i=>(xj b).bind fun j=>(zJi op i j).map AV.int) hp) Q E:=k
 cases hr:xh a with
 | some x =>
  rw [hr] at k
  obtain ⟨v,hp',e,k⟩:=k.ofP
  have k:PE X μ s v hp' Q:=k
  rw [xY hr] at ra
  cases op with
  | Add =>
   obtain ⟨xs,h2,e⟩:=zf e
   obtain ⟨y,h3,e⟩:=zf e
   obtain ⟨ys,h4,e⟩:=zf e
   obtain ⟨z,e⟩:=zr e
   cases e
   rw [xY h3] at rb
   obtain ⟨d1,it1,m1,rfl,_,l1,_,r1⟩:=I.list_at ra (xu h2)
   obtain ⟨d2,it2,m2,rfl,_,l2,_,r2⟩:=I.list_at rb (xu h4)
   exact P.add_list l1 l2 (k.list I (by rw [zX];exact z) (by rw [Array.toList_append];exact r1.app r2)) (by rw [r1.size,r2.size];exact yY z)
  | _=>exact nos e
 | none =>
 rw [hr] at k
 obtain ⟨v,e0,k⟩:=k.of
 have k:PE X μ s v hp Q:=k
 cases hs:xg a with
 | some x =>
  rw [hs] at e0
  obtain ⟨y,hy,e1⟩:=zf e0
  clear e0
  rw [xq hs] at ra
  rw [xq hy] at rb
  obtain ⟨t,rfl,_⟩:=ra.str_
  obtain ⟨u,rfl,_⟩:=rb.str_
  cases op with
  | Add =>
   obtain ⟨h,rfl⟩:=zr e1
   exact SB.add (fun t' j=>k.tok I (.str _ (by rw [Str.length_append];exact h))) (yY h)
  | _=>exact nos e1
 | none =>
 rw [hs] at e0
 obtain ⟨i,hi,e2⟩:=zf e0
 clear e0
 obtain ⟨j,hj,e3⟩:=zf e2
 clear e2
 obtain ⟨m,e,rfl⟩:=yC e3
 clear e3
 rw [yg hi] at ra
 rw [yg hj] at rb
 obtain ⟨t,rfl⟩:=ra.int_
 obtain ⟨u,rfl⟩:=rb.int_
 have kk:∀ (u:Tok) (t:Nat),Q (.int m u) { s with toks:=t }:=fun u t=>k.tok I (.int _ _)
 cases op with
 | Add=>cases e;exact P.add_int (kk _ _)
 | Sub=>cases e;exact P.sub_int (kk _ _)
 | Mult =>
  obtain ⟨h,rfl⟩:=zr e
  refine P.mul_int (kk _ _) ?_
  rcases h with h | h
  ·exact .of_left (z3n h)
  ·exact .of_right (z3n h)
 | FloorDiv =>
  obtain ⟨h,rfl⟩:=zr e
  exact PySem.AutoIntOps.floordiv_1 (fun q=>h.1 (by simpa using q)) (by rw [PyProof.noPylong_small h.2];exact Bool.false_ne_true) (kk _ _)
 | Mod =>
  have e:(if j=0 then none else some (i.fmod j))=some m:=e
  by_cases h:j=0
  ·rw [if_pos h] at e;exact nos e
  ·rw [if_neg h] at e;cases e
   exact PySem.AutoIntOps.mod_1 (fun q=>h (by simpa using q)) (kk _ _)
 | Pow =>
  have e:(if i=10∧j=12 then some 1000000000000 else if i=10∧j=9 then some 1000000000 else none)=some m:=e
  have pw:∀ {j m:Int},j > 0→¬Builtin.Int.intTooBig (((Builtin.Int.intBits 10:Nat):Int) * j)=true→(10:Int) ^ j.toNat=m→(∀ (u:Tok) (t:Nat),Q (.int m u) { s with toks:=t })→wpAny (model prog w) A (binaryOp .Pow (.int 10 t) (.int j u)) Q E s:=fun {j m} h1 h2 h3 kk =>
   PySem.AutoIntOps.pow_4 (Int.le_of_lt h1) (fun q=>absurd (eq_of_beq q) (Int.ne_of_gt h1)) (by decide) (by decide) h2 (h3▸kk _ _)
  by_cases h:i=10∧j=12
  ·rw [if_pos h] at e;cases e;obtain ⟨rfl,rfl⟩:=h
   exact pw (by decide) (by decide +kernel) (by decide +kernel) kk
  ·rw [if_neg h] at e
   obtain ⟨h,rfl⟩:=zr e
   obtain ⟨rfl,rfl⟩:=h
   exact pw (by decide) (by decide +kernel) (by decide +kernel) kk
 | _=>exact nos e
noncomputable def zJj (s:Shared) (c:Value):Prop:=∃ T id,s.TypeIs c T∧typeLookup (.type T) "__getitem__" = pure (some (.builtin id))
theorem Y9 {k:Int} {len:Nat} (h0:0≤k) (h:k.toNat<len):seqIndex? k len=some k.toNat:=by
 show (if (decide (0≤(if k<0 then k+(len:Int) else k)) && decide ((if k<0 then k+(len:Int) else k)<(len:Int)))=true then some (if k<0 then k+(len:Int) else k).toNat else none)=_
 rw [if_neg (Int.not_lt.mpr h0),decide_eq_true h0,decide_eq_true ((Int.toNat_lt h0).mp h)];rfl
theorem z0h {o i v:AV} {c d:Value} (e:we hp o i=some v) (I:Inv X μ hp s) (ro:VR X μ s.heap o c) (ri:VR X μ s.heap i d) (k:PE X μ s v hp Q) :
  zJj s c∧wpAny (model prog w) A (getItem c d) Q E s:=by
 obtain ⟨j,hj,e1⟩:=zf e
 clear e
 rw [yg hj] at ri
 obtain ⟨t,rfl⟩:=ri.int_
 by_cases h:okI j=true
 case neg =>
  have e1:(if okI j=true then _ else none)=some v:=e1
  rw [if_neg h] at e1
  cases e1
 rw [if_pos h] at e1
 have e:=e1
 clear e1
 obtain ⟨h0,h1⟩:=qH.mp h
 cases hs:xg o with
 | some x =>
  rw [hs] at e
  obtain ⟨ch,hc,rfl⟩:=yC e
  rw [xq hs] at ro
  obtain ⟨u,rfl,_⟩:=ro.str_
  have hlt:=(Array.getElem?_eq_some_iff.mp hc).1
  have e0:seqIndex? j x.length=some j.toNat:=Y9 h0 hlt
  have e2:Txt.charAt x j=some ch:=by unfold Txt.charAt;rw [e0];exact hc
  refine ⟨⟨_,_,typeIs_str _ _ _,F.slot_str_getitem.lookup⟩,SB.getItem (zJd h0 h1) (by rw [e2];rfl) ?_⟩
  have e3:Txt.item x j=⟨#[ch]⟩:=by unfold Txt.item;rw [e2];rfl
  rw [e3]
  exact k.tok I (.str _ (show 1≤small by decide))
 | none =>
  rw [hs] at e
  have e:(match ZL o with
   | some xs=>xs[j.toNat]?
   | none=>(ji hp o).bind fun xs=>xs[j.toNat]?)=some v:=e
  cases ht:ZL o with
  | some xs =>
   rw [ht] at e
   rw [QJ ht] at ro
   obtain ⟨a,items,rfl,hT,z,r⟩:=ro.tup_
   obtain ⟨x,hx,rx⟩:=r.get e
   have hlt:j.toNat<items.size:=by rw [← Array.length_toList];exact (yj hx).1
   obtain ⟨o',ho,hc,m,hd⟩:=hT
   exact ⟨⟨_,_,⟨o',ho,hc⟩,F.slot_tuple_getitem.lookup⟩,PyProof.Rows.getItem_tuple ⟨o',ho,hc,m,hd⟩ (zJ4 h0) (Jd h1) (Y9 h0 hlt) (by rw [← Array.getElem?_toList];exact hx) (k.here I rx)⟩
  | none =>
  rw [ht] at e
  obtain ⟨xs,hs,e⟩:=zf e
  obtain ⟨a,items,rfl,l,z,r⟩:=qr I hs ro
  obtain ⟨x,hx,rx⟩:=r.get e
  exact ⟨⟨_,_,l.typeIs,list_getitem_lookup⟩,wpAny_getItem_list l h0 (Jd h1) (by rw [← Array.getElem?_toList];exact hx) (k.here I rx)⟩
theorem Q9 (a n:Nat):max 0 (min (if (a:Int)<0 then (a:Int)+(n:Int) else (a:Int)) (n:Int))=((min a n:Nat):Int):=by
 rw [if_neg (Int.not_lt.mpr (Int.natCast_nonneg a)),Int.max_eq_right (Int.le_min.mpr ⟨Int.natCast_nonneg _,Int.natCast_nonneg _⟩)]
 rcases Nat.le_total a n with h | h
 ·rw [Nat.min_eq_left h,Int.min_eq_left (Int.ofNat_le.mpr h)]
 ·rw [Nat.min_eq_right h,Int.min_eq_right (Int.ofNat_le.mpr h)]
theorem QQ {x y n:Nat} (hx:x≤n) (hy:y≤n) (h:x - y=n):(y=0∧x=n)∨n=0:=by
 cases y with
 | zero=>exact .inl ⟨rfl,h⟩
 | succ y =>
  cases n with
  | zero=>exact .inr rfl
  | succ n=>exact absurd (Nat.le_trans (Nat.le_of_eq h.symm) (Nat.sub_le_sub_right hx (y+1))) (Nat.not_le.mpr (Nat.sub_lt (Nat.succ_pos n) (Nat.succ_pos y)))
theorem J2 {α:Type} (xs:List α) (n:Nat) (hn:xs.length=n) (lo hi:Option Nat) :
  ∃ a b:Nat,sliceBounds (lo.map Int.ofNat) (hi.map Int.ofNat) none n=((a:Int),(b:Int),1)∧(xs.drop a).take (b - a)=Zn xs (lo.getD 0) hi∧b≤n∧(b - a=n→(a=0∧b=n)∨n=0):=by
 subst hn
 have dm:∀ a:Nat,xs.drop (min a xs.length)=xs.drop a:=fun a=>by
  rcases Nat.le_total a xs.length with h | h
  ·rw [Nat.min_eq_left h]
  ·rw [Nat.min_eq_right h,List.drop_of_length_le (Nat.le_refl _),List.drop_of_length_le h]
 have tm:∀ b:Nat,xs.take (min b xs.length)=xs.take b:=fun b=>by rw [List.take_eq_take_iff,Nat.min_assoc,Nat.min_self]
 cases lo with
 | none =>
  cases hi with
  | none=>exact ⟨0,xs.length,rfl,List.take_length,Nat.le_refl _,fun _=>.inl ⟨rfl,rfl⟩⟩
  | some b=>exact ⟨0,min b xs.length,congrArg (fun x:Int=>((0:Int),x,(1:Int))) (Q9 b _),by
    show (xs.drop 0).take (min b xs.length - 0)=(xs.take b).drop 0
    rw [List.drop_zero,List.drop_zero,Nat.sub_zero,tm],Nat.min_le_right _ _,fun h=>.inl ⟨rfl,h⟩⟩
 | some a =>
  cases hi with
  | none=>exact ⟨min a xs.length,xs.length,congrArg (fun x:Int=>(x,(xs.length:Int),(1:Int))) (Q9 a _),by
    show (xs.drop (min a xs.length)).take (xs.length - min a xs.length)=xs.drop a
    rw [dm,List.take_of_length_le (by rw [← dm a,List.length_drop];exact Nat.le_refl _)],Nat.le_refl _,fun h=>QQ (Nat.le_refl _) (Nat.min_le_right _ _) h⟩
  | some b=>exact ⟨min a xs.length,min b xs.length,congr (congrArg (fun x y:Int=>(x,y,(1:Int))) (Q9 a _)) (Q9 b _),by
    show (xs.drop (min a xs.length)).take (min b xs.length - min a xs.length)=(xs.take b).drop a
    rw [← List.drop_take,tm]
    rcases Nat.le_total a xs.length with h | h
    ·rw [Nat.min_eq_left h]
    ·rw [Nat.min_eq_right h,List.drop_of_length_le (List.length_take_le' _ _),List.drop_of_length_le (Nat.le_trans (List.length_take_le' _ _) h)],Nat.min_le_right _ _,fun h=>QQ (Nat.min_le_right _ _) (Nat.min_le_right _ _) h⟩
theorem z28 (items:Array Value) (lo hi:Option Nat):slicePick items (lo.map Int.ofNat) (hi.map Int.ofNat) none=(Zn items.toList (lo.getD 0) hi).toArray:=by
 obtain ⟨a,b,e,q,_⟩:=J2 items.toList items.size Array.length_toList lo hi
 unfold slicePick
 rw [e]
 show (List.filterMap (items[·]?) (sliceRange (a:Int) (b:Int) 1)).toArray=_
 rw [sliceRange_one,pick_run,q]
theorem Zb {v:AV} {c:Value} {o:Option Nat} {μ:Mu} {h:Heap} (e:qA v=some o) (r:VR X μ h v c):IsPart c (o.map Int.ofNat):=by
 cases v with
 | none=>cases e;rw [r.none_];exact .none
 | int k =>
  obtain ⟨h,rfl⟩:=zr (show (if okI k then some (some k.toNat) else none)=some o from e)
  obtain ⟨t,rfl⟩:=r.int_
  have:(Option.map Int.ofNat (some k.toNat))=some k:=by show some ((k.toNat:Nat):Int)=_;rw [Int.toNat_of_nonneg (qH.mp h).1]
  rw [this];exact .int _ _
 | _=>exact nos e
theorem Yc {α:Type} (xs:List α) (a:Nat) (b:Option Nat):(Zn xs a b).length≤xs.length:=by
 cases b with
 | some u=>exact Nat.le_trans (Nat.le_trans (Nat.le_of_eq List.length_drop) (Nat.sub_le _ _)) (List.length_take_le' _ _)
 | none=>exact Nat.le_trans (Nat.le_of_eq List.length_drop) (Nat.sub_le _ _)
theorem VRs.cut {μ:Mu} {h:Heap} {xs:List AV} {vs:List Value} (r:VRs X μ h xs vs) (a:Nat) (b:Option Nat):VRs X μ h (Zn xs a b) (Zn vs a b):=by
 cases b with
 | some _=>exact (r.take _).drop _
 | none=>exact r.drop _
theorem z0m {o lo' u:AV} {c lv uv:Value} {sl:Addr} (I:Inv X μ hp s) (ro:VR X μ s.heap o c) (rl:VR X μ s.heap lo' lv) (ru:VR X μ s.heap u uv)
  (hs:s.heap.IsSliceOf sl lv uv .none) (k:PO X l μ s (z3f hp o lo' u) Q E):zJj s c∧wpAny (model prog w) A (getItem c (.ref sl)) Q E s:=by
 obtain ⟨v,hp',e,k⟩:=k.ofP
 have k:PE X μ s v hp' Q:=k
 obtain ⟨lo,hl,e1⟩:=zf e
 clear e
 obtain ⟨hi,hu,e⟩:=zf e1
 clear e1
 have pl:=Zb hl rl
 have pu:=Zb hu ru
 obtain ⟨xs,hx,e1⟩:=zf e
 clear e
 obtain ⟨z,e⟩:=zr e1
 cases e
 obtain ⟨a,items,rfl,li,_,r⟩:=qr I hx ro
 refine ⟨⟨_,_,li.typeIs,list_getitem_lookup⟩,wpAny_getItem_list_slice li hs pl pu .none (by simp) ?_ (by rw [r.size];exact yY z)⟩
 rw [z28]
 exact k.list I (Nat.le_trans (Yc _ _ _) z) (r.cut _ _)
theorem Ja (I:Inv X μ hp s) {a:Nat} {c:Value} {r:Bool} (e:Wr hp a=some r) (rv:VR X μ s.heap (.ref a) c):r=false∧∃ d o,c=.ref d∧s.heap.get? d=some o∧(o.cls=.type "list" ∨ o.cls=.type "dict"):=by
 have e:(match y7 hp a with
  | some _=>some false
  | none=>(xy hp a).map fun _=>false)=some r:=e
 cases hl:y7 hp a with
 | some xs =>
  rw [hl] at e;cases e
  obtain ⟨d,items,m,rfl,_,l,_,_⟩:=I.list_at rv (xu hl)
  exact ⟨rfl,d,_,rfl,l,.inl rfl⟩
 | none =>
  rw [hl] at e
  obtain ⟨kvs,h1,rfl⟩:=yC e
  obtain ⟨p,hp,rfl⟩:=rv.ref_
  have:=I.rep _ _ _ hp (jz h1)
  cases this with
  | dict a b c d =>
   obtain ⟨o,es,ep,ho,hc,_⟩:=a
   exact ⟨rfl,_,o,rfl,ho,.inr hc.1⟩
theorem z0c {v:AV} {t:Bi} {c:Value} {r:Bool} (I:Inv X μ hp s) (e:z2v hp v t=some r) (rv:VR X μ s.heap v c) (k:∀ t,Q (.bool r) { s with toks:=t }) :
  wpAny (model prog w) A (call (.builtin "isinstance") [c,jR t]) Q E s:=by
 have k0:=k s.toks
 have k1:=k (s.toks+1)
 cases t with
 | int =>
  cases v with
  | int i=>cases e;obtain ⟨u,rfl⟩:=rv.int_;exact IsiPair.int_int k0
  | bool b=>cases e;rw [rv.bool_];exact IsiPair.bool_int k0
  | none=>cases e;rw [rv.none_];exact IsiPair.NoneType_int k1
  | str x=>cases e;obtain ⟨u,rfl,_⟩:=rv.str_;exact IsiPair.str_int k1
  | tup xs=>cases e;obtain ⟨a,items,rfl,⟨o,ho,hc,_⟩,_⟩:=rv.tup_;exact IsiPair.tuple_int ho hc k1
  | ref a =>
   obtain ⟨rfl,d,o,rfl,ho,hc | hc⟩:=Ja I e rv
   ·exact IsiPair.list_int ho hc k1
   ·exact IsiPair.dict_int ho hc k1
  | _=>exact nos e
 | bool =>
  cases v with
  | bool b=>cases e;rw [rv.bool_];exact IsiPair.bool_bool k0
  | int i=>cases e;obtain ⟨u,rfl⟩:=rv.int_;exact IsiPair.int_bool k1
  | _=>exact nos e
 | str =>
  cases v with
  | str x=>cases e;obtain ⟨u,rfl,_⟩:=rv.str_;exact IsiPair.str_str k0
  | int i=>cases e;obtain ⟨u,rfl⟩:=rv.int_;exact IsiPair.int_str k1
  | bool b=>cases e;rw [rv.bool_];exact IsiPair.bool_str k1
  | none=>cases e;rw [rv.none_];exact IsiPair.NoneType_str k1
  | ref a =>
   obtain ⟨rfl,d,o,rfl,ho,hc | hc⟩:=Ja I e rv
   ·exact IsiPair.list_str ho hc k1
   ·exact IsiPair.dict_str ho hc k1
  | _=>exact nos e
 | _=>exact nos e
theorem XJ {μ:Mu} {h:Heap} {xs:List AV}:∀ {bs:List Bool} {vs:List Value},qB xs=some bs→VRs X μ h xs vs→vs=bs.map Value.bool:=by
 induction xs with
 | nil=>intro bs vs e r;cases e;exact r.nil_
 | cons x xs ih =>
  intro bs vs e r
  obtain ⟨b,hb,e1⟩:=zf e
  obtain ⟨cs,hc,rfl⟩:=yC e1
  obtain ⟨v,ws,rfl,a,q⟩:=r.cons_
  rw [XK hb] at a
  rw [a.bool_,ih hc q];rfl
theorem z13 {μ:Mu} {h:Heap} {xs:List AV}:∀ {ss:List Str} {vs:List Value},ZN xs=some ss→VRs X μ h xs vs→∃ l:List (Str×Tok),vs=strValues l∧l.map (·.1)=ss:=by
 induction xs with
 | nil=>intro bs vs e r;cases e;exact ⟨[],r.nil_,rfl⟩
 | cons x xs ih =>
  intro bs vs e r
  obtain ⟨b,hb,e1⟩:=zf e
  obtain ⟨cs,hc,rfl⟩:=yC e1
  obtain ⟨v,ws,rfl,a,q⟩:=r.cons_
  rw [xq hb] at a
  obtain ⟨t,rfl,_⟩:=a.str_
  obtain ⟨l,rfl,rfl⟩:=ih hc q
  exact ⟨(b,t)::l,rfl,rfl⟩
theorem Zw {bs:List Bool} {i:Nat} (hi:i<bs.length):bs.getD i false=bs[i]:=by rw [List.getD,yO hi];rfl
theorem Yu (bs:List Bool) (n:Nat) (hn:n=bs.length):(List.range n).all (fun i=>bs.getD i false)=bs.all id:=by
 subst hn
 refine Bool.eq_iff_iff.mpr ⟨fun h=>List.all_eq_true.mpr fun b hb=>?_,fun h=>List.all_eq_true.mpr fun i hi=>?_⟩
 ·obtain ⟨i,hi,rfl⟩:=List.getElem_of_mem hb
  exact (Zw hi).symm.trans (List.all_eq_true.mp h i (List.mem_range.mpr hi))
 ·exact (Zw (List.mem_range.mp hi)).trans (List.all_eq_true.mp h _ (List.getElem_mem _))
theorem Yt (bs:List Bool) (n:Nat) (hn:n=bs.length):(List.range n).any (fun i=>bs.getD i false)=bs.any id:=by
 subst hn
 refine Bool.eq_iff_iff.mpr ⟨fun h=>List.any_eq_true.mpr ?_,fun h=>List.any_eq_true.mpr ?_⟩
 ·obtain ⟨i,hi,h⟩:=List.any_eq_true.mp h
  exact ⟨_,List.getElem_mem (List.mem_range.mp hi),(Zw (List.mem_range.mp hi)).symm.trans h⟩
 ·obtain ⟨b,hb,h⟩:=List.any_eq_true.mp h
  obtain ⟨i,hi,rfl⟩:=List.getElem_of_mem hb
  exact ⟨i,List.mem_range.mpr hi,(Zw hi).trans h⟩
theorem Qx {a:Addr} {items:Array Value} {Q:Value→Shared→Prop} (hh:A.handled=none) (hl:s.heap.IsList a items)
  (k:∀ s₂ it,s₂={ s with heap:=s₂.heap }→(∀ b o,s.heap.get? b=some o→s₂.heap.get? b=some o)→s.heap.get? it=none →
   Walks prog w A it [it,a] [it] items.size (fun i v=>items[i]? = some v) (fun i h=>h.IsListIter it a i∧h.IsList a items)→(s₂.heap.IsListIter it a 0∧s₂.heap.IsList a items)→Q (.ref it) s₂) :
  wpAny (model prog w) A (pyIter (.ref a)) Q E s:=by
 have hlt:a<s.heap.objs.size:=by obtain ⟨_,e,_⟩:=hl;exact Heap.lt_size e
 refine wpAny_pyIter_list hl (k _ _ rfl (fun b o e=>Heap.get?_push_of_some _ e) ?_ (Walks.list hh _ a (Nat.ne_of_lt hlt) items) ⟨⟨_,Heap.get?_push_size _ rfl,rfl,rfl⟩,hl.push _⟩)
 cases q:s.heap.get? s.heap.objs.size with
 | none=>rfl
 | some o=>exact absurd (Heap.lt_size q) (Nat.lt_irrefl _)
theorem QK {items:Array Value} {bs:List Bool} {i:Nat} {v:Value} {s':Shared} {A:Around} {Q:Bool→Shared→Prop} {E:Value→Shared→Prop} (ev:items.toList=bs.map Value.bool) (hP:items[i]? = some v) (hQ:Q (bs.getD i false) s'):wpAny (model prog w) A (truthy v) Q E s':=by
 rw [← Array.getElem?_toList,ev,List.getElem?_map] at hP
 cases hg:bs[i]? with
 | none=>rw [hg] at hP;exact nos hP
 | some b=>rw [hg] at hP;cases hP;rw [List.getD,hg] at hQ;exact wpAny_truthy_bool hQ
theorem Wb (a b:Int):(xK a b).length=(b - a).toNat:=by unfold xK;rw [List.length_map,List.length_range]
theorem YC (a b:Int):Builtin.Range.rangeSize a b 1=((b - a).toNat:Int):=by
 refine (if_pos (by decide)).trans ?_
 rcases Int.lt_or_le a b with h | h
 ·rw [if_pos h,Int.ediv_one,Int.sub_add_cancel,Int.toNat_of_nonneg (Int.sub_nonneg_of_le (Int.le_of_lt h))]
 ·rw [if_neg (Int.not_lt.mpr h),Int.toNat_of_nonpos (Int.sub_nonpos_of_le h)];rfl
theorem qu {a:Int} (h:a.natAbs<2 ^ 63):Builtin.Range.rangeFitsLong a=true:=by
 unfold Builtin.Range.rangeFitsLong
 rw [decide_eq_true (QF h).1,decide_eq_true (QF h).2];rfl
theorem Qd {a b:Int} (h2:a.natAbs<2 ^ 62) (h3:b.natAbs<2 ^ 62):Builtin.Range.small a b 1=true:=by
 have hn:((b - a).toNat:Int).natAbs<2 ^ 63:=by
  rw [Int.natAbs_natCast]
  exact Nat.lt_of_le_of_lt (Nat.le_trans (Int.toNat_le.mpr Int.le_natAbs) (Int.natAbs_sub_le b a)) (Nat.lt_of_lt_of_eq (Nat.add_lt_add h3 h2) (by decide))
 unfold Builtin.Range.small
 rw [YC,qu (Nat.lt_trans h2 (by decide)),qu (Nat.lt_trans h3 (by decide)),qu (a:=1) (by decide),qu hn]
 simp
 exact .inr (qu (Nat.lt_trans h3 (by decide)))
theorem z3w {μ:Mu} {h:Heap} {is:List Int} {vs:List Value} (r:PyProof.Rows.IntsAre vs is):VRs X μ h (is.map AV.int) vs:=by
 induction r with
 | nil=>exact .nil
 | cons n t _ ih=>exact .cons (.int n t) ih
theorem z3r {b:Bi} {args:List AV} {args':List Value} (hn:n≠0) (R:Room n A l) (I:Inv X μ hp s) (ra:VRs X μ s.heap args args') (k:PO X l μ s (qC b args hp) Q E) :
  wpAny (model prog w) A (call (jR b) args') Q E s:=by
 obtain ⟨v,hp',e,k⟩:=k.ofP
 have k:PE X μ s v hp' Q:=k
 cases b with
 | len =>
  obtain ⟨v,h1,e⟩:=zf e
  obtain ⟨m,h2,e⟩:=yC e
  cases e
  rw [xO h1] at ra
  obtain ⟨_,rfl,rv⟩:=ra.one
  have h2:(match xg v with | some x=>some x.length | none=>(ji hp v).map List.length)=some m:=h2
  cases hs:xg v with
  | some x =>
   rw [hs] at h2;cases h2
   rw [xq hs] at rv
   obtain ⟨t,rfl,z⟩:=rv.str_
   exact P.len_str (Int.not_le.mpr (QZ z)) (k.tok I (.int _ _))
  | none =>
  rw [hs] at h2
  obtain ⟨xs,hx,rfl⟩:=yC h2
  obtain ⟨a,items,rfl,l,z,r⟩:=qr I hx rv
  refine Calls.call_len_list l (by rw [r.size];exact QZ z) ?_
  rw [r.size];exact k.tok I (.int _ _)
 | «isinstance» =>
  obtain ⟨p,h1,e⟩:=zf e
  obtain ⟨t,h2,e⟩:=zf e
  obtain ⟨m,h3,e⟩:=yC e
  cases e
  rw [wg h1] at ra
  obtain ⟨_,_,rfl,rv,rt⟩:=ra.two
  rw [z5o h2] at rt
  rw [rt.bi_]
  exact z0c I h3 rv fun t=>k.tok I (.bool _)
 | int=>exact nos e
 | min =>
  obtain ⟨p,h1,e⟩:=zf e
  obtain ⟨i,h2,e⟩:=zf e
  obtain ⟨j,h3,e⟩:=yC e
  cases e
  rw [wg h1] at ra
  obtain ⟨_,_,rfl,r1,r2⟩:=ra.two
  rw [yg h2] at r1
  rw [yg h3] at r2
  obtain ⟨t,rfl⟩:=r1.int_
  obtain ⟨u,rfl⟩:=r2.int_
  refine min_two_ints (R.handled hn) fun h' tk hk=>?_
  have:(if j<i then Value.int j u else Value.int i t)=.int (if j<i then j else i) (if j<i then u else t):=by split <;> rfl
  rw [this]
  exact k _ μ _ (.grow hk) (I.grow hk) (.int _ _)
 | max =>
  obtain ⟨p,h1,e⟩:=zf e
  obtain ⟨i,h2,e⟩:=zf e
  obtain ⟨j,h3,e⟩:=yC e
  cases e
  rw [wg h1] at ra
  obtain ⟨_,_,rfl,r1,r2⟩:=ra.two
  rw [yg h2] at r1
  rw [yg h3] at r2
  obtain ⟨t,rfl⟩:=r1.int_
  obtain ⟨u,rfl⟩:=r2.int_
  refine max_two_ints (R.handled hn) fun h' tk hk=>?_
  have:(if j > i then Value.int j u else Value.int i t)=.int (if i<j then j else i) (if j > i then u else t):=by
   show (if i<j then _ else _)=Value.int (if i<j then j else i) (if i<j then u else t)
   split <;> rfl
  rw [this]
  exact k _ μ _ (.grow hk) (I.grow hk) (.int _ _)
 | range =>
  obtain ⟨v,h1,e⟩:=zf e
  obtain ⟨i,h2,e⟩:=zf e
  obtain ⟨h,e⟩:=zr e
  cases e
  rw [xO h1] at ra
  obtain ⟨_,rfl,rv⟩:=ra.one
  rw [yg h2] at rv
  obtain ⟨t,rfl⟩:=rv.int_
  exact call_range_1 (k _ μ _ (.grow fun b o e=>Heap.get?_push_of_some _ e) (I.grow fun b o e=>Heap.get?_push_of_some _ e) (.range (IsRange.new ..) (by decide) h))
 | list =>
  obtain ⟨v,h1,e⟩:=zf e
  obtain ⟨a,h2,e⟩:=zf e
  rw [xO h1] at ra
  obtain ⟨_,rfl,rv⟩:=ra.one
  rw [xY h2] at rv
  obtain ⟨xs,h3,e⟩:=zf e
  obtain ⟨z,e⟩:=zr e
  cases e
  obtain ⟨d,items,m,rfl,_,l,_,r⟩:=I.list_at rv (xu h3)
  exact call_list_seq _ (.inl rfl) l rfl rfl (fun h' c' hk hg=>k.listNew I z hk hg (r.mono (List.prefix_refl _) fun b o e _=>hk b o e)) (by rw [r.size];exact yY z)
 | sorted =>
  obtain ⟨v,h1,e⟩:=zf e
  obtain ⟨a,h2,e⟩:=zf e
  rw [xO h1] at ra
  obtain ⟨_,rfl,rv⟩:=ra.one
  rw [xY h2] at rv
  obtain ⟨kvs,hd,e⟩:=zf e
  obtain ⟨⟨z1,z2⟩,e⟩:=zr e
  cases e
  obtain ⟨d',es,rfl,_,m,p,z,zl⟩:=I.dict_at rv (jz hd) prog w
  refine QU z m (R.handled hn) (by rw [← p.len];exact z1) fun D h' tk vs n ns hk hn hg hi hp1 hp2=>?_
  rw [p.keys] at hp1
  have e1:=List.Perm.eq_of_pairwise (fun a b _ _ h1 h2=>Int.le_antisymm h1 h2) hp2 z2 hp1
  subst e1
  have:=z3w (X:=X) (μ:=μ++[(D,none)]) (h:=h') hi
  rw [List.map_map] at this
  obtain ⟨I',a⟩:=I.new (h':=h') (t:=tk) (p:=(D,none)) (o:=.list (kvs.map fun (p:Int×AV)=>AV.int p.1)) hk (fun b hb=>by rw [jL hb];exact hn) (List.nodup_cons.mpr ⟨List.not_mem_nil,List.nodup_nil⟩) (.list (n:=n) hg (by rw [List.length_map];exact zl) this)
  exact k _ _ _ a I' (.ref (jt μ _ I.len))
 | any =>
  obtain ⟨v,h1,e⟩:=zf e
  obtain ⟨xs,hx,e⟩:=zf e
  obtain ⟨bs,hb,e⟩:=yC e
  cases e
  rw [xO h1] at ra
  obtain ⟨_,rfl,rv⟩:=ra.one
  obtain ⟨a,items,rfl,hl,z,r⟩:=qr I hx rv
  have ev:=XJ hb r
  refine call_any_walk (Qx (A:=A.in1) (R.handled hn) hl fun s₂ it hs hk hn W st=>⟨_,_,_,_,_,_,fun i=>bs.getD i false,rfl,W,st,fun i v s' Q E hP hQ=>QK ev hP hQ,fun h' tk hk'=>?_⟩)
  rw [Yt bs _ (by rw [← Array.length_toList,ev,List.length_map])]
  have hk2:∀ b o,s.heap.get? b=some o→h'.get? b=some o:=fun b o e=>hk' b o (fun hm=>by
   rw [qV hm,hn] at e;cases e) (hk b o e)
  rw [hs]
  exact k _ μ _ (.grow hk2) (I.grow hk2) (.bool _)
 | all =>
  obtain ⟨v,h1,e⟩:=zf e
  obtain ⟨xs,hx,e⟩:=zf e
  obtain ⟨bs,hb,e⟩:=yC e
  cases e
  rw [xO h1] at ra
  obtain ⟨_,rfl,rv⟩:=ra.one
  obtain ⟨a,items,rfl,hl,z,r⟩:=qr I hx rv
  have ev:=XJ hb r
  refine call_all_walk (Qx (A:=A.in1) (R.handled hn) hl fun s₂ it hs hk hn W st=>⟨_,_,_,_,_,_,fun i=>bs.getD i false,rfl,W,st,fun i v s' Q E hP hQ=>QK ev hP hQ,fun h' tk hk'=>?_⟩)
  rw [Yu bs _ (by rw [← Array.length_toList,ev,List.length_map])]
  have hk2:∀ b o,s.heap.get? b=some o→h'.get? b=some o:=fun b o e=>hk' b o (fun hm=>by
   rw [qV hm,hn] at e;cases e) (hk b o e)
  rw [hs]
  exact k _ μ _ (.grow hk2) (I.grow hk2) (.bool _)
 | bool=>exact nos e
 | str=>exact nos e
 | enumerate=>exact nos e
 | valErr=>exact nos e
noncomputable def zH6:Me→String
 | .append => "list.append" | .insert => "list.insert" | .index => "list.index" | .count => "list.count" | .join => "str.join"
theorem Y3 (I:Inv X μ hp s) {a:Nat} {c:Addr} {items:Array Value} {m t:Nat} {f:Array Value→Array Value} {xs:List AV} (ha:μ[a]? = some (c,none)) (hl:IsL s.heap c items m) (z:xs.length≤small)
  (r:VRs X μ s.heap xs (f items).toList) :
  Inv X μ (hp.set a (.list xs)) { s with heap:=s.heap.update c (Obj.mapSeq f),toks:=t }∧Le noS μ s μ { s with heap:=s.heap.update c (Obj.mapSeq f),toks:=t }:=by
 have g:∃ m',(s.heap.update c (Obj.mapSeq f)).get? c=some { cls:=.type "list",dict:=none,data:=.seq (f items) m',slots:=#[] }:=⟨_,Heap.get?_update_self _ hl rfl⟩
 obtain ⟨m',g⟩:=g
 have hk:∀ b o,b∉ads (c,none)→s.heap.get? b=some o→(s.heap.update c (Obj.mapSeq f)).get? b=some o:=fun b o hb e=>(Heap.get?_update_other _ _ (fun h=>hb (by rw [← h];exact .head _))).trans e
 refine I.upd ha hk (.list g z (r.mono (List.prefix_refl _) fun b o e fx=>hk b o (fun hb=>?_) e))
 rw [jL hb,hl] at e
 cases e
 exact Mut.notFixed (.inl ⟨rfl,_,_,rfl⟩) fx
theorem W7 {α:Type} (items:Array α) (y:α) (k:Nat):((items.extract 0 k).push y++items.extract k).toList=items.toList.take k++y::items.toList.drop k:=by
 rw [Array.toList_append,Array.toList_push,Array.toList_extract,Array.toList_extract,List.append_assoc,List.extract_eq_take_drop,List.extract_eq_take_drop,List.drop_zero,Nat.sub_zero,List.take_of_length_le (i:=items.size - k)]
 ·rfl
 ·rw [List.length_drop,Array.length_toList];exact Nat.le_refl _
theorem z11 {α:Type} (ls:List α) (j:Nat):ls.take (min j ls.length)=ls.take j:=by rw [List.take_eq_take_iff,Nat.min_assoc,Nat.min_self]
theorem z37 {α:Type} (ls:List α) (j:Nat):ls.drop (min j ls.length)=ls.drop j:=by
 rcases Nat.le_total j ls.length with h | h
 ·rw [Nat.min_eq_left h]
 ·rw [Nat.min_eq_right h,List.drop_of_length_le (Nat.le_refl _),List.drop_of_length_le h]
theorem JM (I:Inv X μ hp s) {a:Nat} {items:Array Value} {xs:List AV} {ds:List PyData} (hx:y7 hp a=some xs) (e:z4m hp (.ref a)=some ds)
  (r:VRs X μ s.heap xs items.toList):DRs s.heap 7 items.toList ds:=by
 have e:(y7 hp a).bind (fun xs=>yd (toD hp 7) xs)=some ds:=e
 rw [hx] at e
 exact jY (qq I 7) e r
theorem Qr {m:Me} {o:AV} {args:List AV} {c:Value} {args':List Value} (R:Room n A l) (I:Inv X μ hp s) (ro:VR X μ s.heap o c) (ra:VRs X μ s.heap args args')
  (k:PO X l μ s (yQ m o args hp) Q E):wpAny (model prog w) A (call (.builtin (zH6 m)) (c::args')) Q E s:=by
 have hu:=R.units'
 obtain ⟨v,hp',e,k⟩:=k.ofP
 have k:PE X μ s v hp' Q:=k
 cases hs:xg o with
 | some sep =>
  rw [hs] at e
  cases m with
  | join =>
   obtain ⟨y,h2,e⟩:=zf e
   obtain ⟨xs,hx,e⟩:=zf e
   obtain ⟨ss,hss,e⟩:=zf e
   obtain ⟨z,e⟩:=zr e
   cases e
   rw [xq hs] at ro
   rw [xO h2] at ra
   obtain ⟨y',rfl,ry⟩:=ra.one
   obtain ⟨t,rfl,zs⟩:=ro.str_
   obtain ⟨a,items,rfl,hl,_,r⟩:=qr I hx ry
   obtain ⟨l,q1,q2⟩:=z13 hss r
   have hl':s.heap.IsList a (strValues l).toArray:=by rw [← q1,Array.toArray_toList];exact hl
   refine SC.join hl' q2 ?_ fun t' j=>?_
   ·show (!decide (ss.toArray.foldl (fun a p=>a+p.length+sep.length) 0 > sizeLine))=true
    rw [StrLaws.joinTotal sep ss,decide_eq_false (Nat.not_lt.mpr (yY z))];rfl
   ·have e2:Txt.join sep ss=Str.join sep ss:=StrLaws.glued_eq_join sep ss
    rw [e2]
    exact k.tok I (.str _ (Nat.le_trans (StrLaws.join_length_le sep ss) z))
  | _=>exact nos e
 | none =>
 rw [hs] at e
 obtain ⟨a,h1,e⟩:=zf e
 obtain ⟨xs,hx,e⟩:=zf e
 rw [xY h1] at ro
 obtain ⟨d,items,mm,rfl,g1,hl,z0,r⟩:=I.list_at ro (xu hx)
 have l:=r.size
 have cmp:∀ {ds:List PyData} {x:PyData},PyData.depthAll ds≤7→A.units+1+min (PyData.depthAll ds) x.depth<cLine:=fun {ds x} h=>Nat.lt_of_le_of_lt (Nat.le_trans (Nat.le_of_eq (Nat.add_assoc _ _ _)) (Nat.add_le_add_left (Nat.le_trans (Nat.add_le_add_left (Nat.le_trans (Nat.min_le_left _ _) h) 1) (by decide)) _)) hu
 cases m with
 | append =>
  obtain ⟨y,h2,e⟩:=zf e
  obtain ⟨z,e⟩:=zr e
  cases e
  rw [xO h2] at ra
  obtain ⟨y',rfl,ry⟩:=ra.one
  refine call_meets F.slot_list_append ⟨_,hl,rfl⟩ F.entry_list_append (F.args_list_append_2 _ _) (AutoListH.list_append_list_val_0 _ _ _ y' (by rw [l];exact yY (Nat.le_of_lt z))) ⟨hl,?_⟩
  obtain ⟨I',a'⟩:=Y3 (t:=s.toks) I g1 hl (f:=fun x=>x.push y') (xs:=xs++[y]) (by rw [zX];exact z) (by rw [Array.toList_push];exact r.app (.cons ry .nil))
  exact k _ μ _ a' I' .none
 | insert =>
  obtain ⟨p,h2,e⟩:=zf e
  obtain ⟨i,h3,e⟩:=zf e
  obtain ⟨⟨z,zz⟩,e⟩:=zr e
  cases e
  rw [wg h2] at ra
  obtain ⟨i',y',rfl,ri,ry⟩:=ra.two
  rw [yg h3] at ri
  obtain ⟨t,rfl⟩:=ri.int_
  obtain ⟨i0,i1⟩:=qH.mp zz
  refine call_meets F.slot_list_insert ⟨_,hl,rfl⟩ F.entry_list_insert (F.args_list_insert_3 _ _ _) (AutoListH.list_insert_list_int_val_1 _ _ _ i _ y' (zJe i0 i1) (by rw [l];exact yY (Nat.le_of_lt z))) ⟨hl,?_⟩
  obtain ⟨I',a'⟩:=Y3 (t:=s.toks) I g1 hl (f:=fun xs=>have k:=if i<0 then (i+((xs.size:Nat):Int)).toNat else min i.toNat xs.size;(xs.extract 0 k).push y'++xs.extract k) (xs:=xw xs i.toNat p.2)
   (by rw [xw,zX,List.length_cons,← Nat.add_assoc,← zX,List.take_append_drop];exact z) (by
    dsimp only
    rw [if_neg (Int.not_lt.mpr i0),W7,← Array.length_toList,z11,z37]
    exact (r.take _).app (.cons ry (r.drop _)))
  exact k _ μ _ a' I' .none
 | index =>
  obtain ⟨y,h2,e⟩:=zf e
  obtain ⟨j,hj,e⟩:=yC e
  cases e
  rw [xO h2] at ra
  obtain ⟨y',rfl,ry⟩:=ra.one
  obtain ⟨ds,hd,hj⟩:=zf hj
  obtain ⟨x,hy,hj⟩:=zf hj
  obtain ⟨⟨as,ras⟩,c1,d1⟩:=JM I hx hd r
  obtain ⟨⟨bs,rb⟩,c2,d2⟩:=qq I _ hy ry
  obtain ⟨hk,g2,g3⟩:=List.findIdx?_eq_some_iff_getElem.mp hj
  have hm:=SeqAt.readsAll_map ds _ _ c1 ras
  have len:ds.length=items.size:=by rw [← hm,List.length_map,Array.length_toList]
  have at_:∀ i (hi:i<items.size),ds[i]'(by rw [len];exact hi)=SeqAt.readOf s.heap items[i]:=fun i hi=>by
   have:ds[i]? = some (SeqAt.readOf s.heap items[i]):=by rw [← hm,List.getElem?_map,Array.getElem?_toList,Array.getElem?_eq_getElem hi];rfl
   exact (yj this).2
  have hjs:j<items.size:=by rw [← len];exact hk
  refine call_meets F.slot_list_index ⟨_,hl,rfl⟩ F.entry_list_index (F.args_list_index_2 _ _)
   (SeqAt.list_indexAt d items mm none #[] y' (fun y=>PyData.eqv (SeqAt.readOf s.heap y) x) j hjs (Int.lt_of_lt_of_le (Int.ofNat_lt.mpr (Nat.lt_of_lt_of_le hjs (by rw [l];exact z0))) (by decide)) ?_ ?_)
   ⟨hl,SeqAt.items_eqAt (A:=A) ras rb c1 c2 (cmp d1),k.tok I (.int _ _)⟩
  ·rw [← at_ j hjs];exact g2
  ·intro i hi hlt;rw [← at_ i hi];exact Bool.eq_false_iff.mpr (g3 i hlt)
 | count =>
  obtain ⟨y,h2,e⟩:=zf e
  obtain ⟨j,hj,e⟩:=yC e
  cases e
  rw [xO h2] at ra
  obtain ⟨y',rfl,ry⟩:=ra.one
  obtain ⟨ds,hd,hj⟩:=zf hj
  obtain ⟨x,hy,rfl⟩:=yC hj
  obtain ⟨⟨as,ras⟩,c1,d1⟩:=JM I hx hd r
  obtain ⟨⟨bs,rb⟩,c2,d2⟩:=qq I _ hy ry
  have hm:=SeqAt.readsAll_map ds _ _ c1 ras
  refine call_meets F.slot_list_count ⟨_,hl,rfl⟩ F.entry_list_count (F.args_list_count_2 _ _)
   (SeqAt.list_countAt d items mm none #[] y' (fun y=>PyData.eqv (SeqAt.readOf s.heap y) x))
   ⟨hl,SeqAt.items_eqAt (A:=A) ras rb c1 c2 (cmp d1),?_⟩
  have:items.toList.countP (fun y=>PyData.eqv (SeqAt.readOf s.heap y) x)=ds.countP fun y=>PyData.eqv y x:=by rw [← hm,List.countP_map];rfl
  rw [this]
  exact k.tok I (.int _ _)
 | _=>exact nos e
end
end Mine
end
end
section
set_option maxRecDepth 100000
noncomputable section
namespace Mine
open PySem PySem.W PySem.Spec PySem.Calls PyProof.Rows
noncomputable def Q5 (K:Frag) (C D:Addr):Bool:=(clsIn K D).isSome && (clsIn K C).isSome && typeIn K (.ref D) == some (.type "type") && instIn K (.ref D) (.type "type") == some true && subIn K (.ref C) (.ref D) == some false && findIn K (.ref C) "__class__" == some (some (.builtin "object.__class__")) &&
 findIn K (.ref C) "__getattribute__" == some (some (.builtin "BaseException.__getattribute__")) && findIn K (.ref C) "__getattr__" == some none && subIn K (.ref C) (.type "BaseException") == some true && subIn K (.ref C) (.type "object") == some true && !(C == D)
section
variable {prog:Program} {w:World} {A:Around} {E:Value→Shared→Prop} {h:Heap} {g:Array GenState} {d:Drawn} {t:Nat} {os:OsState} {a C:Addr} {o:Obj} {K:Frag}
theorem zGm {R:Result→Shared→Prop} (X:K.In h) (s1:subIn K (.ref C) (.type "object")=some true) (hx:h.get? a=some o) (hc:o.cls=.ref C) (hq:R (.ok (.ret (.ref C))) ⟨h,g,d,t,os⟩) :
  codeAny (model prog w) A (.call (.builtin "getset_descriptor.__get__") ⟨[.builtin "object.__class__",.ref a,.ref C],[]⟩) R ⟨h,g,d,t,os⟩:=by
 have hT5:(⟨h,g,d,t,os⟩:Shared).TypeIs (.builtin "object.__class__") "getset_descriptor" := F.typeOf_object_class
 have s1':subIn K (.ref C) (.type (".".intercalate ("object.__class__".cutAt '.').dropLast))=some true:=by rw [F.owner_object_class];exact s1
 refine codeAny_call_builtin F.slot_gs_get.plain F.entry_gs_get (F.slot_gs_get.check _ _ _ _ _ _ _ _ hT5 (F.args_gs_get _ _ _) ?_)
 repeat (any_goals (first | assumption | (with_reducible refine wpAny_loadPart_at hx ?_;rw [hc]) | with_reducible refine (looks_subIn X s1').at ?_ | wp_step))
 refine ⟨Code.quiet_builtin _ (by decide +kernel),codeAny_builtin F.entry_object_class ?_⟩
 repeat (any_goals (first | assumption | (with_reducible refine wpAny_loadPart_at hx ?_;rw [hc]) | wp_step))
theorem z0t {tk:Tok} {Q:Fin→Shared→Prop} (X:K.In h) (s1:subIn K (.ref C) (.type "object")=some true) (f1:findIn K (.ref C) "__class__" = some (some (.builtin "object.__class__"))) (hx:h.get? a=some o) (hc:o.cls=.ref C) (hq:Q (.done (.ret (.ref C))) ⟨h,g,d,t,os⟩) :
  wpAny (model prog w) A (Builtin.«object.__getattribute__» ⟨[.ref a,.str "__class__" tk],[]⟩) Q E ⟨h,g,d,t,os⟩:=by
 have hT5:(⟨h,g,d,t,os⟩:Shared).TypeIs (.builtin "object.__class__") "getset_descriptor" := F.typeOf_object_class
 have f5:=F.typeOf_object_class
 have f6:=F.slot_gs_get.lookup
 have f7:=F.slot_gs_set.lookup
 repeat (any_goals (first | assumption | (with_reducible refine wpAny_loadPart_at hx ?_;rw [hc]) | with_reducible refine (looks_findIn X f1).at ?_ | wp_step))
 refine zGm X s1 hx hc ?_
 repeat (any_goals (first | assumption | wp_step))
theorem z0u {M:Model} {nameV:Value} {Q:Unit→Shared→Prop} (X:K.In h) (s2:subIn K (.ref C) (.type "BaseException")=some true) (hx:h.get? a=some o) (hc:o.cls=.ref C) (hq:Q () ⟨h,g,d,t,os⟩) :
  wpAny M A (checkBuiltinCall "BaseException.__getattribute__" ⟨[.ref a,nameV],[]⟩) Q E ⟨h,g,d,t,os⟩:=by
 have hk:builtinKind "BaseException.__getattribute__" = some .slot:=by decide +kernel
 have hsplit:splitId "BaseException.__getattribute__" = some ("BaseException", "__getattribute__"):=by decide +kernel
 have ha:=F.args_bexc_ga (.ref a) nameV
 simp only [checkBuiltinCall,hk,hsplit]
 refine wpAny_bind ?_
 ·unfold isInstance
  repeat (first | (with_reducible refine wpAny_loadPart_at hx ?_;rw [hc]) | with_reducible refine (looks_subIn X s2).at ?_ | wp_step)
  exact hq
theorem zHq {tk:Tok} {fill expr:Bool} {Q:Value→Shared→Prop} (X:K.In h) (s1:subIn K (.ref C) (.type "object")=some true) (s2:subIn K (.ref C) (.type "BaseException")=some true) (f1:findIn K (.ref C) "__class__" = some (some (.builtin "object.__class__")))
  (f2:findIn K (.ref C) "__getattribute__" = some (some (.builtin "BaseException.__getattribute__"))) (f3:findIn K (.ref C) "__getattr__" = some none) (hx:h.get? a=some o) (hc:o.cls=.ref C) (hq:Q (.ref C) ⟨h,g,d,t,os⟩) :
  wpAny (model prog w) A (getAttrBy (.ref a) (.str "__class__" tk) fill expr) Q E ⟨h,g,d,t,os⟩:=by
 have f3':=PySem.F.attr_ValueError.ga.bind (.ref a)
 have hx0:(expr && onTheHeap (Value.builtin "BaseException.__getattribute__"))=false:=by cases expr <;> rfl
 have hx2:(Value.builtin "BaseException.__getattribute__" == Value.builtin "object.__getattribute__")=false:=by decide +kernel
 have hx1:(onTheHeap (Value.ref C) && Value.builtin "BaseException.__getattribute__" == Value.builtin "object.__getattribute__")=false:=by rw [hx2];rfl
 repeat (any_goals (first | assumption | (with_reducible refine wpAny_loadPart_at hx ?_;rw [hc]) | with_reducible refine (looks_findIn X f2).at ?_ | with_reducible refine (looks_findIn X f3).at ?_ | wp_step))
 refine codeAny_call_builtin PySem.F.attr_ValueError.ga.plain F.entry_bexc_ga (z0u X s2 hx hc (z0t X s1 f1 hx hc ?_))
 repeat (any_goals (first | assumption | wp_step))
theorem z42 {Q:Option Value→Shared→Prop} (X:K.In h) (s1:subIn K (.ref C) (.type "object")=some true) (s2:subIn K (.ref C) (.type "BaseException")=some true) (f1:findIn K (.ref C) "__class__" = some (some (.builtin "object.__class__")))
  (f2:findIn K (.ref C) "__getattribute__" = some (some (.builtin "BaseException.__getattribute__"))) (f3:findIn K (.ref C) "__getattr__" = some none) (hx:h.get? a=some o) (hc:o.cls=.ref C) (hq:Q (some (.ref C)) ⟨h,g,d,t+1,os⟩) :
  wpAny (model prog w) A (getAttr? (.ref a) "__class__") Q E ⟨h,g,d,t,os⟩:=by
 unfold getAttr? getAttrBy?
 repeat (any_goals (first | assumption | with_reducible apply zHq X s1 s2 f1 f2 f3 hx hc | wp_step))
theorem z5a {D:Addr} {Q:Value→Shared→Prop} (X:K.In h) (e:Q5 K C D=true) (hx:h.get? a=some o) (hc:o.cls=.ref C) (hq:Q (.bool false) ⟨h,g,d,t+1,os⟩) :
  wpAny (model prog w) A (call (.builtin "isinstance") [.ref a,.ref D]) Q E ⟨h,g,d,t,os⟩:=by
 refine call_isinstance (S:=fun _ R s=>(K.In s.heap∧s.heap.get? a=some o)∧R (.ok (.ret (.bool false))) { s with toks:=s.toks+1 }) (fun prog w A R s hs=>isinstance_outer ?_ (fun e=>nomatch e)) ⟨⟨X,hx⟩,hq⟩
 obtain ⟨hh,g,d,tt,os⟩:=s
 obtain ⟨⟨X,hx⟩,hs⟩:=hs
 unfold Q5 at e
 simp only [Bool.and_eq_true,beq_iff_eq,Bool.not_eq_true',beq_eq_false_iff_ne] at e
 obtain ⟨⟨⟨⟨⟨⟨⟨⟨⟨⟨e0,e9⟩,e1⟩,e2⟩,e3⟩,f1⟩,f2⟩,f3⟩,s2⟩,s1⟩,hne⟩:=e
 have ht:Looks (model prog w) hh (typeOf (.ref a)) (.ref C):=hc▸(Looks.ld hx).andThen .now
 unfold Builtin.«isinstance.nested»
 refine wpAny_bind (ht.at ?_)
 rw [if_neg (fun q=>by injection beq_iff_eq.mp q with q;exact hne q)]
 have L1:=looks_typeIn (M:=model prog w) X e1
 have L2:=looks_instIn (M:=model prog w) X e2
 have L4:Looks (model prog w) hh (isSubtype (.ref C) (.ref D)) false:=looks_subIn X e3
 have L3:Looks (model prog w) hh (isInstance (.ref a) (.ref D)) false:=ht.andThen L4
 refine wpAny_bind (L1.at ?_)
 rw [if_pos (by decide)]
 k_delta "plainIsInstance"
 unfold isType
 repeat lk
 unfold clsIn at e0 e9
 split at e0
 ·rename_i ho
  refine nd_load (X _ _ ho) (nd_pure (wpAny_pure ?_))
  simp only [Bool.not_true,Bool.false_eq_true,if_false]
  refine wpAny_bind (L3.at ?_)
  simp only [Bool.false_eq_true,if_false]
  refine wpAny_bind (z42 X s1 s2 f1 f2 f3 hx hc ?_)
  split at e9
  ·rename_i ho'
   refine nd_load (X _ _ ho') (wpAny_bind (nd_pure ?_))
   simp only [Bool.not_true,Bool.false_eq_true,if_false]
   refine wpAny_bind (wpAny_rule ?_)
   refine L4.at ?_
   exact wpAny_pure hs
  ·cases e9
 ·cases e0
theorem Wp {Q:Value→Shared→Prop} (X:K.In h) (e:subIn K (.ref C) (.type "ValueError")=some true) (e9:(clsIn K C).isSome=true) (hx:h.get? a=some o) (hc:o.cls=.ref C) (hq:∀ t,Q (.bool true) ⟨h,g,d,t,os⟩) :
  wpAny (model prog w) A (call (.builtin "isinstance") [.ref a,.type "ValueError"]) Q E ⟨h,g,d,t,os⟩:=by
 refine call_isinstance (S:=fun _ R s=>(K.In s.heap∧s.heap.get? a=some o)∧R (.ok (.ret (.bool true))) s) (fun prog w A R s hs=>isinstance_outer ?_ (fun e=>nomatch e)) ⟨⟨X,hx⟩,hq t⟩
 obtain ⟨hh,g,d,tt,os⟩:=s
 obtain ⟨⟨X,hx⟩,hs⟩:=hs
 have ht:Looks (model prog w) hh (typeOf (.ref a)) (.ref C):=hc▸(Looks.ld hx).andThen .now
 have L3:Looks (model prog w) hh (isInstance (.ref a) (.type "ValueError")) true:=ht.andThen (looks_subIn X e)
 have hty:typeOf (.type "ValueError")=pure (.type "type"):=by kernel_rfl
 unfold Builtin.«isinstance.nested»
 refine wpAny_bind (ht.at ?_)
 rw [if_neg (fun q=>by cases beq_iff_eq.mp q),hty]
 refine wpAny_bind (wpAny_pure ?_)
 rw [if_pos (by decide)]
 k_delta "plainIsInstance"
 unfold isType
 refine wpAny_bind (wpAny_bind (wpAny_pure ?_))
 simp only [Bool.not_true,Bool.false_eq_true,if_false]
 refine wpAny_bind (L3.at ?_)
 simp only [if_true]
 exact wpAny_pure (wpAny_pure hs)
end
end Mine
end
end
section
noncomputable section
namespace Mine
open PySem PySem.W PySem.Calls
noncomputable def Flg (sc:Sc) (env:Env) (fr:AFr) (μ:Mu):Prop:=∀ x i,(sc.kind x=some .cell∨sc.kind x=some .free)→sc.slot x=some i→∃ c a,env.cells.lookup x=some c∧fr[i]? = some (some (.ref a))∧μ[a]? = some (c,none)
structure EnvR (X:Cx) (l:List Env) (sc:Sc) (env:Env) (fr:AFr) (μ:Mu) (h:Heap):Prop where
 fn:env.scope.kind=.function
 glob:env.globals=mainGlobals
 bltn:env.builtins=builtinsNs
 kind:∀ x,sc.kind x=env.kindOf x
 loc:∃ m,h.Ns env.locals m∧∀ x i v,sc.kind x=some .local→sc.slot x=some i→fr[i]? = some (some v)→∃ v',m x=some v'∧VR X μ h v v'
 cel:sc.fl=false→∀ x i,(sc.kind x=some .cell∨sc.kind x=some .free)→sc.slot x=some i→∃ c cv,env.cells.lookup x=some c∧h.IsCell c cv∧∀ v,fr[i]? = some (some v)→∃ v',cv=some v'∧VR X μ h v v'
 nloc:env.locals∉zh μ
 bloc:X.base.get? env.locals=none
 flg:sc.fl=true→Flg sc env fr μ
 cod:∀ q,sc.law=some q→env.code=.ref q.2∧env.qual=q.1 ++ ".<locals>."
 ncel:sc.fl=false→∀ x c,env.cells.lookup x=some c→c∉zh μ∧∃ cv,h.IsCell c cv
 bcel:sc.fl=false→∀ x c,env.cells.lookup x=some c→X.base.get? c=none
 apart:sc.fl=false→∀ x y c,env.cells.lookup x=some c→env.cells.lookup y=some c→x=y
 inj:∀ x y i,sc.slot x=some i→sc.slot y=some i→x=y
 wid:fr.length=sc.width
 slt:∀ x i,sc.slot x=some i→i<sc.width
 frs:Frs X l μ h
section
variable {X:Cx} {sc:Sc} {env:Env} {fr:AFr} {μ μ':Mu} {hp hp':Hp} {s s':Shared} {l:List Env}
theorem Flg.le (F:Flg sc env fr μ) (hp:μ <+: μ'):Flg sc env fr μ':=fun x i h1 h2=>by
 obtain ⟨c,a,q1,q2,q3⟩:=F x i h1 h2
 obtain ⟨r,rfl⟩:=hp
 exact ⟨c,a,q1,q2,by rw [List.getElem?_append_left (yj q3).1];exact q3⟩
theorem EnvR.le (V:EnvR X l sc env fr μ s.heap) (I:Inv X μ hp s) (a:Le noS μ s μ' s'):EnvR X l sc env fr μ' s'.heap:=by
 obtain ⟨m,ns,hm⟩:=V.loc
 have kp:∀ b o,b∉zh μ→s.heap.get? b=some o→Yp o (s'.heap.get? b):=fun b o n e=>a.keep b o n (fun h=>h) e
 have nin:∀ b o,b∉zh μ→s.heap.get? b=some o→b∉zh μ':=fun b o n e h=>by
  rcases a.fresh b h with h | h
  ·exact n h
  ·rw [e] at h;cases h
 have cellK:∀ {c:Addr} {cv:Option Value},c∉zh μ→s.heap.IsCell c cv→s'.heap.IsCell c cv:=fun n h=>by
  obtain ⟨o,ho,r⟩:=h;exact ⟨o,(kp _ o n ho).exact (by unfold isD;rw [r]),r⟩
 refine ⟨V.fn,V.glob,V.bltn,V.kind,⟨m,?_,fun x i v h1 h2 h3=>?_⟩,fun hf x i h1 h2=>?_,?_,V.bloc,fun hf=>(V.flg hf).le a.pre,V.cod,fun hf x c hc=>?_,V.bcel,V.apart,V.inj,V.wid,V.slt,V.frs.le a⟩
 ·obtain ⟨o,es,ep,ho,hd,r⟩:=ns
  obtain ⟨o',e',q⟩:=(kp _ o V.nloc ho).get
  exact ⟨o',es,ep,e',q.trans hd,r⟩
 ·obtain ⟨v',e,r⟩:=hm x i v h1 h2 h3
  exact ⟨v',e,r.le I a⟩
 ·obtain ⟨c,cv,e1,e2,e3⟩:=V.cel hf x i h1 h2
  refine ⟨c,cv,e1,cellK (V.ncel hf x c e1).1 e2,fun v hv=>?_⟩
  obtain ⟨v',q,r⟩:=e3 v hv
  exact ⟨v',q,r.le I a⟩
 ·obtain ⟨o,es,ep,ho,r⟩:=ns
  exact nin _ o V.nloc ho
 ·obtain ⟨n,cv,h⟩:=V.ncel hf x c hc
  obtain ⟨o,ho,r⟩:=id h
  exact ⟨nin c o n ho,cv,cellK n h⟩
end
noncomputable def z4r:Value→Option Addr
 | .ref a=>some a
 | _=>none
theorem JN {v:Value} {a:Addr} (h:z4r v=some a):v=.ref a:=by
 cases v with
 | ref=>cases h;rfl
 | _=>exact nos h
noncomputable def nsR (K:Frag) (x:Str):Option Addr:=(nsIn K mainGlobals x).bind fun o=>o.bind z4r
theorem qm {K:Frag} {x:Str} {C:Addr} (h:nsR K x=some C):nsIn K mainGlobals x=some (some (.ref C)):=by
 obtain ⟨o,h1,h⟩:=zf h
 obtain ⟨v,h2,h⟩:=zf h
 rw [h1,h2,JN h]
noncomputable def zJu (K:Frag) (C:Addr) (y:Str):Option Bool:=if y = "" then (if subIn K (.ref C) (.type "ValueError")=some true∧(clsIn K C).isSome=true then some true else none) else (nsR K y).bind fun D=>if isIn K (.ref C) D=true then some true else if Q5 K C D=true then some false else none
noncomputable def zGe (K:Frag) (x y:Str):Option Bool:=(nsR K x).bind fun C=>zJu K C y
structure Gd (X:Cx) (G:GTab):Prop where
 K:X.K.In X.base
 top:∃ mg mb,X.base.Ns mainGlobals mg∧X.base.Ns builtinsNs mb∧∀ x:Str,x ≠ "__name__" → mb x=bootBuiltins x
 lim:X.base.NoLimit
 glob:∀ x v,G.glob x=some v→∃ c,(nsIn X.K mainGlobals x=some (some c)∨(nsIn X.K mainGlobals x=some none∧bootBuiltins x=some c∧x ≠ "__name__"))∧∀ μ h,VR X μ h v c
 exc:∀ x,G.exc x=true→∃ C mg,nsIn X.K mainGlobals x=some (some (.ref C))∧PyProof.Rows.OwnCls x C [.type "ValueError",.type "Exception",.type "BaseException",.type "object"] "ValueError.__new__" mg X.base
 exm:∀ x y,G.exm x y=true→∃ C D,nsIn X.K mainGlobals x=some (some (.ref C))∧nsIn X.K mainGlobals y=some (some (.ref D))∧exmOne X.K (.ref C) (.ref D)=some true
 isx:∀ x y b,G.isx x y=some b→zGe X.K x y=some b
 code:∀ q c,G.code q=some c→CodeHd X.base c (X.tabP q)∧∃ mg,X.base.Ns mainGlobals mg∧X.base.BuiltinsAt mg (X.tabP q)
 okf:∀ c name,G.okf c name=true→∃ C,nsIn X.K mainGlobals c=some (some (.ref C))∧xo X.K C=true∧jG X.K C name=true
section
variable {prog:Program} {w:World} {X:Cx} {G:GTab} {sc:Sc} {env:Env} {fr:AFr} {μ μ':Mu} {hp hp':Hp} {s s':Shared} {A:Around} {E:Value→Shared→Prop} {n:Nat} {l:List Env} {Q:Value→Shared→Prop}
theorem Inv.kin (I:Inv X μ hp s) (g:X.K.In X.base):X.K.In s.heap:=g.keeps I.keep
theorem Yy {x:Str} {pos:Pos} {i:Nat} {v:AV} (hk:sc.kind x=some .local∨sc.fl=false∧(sc.kind x=some .cell∨sc.kind x=some .free)) (hs:sc.slot x=some i) (hv:fr[i]? = some (some v)) (I:Inv X μ hp s) (V:EnvR X l sc env fr μ s.heap)
  (hd:(x == ("__debug__" : Str))=false) (hc:(x == ("__classdict__" : Str))=false) (k:PE X μ s v hp Q):wpAny (model prog w) A (eval (.Name x pos) env) Q E s:=by
 refine wpAny_Name ?_ hd
 have kd:=V.kind x
 rcases hk with h | ⟨hf,h | h⟩
 ·obtain ⟨m,ns,hm⟩:=V.loc
  obtain ⟨v',e,r⟩:=hm x i v h hs hv
  exact wpAny_loadName_local V.fn (kd▸h) ns e (k.here I r)
 ·obtain ⟨c,cv,e1,e2,e3⟩:=V.cel hf x i (.inl h) hs
  obtain ⟨v',rfl,r⟩:=e3 v hv
  exact wpAny_loadName_cell V.fn (kd▸h) e1 e2 (k.here I r)
 ·obtain ⟨c,cv,e1,e2,e3⟩:=V.cel hf x i (.inr h) hs
  obtain ⟨v',rfl,r⟩:=e3 v hv
  exact wpAny_loadName_free V.fn (kd▸h) e1 e2 (k.here I r) hc
theorem WK {h:Hp} {a:Nat} {v:Option AV} (e:wy h a=some v):h[a]? = some (.cell v):=by
 unfold wy at e
 cases q:h[a]? with
 | none=>rw [q] at e;exact nos e
 | some o =>
  rw [q] at e
  cases o with
  | cell=>cases e;rfl
  | _=>exact nos e
theorem Yb {i a:Nat} (e:wC fr i=some a):fr[i]? = some (some (.ref a)):=by
 obtain ⟨u,h1,h2⟩:=zf e
 rw [xY h2] at h1
 cases q:fr[i]? with
 | none=>rw [q] at h1;exact nos h1
 | some o=>rw [q] at h1;exact congrArg some h1
theorem Wz {x:Str} {pos:Pos} {i a:Nat} {v:AV} (hf:sc.fl=true) (hk:sc.kind x=some .cell∨sc.kind x=some .free) (hs:sc.slot x=some i) (ha:wC fr i=some a) (hv:wy hp a=some (some v)) (I:Inv X μ hp s) (V:EnvR X l sc env fr μ s.heap)
  (hd:(x == ("__debug__" : Str))=false) (hc:(x == ("__classdict__" : Str))=false) (k:PE X μ s v hp Q):wpAny (model prog w) A (eval (.Name x pos) env) Q E s:=by
 refine wpAny_Name ?_ hd
 have kd:=V.kind x
 obtain ⟨c,a',e1,e2,e3⟩:=V.flg hf x i hk hs
 rw [Yb ha] at e2;cases e2
 obtain ⟨c',cv,q,h1,h2⟩:=(I.rep _ _ _ e3 (WK hv)).cell_
 cases q
 obtain ⟨v',rfl,r⟩:=h2 v rfl
 rcases hk with h | h
 ·exact wpAny_loadName_cell V.fn (kd▸h) e1 h1 (k.here I r)
 ·exact wpAny_loadName_free V.fn (kd▸h) e1 h1 (k.here I r) hc
theorem YY {x:Str} {pos:Pos} {v:AV} (g:Gd X G) (hk:sc.kind x=some .globalImplicit) (hv:G.glob x=some v) (I:Inv X μ hp s) (V:EnvR X l sc env fr μ s.heap) (hd:(x == ("__debug__" : Str))=false)
  (k:PE X μ s v hp Q):wpAny (model prog w) A (eval (.Name x pos) env) Q E s:=by
 obtain ⟨c,hc,r⟩:=g.glob x v hv
 obtain ⟨mg,mb,ng,nb,hb⟩:=g.top
 have kd:env.kindOf x=some .globalImplicit:=(V.kind x)▸hk
 rcases hc with e | ⟨e,e2,e3⟩
 ·exact Name_function_global V.fn kd (loadGlobal_global (by rw [V.glob];exact ng.keeps I.keep) (mg_of g.K ng e) (k.here I (r _ _))) hd
 ·exact Name_function_global V.fn kd (loadGlobal_builtin (by rw [V.glob];exact ng.keeps I.keep) (mg_none_of g.K ng e) (by rw [V.bltn];exact nb.keeps I.keep) ((hb x e3).trans e2) (k.here I (r _ _))) hd
theorem VR.handed {μ:Mu} {h:Heap} {v:AV} {c:Value} (r:VR X μ h v c):handedIn c=true:=by
 cases r <;> first | rfl | (rename_i b;cases b <;> first | rfl | decide)
theorem W4 {m name:Str} {tt:Tok} (q:(name == m)=false):(Value.str m tt).isStr name=false:=by show (m == name)=false;rw [beq_eq_false_iff_ne] at q ⊢;exact q.symm
theorem z2w {m name:Str} {tt:Tok} (q:(name == m)=true):(Value.str m tt).isStr name=true:=by show (m == name)=true;rw [beq_iff_eq] at q ⊢;exact q.symm
theorem FsR.miss {μ:Mu} {h:Heap} {name:Str} {fs:List (Str×AV)} {es:List DictEntry} (r:FsR X μ h fs es):fs.lookup name=none→es.find? (·.key.isStr name)=none∧es.any (·.refKey)=false:=by
 induction r with
 | nil=>intro _;exact ⟨rfl,rfl⟩
 | @cons m v hs tt w fs es a r ih =>
  intro e
  rw [List.lookup_cons] at e
  cases q:name == m with
  | true=>rw [q] at e;cases e
  | false =>
   rw [q] at e
   obtain ⟨h1,h2⟩:=ih e
   exact ⟨by rw [List.find?_cons_of_neg (by rw [W4 q];exact Bool.false_ne_true)];exact h1,by rw [List.any_cons,h2];rfl⟩
theorem FsR.find {μ:Mu} {h:Heap} {name:Str} {v:AV} {fs:List (Str×AV)} {es:List DictEntry} (r:FsR X μ h fs es):fs.lookup name=some v→∃ e,es.find? (·.key.isStr name)=some e∧VR X μ h v e.val:=by
 induction r with
 | nil=>intro e;exact nos e
 | @cons m v hs tt w fs es a r ih =>
  intro e
  rw [List.lookup_cons] at e
  cases q:name == m with
  | true =>
   rw [q] at e;cases e
   exact ⟨_,List.find?_cons_of_pos (z2w q),a⟩
  | false =>
   rw [q] at e
   obtain ⟨c,h1,h2⟩:=ih e
   exact ⟨c,by rw [List.find?_cons_of_neg (by rw [W4 q];exact Bool.false_ne_true)];exact h1,h2⟩
theorem FsR.get {μ:Mu} {h:Heap} {name:Str} {v:AV} {fs:List (Str×AV)} {es:List DictEntry} (r:FsR X μ h fs es) (e:fs.lookup name=some v):∃ c,getL name es=some (some c)∧VR X μ h v c:=by
 obtain ⟨c,h1,h2⟩:=r.find e
 exact ⟨c.val,by unfold getL;rw [h1],h2⟩
theorem jb {K:Frag} {C:Addr} (h:xo K C=true):(findIn K (.ref C) "__getattribute__" = some (some (.builtin "object.__getattribute__"))∧findIn K (.ref C) "__getattr__" = some none)∧hasDictIn K C=true ∧
  findIn K (.ref C) "__setattr__" = some (some (.builtin "object.__setattr__"))∧plainOver K C=true:=by
 unfold xo at h
 simp only [Bool.and_eq_true,beq_iff_eq] at h
 exact ⟨plainGet_of h.1.1.1,h.1.1.2,h.1.2,h.2⟩
theorem jE {h:Heap} {x dx C:Addr} {es:List DictEntry} {n:Nat} {sl:Array (Option Value)} (h1:h.get? x=some ⟨.ref C,some dx,.plain,sl⟩) (h2:h.get? dx=some (dictOf es n)) :
  InstAt h x ⟨.ref C,some dx,.plain,sl⟩ C (some (dictOf es n)):=⟨h1,rfl,rfl,h2⟩
theorem Qw {name:Str} {v:AV} {l:List (Str×AV)}:l.lookup name=some v→∃ p∈l,p.1=name:=by
 induction l with
 | nil=>intro h;exact nos h
 | cons p l ih =>
  intro h
  rw [List.lookup_cons] at h
  cases q:name == p.1 with
  | true=>exact ⟨p,.head _,(beq_iff_eq.mp q).symm⟩
  | false=>rw [q] at h;obtain ⟨p',a,b⟩:=ih h;exact ⟨p',.tail _ a,b⟩
theorem J6 {a:Nat} {name cls:Str} {fs:List (Str×AV)} {v:AV} {c:Value} {ex:Bool} (g:Gd X G) (I:Inv X μ hp s) (r:VR X μ s.heap (.ref a) c) (ho:hp[a]? = some (.inst cls fs)) (hv:fs.lookup name=some v)
  (k:PE X μ s v hp Q):wpAny (model prog w) A (getAttr c name ex) Q E s:=by
 obtain ⟨p,h1,rfl⟩:=r.ref_
 obtain ⟨x,dx,C,es,m,sl,rfl,e1,e2,e3,e4,e5,e6,e7⟩:=(I.rep _ _ _ h1 ho).inst_
 obtain ⟨c',g1,g2⟩:=e4.get hv
 obtain ⟨⟨hg,hk⟩,hh,_,_⟩:=jb e5
 obtain ⟨p,hp,hq⟩:=Qw hv
 have hf:jG X.K C name=true:=by rw [← hq];exact e6 p hp
 exact get_value (I.kin g.K) (jE e2 e3) hg (findObj_own hh (beq_iff_eq.mp hf) rfl (by rw [lookIn_dict];exact g1)) g2.handed (k.tok I g2)
theorem YH {a:Nat} {name cls:Str} {fs:List (Str×AV)} {C f:Addr} {c:Value} {pl:Sem Bool} {Q:Value×List Value→Shared→Prop} (g:Gd X G) (I:Inv X μ hp s) (r:VR X μ s.heap (.ref a) c) (ho:hp[a]? = some (.inst cls fs)) (hv:fs.lookup name=none)
  (hC:nsIn X.K mainGlobals cls=some (some (.ref C))) (hf:findIn X.K (.ref C) name=some (some (.ref f))) (ht:typeIn X.K (.ref f)=some (.type "function")) (k:Q (.ref f,[c]) s):wpAny (model prog w) A (getMethod c name pl) Q E s:=by
 obtain ⟨p,h1,rfl⟩:=r.ref_
 obtain ⟨x,dx,C',es,m,sl,rfl,e1,e2,e3,e4,e5,e6,e7⟩:=(I.rep _ _ _ h1 ho).inst_
 rw [hC] at e1;cases e1
 obtain ⟨⟨hg,hk⟩,hh,_,_⟩:=jb e5
 obtain ⟨m1,m2⟩:=e4.miss hv
 refine method_fn (I.kin g.K) (jE e2 e3) hg hk hf ht ?_ k
 show (lookIn name (dictOf es m)).map _=_
 rw [lookIn_dict]
 unfold getL
 rw [m1,m2];rfl
end
end Mine
end
end
section
noncomputable section
namespace Mine
open PySem PySem.W PySem.Calls PyProof.Rows
noncomputable def Wg (h:Heap) (L dx:Addr):List (Addr×Obj):=(List.range h.objs.size).filterMap fun b=>if b=L∨b=dx then none else (h.get? b).map (b,·)
theorem jV {h:Heap} {L dx b:Addr} {o:Obj}:(b,o)∈Wg h L dx↔b≠L∧b≠dx∧h.get? b=some o:=by
 unfold Wg
 rw [List.mem_filterMap]
 constructor
 ·rintro ⟨c,_,e⟩
  split at e
  ·exact nos e
  ·rename_i h
   obtain ⟨o',e,q⟩:=yC e
   cases q
   exact ⟨fun q=>h (.inl q),fun q=>h (.inr q),e⟩
 ·rintro ⟨h1,h2,h3⟩
  refine ⟨b,List.mem_range.mpr (Heap.lt_size h3),?_⟩
  rw [if_neg (fun q=>q.elim h1 h2),h3];rfl
theorem FsR.put {X:Cx} {μ:Mu} {h:Heap} {name:Str} {v:AV} {v':Value} {hs:Int} {t:Tok} (r:VR X μ h v v') {fs:List (Str×AV)} {es:List DictEntry} (q:FsR X μ h fs es):FsR X μ h (qY name v fs) (putL name hs (.str name t) v' es):=by
 induction q with
 | nil=>exact .cons r .nil
 | @cons m v hs tt w fs es a q ih =>
  have e:(Value.str m tt).isStr name=(m == name):=rfl
  simp only [qY,putL,e]
  by_cases hq:(m == name)=true
  ·rw [if_pos hq,if_pos hq];exact .cons r q
  ·rw [if_neg hq,if_neg hq];exact .cons a ih
theorem FsR.look {X:Cx} {μ:Mu} {h:Heap} {name:Str} {fs:List (Str×AV)} {es:List DictEntry} (r:FsR X μ h fs es):(getL name es).isSome=true:=by
 cases q:fs.lookup name with
 | some v=>obtain ⟨c,e,_⟩:=r.get q;rw [e];rfl
 | none=>obtain ⟨e1,e2⟩:=r.miss q;unfold getL;rw [e1,e2];rfl
theorem FsR.length {X:Cx} {μ:Mu} {h:Heap} {fs:List (Str×AV)} {es:List DictEntry} (r:FsR X μ h fs es):es.length=fs.length:=by
 induction r with
 | nil=>rfl
 | cons _ _ ih=>exact congrArg (·+1) ih
theorem z31 {name:Str} {v:AV} {fs:List (Str×AV)} {p:Str×AV}:p∈qY name v fs→p.1=name∨∃ q∈fs,q.1=p.1:=by
 induction fs with
 | nil=>intro h;rw [qV h];exact .inl rfl
 | cons q fs ih =>
  intro h
  have h:p∈(if (q.1 == name)=true then (q.1,v)::fs else q::qY name v fs):=h
  by_cases hq:(q.1 == name)=true
  ·rw [if_pos hq] at h
   rcases List.mem_cons.mp h with rfl | h
   ·exact .inl (beq_iff_eq.mp hq)
   ·exact .inr ⟨p,.tail _ h,rfl⟩
  ·rw [if_neg hq] at h
   rcases List.mem_cons.mp h with rfl | h
   ·exact .inr ⟨p,.head _,rfl⟩
   ·rcases ih h with h | ⟨q',a,b⟩
    ·exact .inl h
    ·exact .inr ⟨q',.tail _ a,b⟩
theorem ZY {name:Str} {v:AV} {fs:List (Str×AV)}:(qY name v fs).length≤fs.length+1:=by
 induction fs with
 | nil=>exact Nat.le_refl _
 | cons q fs ih =>
  show (if (q.1 == name)=true then (q.1,v)::fs else q::qY name v fs).length≤_
  by_cases hq:(q.1 == name)=true
  ·rw [if_pos hq];exact Nat.le_succ _
  ·rw [if_neg hq];exact Nat.succ_le_succ ih
noncomputable def own (sc:Sc) (env:Env):Addr→Prop:=fun b=>b=env.locals∨(sc.fl=false∧∃ x,env.cells.lookup x=some b)
section
variable {prog:Program} {w:World} {X:Cx} {G:GTab} {sc:Sc} {env:Env} {fr:AFr} {μ μ':Mu} {hp hp':Hp} {s s':Shared} {A:Around} {E:Value→Shared→Prop} {n:Nat} {l:List Env}
theorem yJ (V:EnvR X l sc env fr μ s.heap):∀ b o,own sc env b→s.heap.get? b=some o→¬ yb o:=by
 rintro b o (rfl | ⟨hf,x,hx⟩) e f
 ·obtain ⟨m,⟨o',es,ep,ho,hd,_⟩,_⟩:=V.loc
  rw [e] at ho;cases ho
  rcases f with ⟨_,xs,n,q⟩ | ⟨_,vs,q⟩ | ⟨_,fd,q⟩ | ⟨C,vs,_,q⟩ <;> rw [hd] at q <;> cases q
 ·obtain ⟨_,cv,o',ho,hd⟩:=V.ncel hf x b hx
  rw [e] at ho;cases ho
  rcases f with ⟨_,xs,n,q⟩ | ⟨_,vs,q⟩ | ⟨_,fd,q⟩ | ⟨C,vs,_,q⟩ <;> rw [hd] at q <;> cases q
theorem VR.leOwn {x:AV} {v:Value} (r:VR X μ s.heap x v) (I:Inv X μ hp s) (V:EnvR X l sc env fr μ s.heap) (a:Le (own sc env) μ s μ' s'):VR X μ' s'.heap x v:=r.mono a.pre (a.fixed I (yJ V))
theorem EnvR.leLoc {m:Str→Option Value} (V:EnvR X l sc env fr μ s.heap) (I:Inv X μ hp s) (a:Le (fun b=>b=env.locals) μ s μ' s') (h0:s.heap.Ns env.locals m) (h1:s'.heap.Ns env.locals m):EnvR X l sc env fr μ' s'.heap:=by
 obtain ⟨m',ns,hm⟩:=V.loc
 have em:m'=m:=by
  obtain ⟨o,es,ep,ho,hd,_,hf⟩:=ns
  obtain ⟨o',es',ep',ho',hd',_,hf'⟩:=h0
  rw [ho] at ho';cases ho'
  rw [hd] at hd';cases hd'
  funext x;rw [← hf x,← hf' x]
 subst em
 have rl:∀ {x:AV} {v:Value},VR X μ s.heap x v→VR X μ' s'.heap x v:=fun r=>r.leOwn I V (a.weak fun b h=>.inl h)
 have lc:sc.fl=false→∀ x c,env.cells.lookup x=some c→c≠env.locals:=fun hf x c h e=>by
  obtain ⟨_,cv,o,ho,hd⟩:=V.ncel hf x c h
  obtain ⟨o',es,ep,ho',hd',_⟩:=ns
  rw [e,ho'] at ho;cases ho;rw [hd] at hd';cases hd'
 have nin:∀ b o,b∉zh μ→s.heap.get? b=some o→b∉zh μ':=fun b o n e h=>by
  rcases a.fresh b h with h | h
  ·exact n h
  ·rw [e] at h;cases h
 have cellK:sc.fl=false→∀ {x:Str} {c:Addr} {cv:Option Value},env.cells.lookup x=some c→s.heap.IsCell c cv→s'.heap.IsCell c cv:=fun hf _ _ _ hx h=>by
  obtain ⟨o,ho,r⟩:=h;exact ⟨o,(a.keep _ o (V.ncel hf _ _ hx).1 (lc hf _ _ hx) ho).exact (by unfold isD;rw [r]),r⟩
 refine ⟨V.fn,V.glob,V.bltn,V.kind,⟨m',h1,fun x i v e1 e2 e3=>?_⟩,fun hf x i e1 e2=>?_,?_,V.bloc,fun hf=>(V.flg hf).le a.pre,V.cod,fun hf x c hc=>?_,V.bcel,V.apart,V.inj,V.wid,V.slt,V.frs.mono fun b o n e d=>⟨a.out n e,?_⟩⟩
 rotate_right
 ·by_cases q:b=env.locals
  ·obtain ⟨o',es,ep,ho,hd,_⟩:=h1
   exact ⟨o',q▸ho,w9 hd⟩
  ·obtain ⟨o',e',q'⟩:=(a.keep b o n q e).get
   exact ⟨o',e',(z2x q').trans d⟩
 ·obtain ⟨v',e,r⟩:=hm x i v e1 e2 e3
  exact ⟨v',e,rl r⟩
 ·obtain ⟨c,cv,q1,q2,q3⟩:=V.cel hf x i e1 e2
  refine ⟨c,cv,q1,cellK hf q1 q2,fun v hv=>?_⟩
  obtain ⟨v',q,r⟩:=q3 v hv
  exact ⟨v',q,rl r⟩
 ·obtain ⟨o,es,ep,ho,r⟩:=ns
  exact nin _ o V.nloc ho
 ·obtain ⟨n,cv,h⟩:=V.ncel hf x c hc
  obtain ⟨o,ho,r⟩:=id h
  exact ⟨nin c o n ho,cv,cellK hf hc h⟩
theorem Ys {a:Nat} {name cls:Str} {fs:List (Str×AV)} {v:AV} {c v':Value} {Q:Unit→Shared→Prop} (g:Gd X G) (I:Inv X μ hp s) (V:EnvR X l sc env fr μ s.heap) (r:VR X μ s.heap (.ref a) c)
  (ho:hp[a]? = some (.inst cls fs)) (rv:VR X μ s.heap v v') (hok:G.okf cls name=true) (hlen:fs.length<100)
  (k:∀ s',Le (own sc env) μ s μ s'→Inv X μ (hp.set a (.inst cls (qY name v fs))) s'→EnvR X l sc env fr μ s'.heap→Q () s'):wpAny (model prog w) A (setAttr c name v') Q E s:=by
 obtain ⟨p,h1,rfl⟩:=r.ref_
 obtain ⟨x,dx,C,es,m,sl,rfl,e1,e2,e3,e4,e5,e6,e7⟩:=(I.rep _ _ _ h1 ho).inst_
 obtain ⟨C',c1,c2,c3⟩:=g.okf cls name hok
 rw [e1] at c1;cases c1
 obtain ⟨⟨hg,hk⟩,hh,hset,hp0⟩:=jb e5
 obtain ⟨mL,nsL,_⟩:=id V.loc
 have hfld:findIn X.K (.ref C) name=some none:=beq_iff_eq.mp c3
 have dxA:dx∈zh μ:=yX.mpr ⟨a,_,h1,.tail _ (.head _)⟩
 have dxL:dx≠env.locals:=fun e=>V.nloc (e▸dxA)
 have F0:Fr ({}:Heap) env.locals s.heap mL:=⟨nsL,fun b o e=>by simp [Heap.get?] at e,Nat.zero_le _⟩
 have N0:News ({}:Heap) env.locals s.heap ([]++(dx,dictOf es m)::Wg s.heap env.locals dx):=fun p hp=>by
  rcases List.mem_cons.mp hp with rfl | hp
  ·exact ⟨e3,dxL,rfl⟩
  ·obtain ⟨b,o⟩:=p
   obtain ⟨q1,q2,q3⟩:=jV.mp hp
   exact ⟨q3,q1,rfl⟩
 refine set_plain (I.kin g.K) (jE e2 e3) hset ?_
 refine osa_dict (s:={ s with toks:=s.toks+1 }) (es:=putL name (PyData.keyHash w.params name) (.str name (s.toks+1)) v' es) (n:=putN name es m) F0 N0 (I.kin g.K) (jE e2 e3) rfl hp0 (by unfold takerIn;rw [hfld];rfl) hh
  (by rw [lookIn_dict];exact e4.look) (fun p hp=>nomatch hp) (fun p hp=>by obtain ⟨b,o⟩:=p;exact (jV.mp hp).2.1) (by rw [putName_dict]) rfl ?_ fun h' F' N'=>?_
 ·have l:=(e4.put (name:=name) (hs:=PyData.keyHash w.params name) (t:=s.toks+1) rv).length
  have l2:=ZY (name:=name) (v:=v) (fs:=fs)
  lia
 ·have kp:∀ b o,b≠dx→b≠env.locals→s.heap.get? b=some o→h'.get? b=some o:=fun b o n1 n2 e=>(N' (b,o) (List.mem_cons_of_mem _ (jV.mpr ⟨n2,n1,e⟩))).1
  have hd':=(N' (dx,_) (.head _)).1
  have xA:x∈zh μ:=yX.mpr ⟨a,_,h1,.head _⟩
  have xL:x≠env.locals:=fun e=>V.nloc (e▸xA)
  have xdx:x≠dx:=fun e=>by rw [e,e3] at e2;cases e2
  have oldL:=nsL
  obtain ⟨oL,esL,epL,hoL,hdL,_⟩:=oldL
  have nsL':=F'.ns
  have fx:∀ b o,s.heap.get? b=some o→yb o→h'.get? b=some o:=fun b o e f=>kp b o (fun q=>by
    rw [q,e3] at e;cases e;exact Mut.notFixed (.inr (.inr (.inl rfl))) f) (fun q=>yJ V b o (.inl q) e f) e
  have R:OR X μ h' (.inst cls (qY name v fs)) (x,some dx):=.inst (n:=putN name es m) e1 (kp x _ xdx xL e2) hd' ((e4.put rv).mono (List.prefix_refl _) fx) e5 (fun p hp=>by
    rcases z31 hp with h | ⟨q,h1,h2⟩
    ·rw [h];exact c3
    ·rw [← h2];exact e6 q h1) (by have:=ZY (name:=name) (v:=v) (fs:=fs);lia)
  obtain ⟨I',L'⟩:=I.updS (s':={ s with heap:=h',toks:=s.toks+1+1 }) (S:=fun b=>b=env.locals) (fun b h=>h▸⟨V.nloc,V.bloc⟩)
   (fun b o h e=>⟨fun f=>yJ V b o (.inl h) e f,by obtain ⟨o',es',ep',ho',_⟩:=nsL';exact ⟨o',h▸ho'⟩⟩) h1
   (fun b o n1 n2 e=>kp b o (fun q=>n1 (q▸.tail _ (.head _))) n2 e) R rfl rfl
  exact k _ (L'.weak fun b h=>.inl h) I' (V.leLoc I L' nsL nsL')
theorem PRs.any {μ:Mu} {h:Heap} {k:Int} {kvs:List (Int×AV)} {es:List (Int×Value)} (r:PRs X μ h kvs es):kvs.any (fun kv=>kv.1=k)=es.any (fun kv=>kv.1=k):=by
 induction r with
 | nil=>rfl
 | cons _ _ ih=>rw [List.any_cons,List.any_cons,ih]
theorem PRs.put {μ:Mu} {h:Heap} {k:Int} {v:AV} {w:Value} (rv:VR X μ h v w) {kvs:List (Int×AV)} {es:List (Int×Value)} (r:PRs X μ h kvs es):PRs X μ h (Q8 kvs k v) (stored es k w):=by
 unfold Q8 stored
 rw [r.any (k:=k)]
 split <;> rename_i hh <;> clear hh
 ·induction r with
  | nil=>exact .nil
  | @cons k' v' w' _ _ a _ ih =>
   rw [List.map_cons,List.map_cons]
   by_cases q:k'=k
   ·rw [if_pos q,if_pos q];exact .cons rv ih
   ·rw [if_neg q,if_neg q];exact .cons a ih
 ·induction r with
  | nil=>exact .cons rv .nil
  | cons a _ ih=>exact .cons a ih
theorem z3a (kvs:List (Int×AV)) (k:Int) (v:AV):(Q8 kvs k v).length≤kvs.length+1:=by
 unfold Q8
 split
 ·rw [List.length_map];exact Nat.le_succ _
 ·rw [zX];exact Nat.le_refl _
theorem Xh {o i v:AV} {c d v':Value} {hp'':Hp} {Q:Unit→Shared→Prop} (e:wF hp o i v=some hp'') (I:Inv X μ hp s) (ro:VR X μ s.heap o c) (ri:VR X μ s.heap i d) (rv:VR X μ s.heap v v')
  (k:∀ s',Le noS μ s μ s'→Inv X μ hp'' s'→Q () s'):wpAny (model prog w) A (setItem c d v') Q E s:=by
 obtain ⟨a,h1,e⟩:=zf e
 obtain ⟨j,h2,e⟩:=zf e
 rw [xY h1] at ro
 rw [yg h2] at ri
 obtain ⟨t,rfl⟩:=ri.int_
 cases hq:xy hp a with
 | some kvs =>
  rw [hq] at e
  have e:(if kvs.length<small then some (hp.set a (.dict (Q8 kvs j v))) else none)=some hp'':=e
  obtain ⟨z,rfl⟩:=zr e
  obtain ⟨b,es,rfl,g1,m,p,sm,_⟩:=I.dict_at ro (jz hq) prog w
  refine wpAny_setItem_pairs (k:=j) (by show Value.isInt j (.int j t)=true;simp [Value.isInt]) m (fun h' hm hs=>?_) (by rw [← p.len];exact yY (Nat.le_of_lt z))
  have hk:∀ b' o,b'∉ads (b,none)→s.heap.get? b'=some o→h'.get? b'=some o:=fun b' o hb e=>(hs.2 b' (fun h=>hb (by rw [h];exact .head _))).trans e
  obtain ⟨I',a'⟩:=I.upd (h':=h') (t:=s.toks+1) (o':=.dict (Q8 kvs j v)) g1 hk (.dict hm ((p.put rv).mono (List.prefix_refl _) fun b' o e fx=>hk b' o (fun hb=>by
   obtain ⟨o',es',ep,ho,hc,_⟩:=m
   rw [jL hb,ho] at e
   cases e
   exact Mut.notFixed (.inr (.inr (.inl hc.1))) fx) e) sm (Nat.le_trans (z3a _ _ _) z))
  exact k _ a' I'
 | none =>
 rw [hq] at e
 obtain ⟨xs,h3,e⟩:=zf e
 obtain ⟨h,rfl⟩:=zr e
 obtain ⟨b,items,m,rfl,g1,hl,z,r⟩:=I.list_at ro (xu h3)
 have l:=r.size
 have hz:xs.length≤1048576:=h.2.2
 refine ki_setAt hl h.1 (by lia) (by lia) ?_
 obtain ⟨I',a'⟩:=Y3 (t:=s.toks) I g1 hl (f:=fun x=>x.setIfInBounds j.toNat v') (xs:=xs.set j.toNat v) (by rw [List.length_set];exact z) (by rw [Array.toList_setIfInBounds];exact r.set rv _)
 exact k _ a' I'
theorem Frs.but {h h':Heap} {c:Addr} (f:Frs X l μ h) (hsb:∀ b,b≠c→h'.get? b=h.get? b) (hc:∀ o,h.get? c=some o→isD o=true→∃ o',h'.get? c=some o'∧isD o'=true):Frs X l μ h':=f.mono fun b o n e d=>by
 refine ⟨n,?_⟩
 by_cases q:b=c
 ·rw [q] at e ⊢;exact hc o e d
 ·exact ⟨o,(hsb b q).trans e,d⟩
noncomputable def Zk (cb:Bool) (sc:Sc) (env:Env):Addr→Prop:=fun b=>b=env.locals∨(cb=true∧sc.fl=false∧∃ x,env.cells.lookup x=some b)
theorem xr {cb:Bool} {sc:Sc} {env:Env} {b:Addr} (h:Zk cb sc env b):own sc env b:=h.imp id (·.2)
theorem Flg.set {sc:Sc} {env:Env} {fr:AFr} {μ:Mu} {i:Nat} {o:Option AV} (F:Flg sc env fr μ) (h:∀ y j,(sc.kind y=some .cell∨sc.kind y=some .free)→sc.slot y=some j→i≠j):Flg sc env (fr.set i o) μ:=fun x j h1 h2=>by
 obtain ⟨c,a,q1,q2,q3⟩:=F x j h1 h2
 exact ⟨c,a,q1,by rw [List.getElem?_set_ne (h x j h1 h2)];exact q2,q3⟩
theorem ZO {cb:Bool} {x:Str} {i:Nat} {v:AV} {v':Value} {Q:Unit→Shared→Prop} (I:Inv X μ hp s) (V:EnvR X l sc env fr μ s.heap) (hk:sc.kind x=some .local∨sc.fl=false∧sc.kind x=some .cell) (hcb:sc.kind x=some .cell→cb=true) (hs:sc.slot x=some i) (hi:i<fr.length)
  (rv:VR X μ s.heap v v') (k:∀ s',Le (Zk cb sc env) μ s μ s'→Inv X μ hp s'→EnvR X l sc env (fr.set i (some v)) μ s'.heap→Q () s'):wpAny (model prog w) A (storeName env x v') Q E s:=by
 have kd:=V.kind x
 have other:∀ y j,y≠x→sc.slot y=some j→(fr.set i (some v))[j]? = fr[j]? := fun y j hne hj=>by
  rw [List.getElem?_set_ne];intro h;subst h;exact hne (V.inj y x _ hj hs)
 rcases hk with hk | ⟨hf,hk⟩
 ·obtain ⟨m,ns,hm⟩:=V.loc
  refine wpAny_storeName_local (kd▸hk) ns (fun h' hn hsb=>?_) (by rw [V.fn];rfl)
  have nsL':=hn
  obtain ⟨I',L'⟩:=I.own (s':={ s with heap:=h',toks:=s.toks+1 }) (S:=fun b=>b=env.locals) (fun b h=>h▸⟨V.nloc,V.bloc⟩)
    (fun b o h e=>⟨fun f=>yJ V b o (.inl h) e f,by obtain ⟨o',es',ep',ho',_⟩:=nsL';exact ⟨o',h▸ho'⟩⟩)
    (fun b o n e=>(hsb.2 b n).trans e) rfl rfl
  have rl:∀ {x:AV} {v:Value},VR X μ s.heap x v→VR X μ h' x v:=fun r=>r.leOwn I V (s':={ s with heap:=h',toks:=s.toks+1 }) (L'.weak fun b h=>.inl h)
  have lc:sc.fl=false→∀ x c,env.cells.lookup x=some c→c≠env.locals:=fun hf x c h e=>by
   obtain ⟨_,cv,o,ho,hd⟩:=V.ncel hf x c h
   obtain ⟨o',es,ep,ho',hd',_⟩:=ns
   rw [e,ho'] at ho;cases ho;rw [hd] at hd';cases hd'
  have cellK:sc.fl=false→∀ {x:Str} {c:Addr} {cv:Option Value},env.cells.lookup x=some c→s.heap.IsCell c cv→h'.IsCell c cv:=fun hf _ _ _ hx h=>by
   obtain ⟨o,ho,r⟩:=h;exact ⟨o,(hsb.2 _ (lc hf _ _ hx)).trans ho,r⟩
  refine k _ (L'.weak fun b h=>.inl h) I' ⟨V.fn,V.glob,V.bltn,V.kind,⟨_,hn,fun y j u e1 e2 e3=>?_⟩,fun hf y j e1 e2=>?_,V.nloc,V.bloc,fun hf=>(V.flg hf).set fun y j h1 h2 e=>(by
    have:=V.inj y x i (e▸h2) hs;subst this;rw [hk] at h1;rcases h1 with h | h <;> cases h),V.cod,fun hf y c hc=>?_,V.bcel,V.apart,V.inj,by rw [List.length_set];exact V.wid,V.slt,
   V.frs.but (fun b n=>hsb.2 b n) fun o _ _=>by obtain ⟨o',es',ep',ho',hd',_⟩:=nsL';exact ⟨o',ho',w9 hd'⟩⟩
  ·by_cases hy:y=x
   ·subst hy
    rw [hs] at e2;cases e2
    rw [List.getElem?_set_self hi] at e3;cases e3
    exact ⟨v',by simp,rl rv⟩
   ·rw [other y j hy e2] at e3
    obtain ⟨u',q,r⟩:=hm y j u e1 e2 e3
    exact ⟨u',by simp [hy,q],rl r⟩
  ·have hy:y≠x:=fun h=>by subst h;rw [hk] at e1;rcases e1 with h | h <;> cases h
   obtain ⟨c,cv,q1,q2,q3⟩:=V.cel hf y j e1 e2
   refine ⟨c,cv,q1,cellK hf q1 q2,fun u hu=>?_⟩
   rw [other y j hy e2] at hu
   obtain ⟨u',q,r⟩:=q3 u hu
   exact ⟨u',q,rl r⟩
  ·obtain ⟨n,cv,h⟩:=V.ncel hf y c hc
   exact ⟨n,cv,cellK hf hc h⟩
 ·obtain ⟨c,cv,q1,q2,q3⟩:=V.cel hf x i (.inl hk) hs
  refine wpAny_storeName_cell V.fn (kd▸hk) q1 q2 fun h' hc' hsb=>?_
  obtain ⟨m,ns,hm⟩:=V.loc
  have hcL:env.locals≠c:=fun e=>by
   obtain ⟨o,ho,hd⟩:=q2
   obtain ⟨o',es,ep,ho',hd',_⟩:=ns
   rw [e,ho] at ho';cases ho';rw [hd] at hd';cases hd'
  obtain ⟨I',L'⟩:=I.own (s':={ s with heap:=h' }) (S:=fun (b:Addr)=>b=c) (fun b (h:b=c)=>by rw [h];exact ⟨(V.ncel hf x c q1).1,V.bcel hf x c q1⟩)
    (fun b o (h:b=c) e=>⟨fun f=>yJ V b o (.inr ⟨hf,x,by rw [h];exact q1⟩) e f,by obtain ⟨o',ho',_⟩:=hc';exact ⟨o',by rw [h];exact ho'⟩⟩)
    (fun b o n e=>(hsb.2 b n).trans e) rfl rfl
  have W:Le (Zk cb sc env) μ s μ { s with heap:=h' }:=L'.weak fun b (h:b=c)=>.inr ⟨hcb hk,hf,x,by rw [h];exact q1⟩
  have rl:∀ {x:AV} {v:Value},VR X μ s.heap x v→VR X μ h' x v:=fun r=>r.leOwn I V (s':={ s with heap:=h' }) (W.weak fun _=>xr)
  have cellK:∀ {y:Str} {c':Addr} {cv:Option Value},y≠x→env.cells.lookup y=some c'→s.heap.IsCell c' cv→h'.IsCell c' cv:=fun hy hx h=>by
   obtain ⟨o,ho,r⟩:=h;exact ⟨o,(hsb.2 _ (fun e=>hy (V.apart hf _ _ c (e▸hx) q1))).trans ho,r⟩
  refine k _ W I' ⟨V.fn,V.glob,V.bltn,V.kind,⟨m,ns.sameBut hsb hcL,fun y j u e1 e2 e3=>?_⟩,fun _ y j e1 e2=>?_,V.nloc,V.bloc,fun h=>(by rw [hf] at h;cases h),V.cod,fun _ y c' hc=>?_,V.bcel,V.apart,V.inj,by rw [List.length_set];exact V.wid,V.slt,
   V.frs.but (fun b n=>hsb.2 b n) fun o e d=>by obtain ⟨o',ho',hd'⟩:=q2;rw [e] at ho';cases ho';unfold isD at d;rw [hd'] at d;cases d⟩
  ·have hy:y≠x:=fun h=>by subst h;rw [hk] at e1;cases e1
   rw [other y j hy e2] at e3
   obtain ⟨u',q,r⟩:=hm y j u e1 e2 e3
   exact ⟨u',q,rl r⟩
  ·by_cases hy:y=x
   ·subst hy
    rw [hs] at e2;cases e2
    refine ⟨c,some v',q1,hc',fun u hu=>?_⟩
    rw [List.getElem?_set_self hi] at hu;cases hu
    exact ⟨v',rfl,rl rv⟩
   ·obtain ⟨c',cv',p1,p2,p3⟩:=V.cel hf y j e1 e2
    refine ⟨c',cv',p1,cellK hy p1 p2,fun u hu=>?_⟩
    rw [other y j hy e2] at hu
    obtain ⟨u',q,r⟩:=p3 u hu
    exact ⟨u',q,rl r⟩
  ·by_cases hy:y=x
   ·subst hy;rw [q1] at hc;cases hc;exact ⟨(V.ncel hf y c q1).1,_,hc'⟩
   ·obtain ⟨n,cv',h⟩:=V.ncel hf y c' hc
    exact ⟨n,cv',cellK hy hc h⟩
theorem Yn {cb:Bool} {x:Str} {i:Nat} {v:AV} {v':Value} {Q:Unit→Shared→Prop} (I:Inv X μ hp s) (V:EnvR X l sc env fr μ s.heap) (hk:sc.kind x=some .local∨sc.fl=false∧sc.kind x=some .cell) (hcb:sc.kind x=some .cell→cb=true) (hs:sc.slot x=some i) (hi:i<fr.length)
  (rv:VR X μ s.heap v v') (k:∀ s',Le (Zk cb sc env) μ s μ s'→Inv X μ hp s'→EnvR X l sc env (fr.set i (some v)) μ s'.heap→Q () s'):wpAny (model prog w) A (bindName env x v') Q E s:=wpAny_bindName (ZO I V hk hcb hs hi rv k)
theorem j2 {x:Str} {i:Nat} {v:AV} {v':Value} {h2:Hp} {Q:Unit→Shared→Prop} (hf:sc.fl=true) (I:Inv X μ hp s) (V:EnvR X l sc env fr μ s.heap) (hk:sc.kind x=some .cell) (hs:sc.slot x=some i) (hst:qG fr hp i v=some h2)
  (rv:VR X μ s.heap v v') (k:∀ s',Le noS μ s μ s'→Inv X μ h2 s'→Q () s'):wpAny (model prog w) A (bindName env x v') Q E s:=by
 refine wpAny_bindName ?_
 obtain ⟨a,h1,hst⟩:=zf hst
 obtain ⟨o,h3,rfl⟩:=yC hst
 obtain ⟨c,a',e1,e2,e3⟩:=V.flg hf x i (.inl hk) hs
 rw [Yb h1] at e2;cases e2
 obtain ⟨c',cv,q,c1,_⟩:=(I.rep _ _ _ e3 (WK h3)).cell_
 cases q
 refine wpAny_storeName_cell V.fn ((V.kind x)▸hk) e1 c1 fun h' hc' hsb=>?_
 have kp:∀ b o,b∉ads (c,none)→s.heap.get? b=some o→h'.get? b=some o:=fun b o n e=>(hsb.2 b (fun q=>n (q▸.head _))).trans e
 obtain ⟨I',L'⟩:=I.upd (t:=s.toks) (h':=h') (o':=.cell (some v)) e3 kp (.cell hc' fun u e=>by
  cases e
  exact ⟨v',rfl,rv.mono (List.prefix_refl _) fun b o e f=>kp b o (fun hb=>by
   obtain ⟨o',ho',hd'⟩:=c1
   rw [jL hb,ho'] at e;cases e
   exact Mut.notFixed (.inr (.inr (.inr (.inl ⟨_,hd'⟩)))) f) e⟩)
 exact k _ L' I'
end
end Mine
end
end
section
noncomputable section
namespace Mine
open PySem PySem.W PySem.Calls
noncomputable def z0s (X:Cx):Callee→Addr→Prop
 | .fn x,f=>nsIn X.K mainGlobals x=some (some (.ref f))
 | .cls x,f=>nsIn X.K mainGlobals x=some (some (.ref f))
 | .has _ _,_=>False
 | .lam _,_=>False
 | .word x,f=>nsIn X.K mainGlobals x=some (some (.ref f))
 | .meth c x,f=>∃ C,nsIn X.K mainGlobals c=some (some (.ref C))∧findIn X.K (.ref C) x=some (some (.ref f))∧typeIn X.K (.ref f)=some (.type "function")
structure SndCF (prog:Program) (w:World) (X:Cx) (n:Nat) (cf:CF):Prop where
 run:∀ {c:Callee} {args:List AV} {hp:Hp} {A:Around} {l:List Env} {μ:Mu} {s:Shared} {Q:Value→Shared→Prop} {E:Value→Shared→Prop} {f:Addr} {args':List Value},
  Room n A l→Frs X l μ s.heap→Inv X μ hp s→z0s X c f→VRs X μ s.heap args args'→PO X l μ s (cf c args hp) Q E→wpAny (model prog w) A (call (.ref f) args') Q E s
 lam:∀ {lm:LamS} {cs:List Nat} {hp:Hp} {A:Around} {l:List Env} {μ:Mu} {s:Shared} {Q:Value→Shared→Prop} {E:Value→Shared→Prop} {f:Addr},
  Room n A l→Frs X l μ s.heap→Inv X μ hp s→WQ μ s.heap lm cs f→PO X l μ s (cf (.lam lm) (cs.map AV.ref) hp) Q E→wpAny (model prog w) A (call (.ref f) []) Q E s
 word:∀ {x:Str} {args:List AV} {hp:Hp} {A:Around} {l:List Env} {μ:Mu} {s:Shared} {Q:Value→Shared→Prop} {E:Value→Shared→Prop} {f:Addr} {args':List Value},
  A.frames=some l→A.depth+3<recursionLimit→A.units+303<cLine→Frs X l μ s.heap→Inv X μ hp s→nsIn X.K mainGlobals x=some (some (.ref f))→VRs X μ s.heap args args'→PO X l μ s (cf (.word x) args hp) Q E→wpAny (model prog w) A (call (.ref f) args') Q E s
 wordAt:∀ {x:Str} {args:List AV} {hp:Hp},cf (.word x) args hp≠.stuck→∃ f,nsIn X.K mainGlobals x=some (some (.ref f))
 keep:∀ {c:Callee} {args:List AV} {hp:Hp} {f:Addr},cf c args hp≠.stuck→z0s X c f→keepIn X.K (.ref f)=true
 meth:∀ {c x:Str} {args:List AV} {hp:Hp},cf (.meth c x) args hp≠.stuck→∃ f,z0s X (.meth c x) f
 has:∀ {c x:Str} {args:List AV} {hp:Hp},cf (.has c x) args hp≠.stuck→∃ f,z0s X (.meth c x) f
noncomputable abbrev PT (X:Cx) (l:List Env) (μ:Mu) (s:Shared) (o:Out Bool) (Q:Bool→Shared→Prop) (E:Value→Shared→Prop):Prop:=PG (fun _ _ a b=>a=b) X l μ s o Q E
noncomputable abbrev PEs (X:Cx) (l:List Env) (μ:Mu) (s:Shared) (o:Out (List AV)) (Q:List Value→Shared→Prop) (E:Value→Shared→Prop):Prop:=PG (fun μ h=>VRs X μ h) X l μ s o Q E
section
variable (prog:Program) (w:World) (X:Cx) (n:Nat) (cf:CF) (sc:Sc) (env:Env)
noncomputable def zw (t:Sem Value) (x:XE):Prop:=∀ {fr:AFr} {hp:Hp} {A:Around} {l:List Env} {μ:Mu} {s:Shared} {Q:Value→Shared→Prop} {E:Value→Shared→Prop},
  Room n A l→Inv X μ hp s→EnvR X l sc env fr μ s.heap→PO X l μ s (x cf fr hp) Q E→wpAny (model prog w) A t Q E s
noncomputable def wf (t:Sem Bool) (x:XT):Prop:=∀ {fr:AFr} {hp:Hp} {A:Around} {l:List Env} {μ:Mu} {s:Shared} {Q:Bool→Shared→Prop} {E:Value→Shared→Prop},
  Room n A l→Inv X μ hp s→EnvR X l sc env fr μ s.heap→PT X l μ s (x cf fr hp) Q E→wpAny (model prog w) A t Q E s
inductive SndL:List (Sem Value)→List XE→Prop
 | nil:SndL [] []
 | cons {t:Sem Value} {x:XE} {ts:List (Sem Value)} {xs:List XE}:zw prog w X n cf sc env t x→SndL ts xs→SndL (t::ts) (x::xs)
inductive SndTs:List (Sem Bool)→List XT→Prop
 | nil:SndTs [] []
 | cons {t:Sem Bool} {x:XT} {ts:List (Sem Bool)} {xs:List XT}:wf prog w X n cf sc env t x→SndTs ts xs→SndTs (t::ts) (x::xs)
end
section
variable {X:Cx} {l:List Env} {μ:Mu} {s:Shared} {hp:Hp} {E:Value→Shared→Prop}
theorem PG.pe {v:AV} {Q:Value→Shared→Prop} (k:PO X l μ s (.ok v hp) Q E):PE X μ s v hp Q:=k
theorem PG.tk {b:Bool} {Q:Bool→Shared→Prop} (k:PT X l μ s (.ok b hp) Q E) (I:Inv X μ hp s) (t:Nat):Q b { s with toks:=t }:=k b μ _ (.tok t) (I.tok t) rfl
theorem PG.ne {α β:Type} {rel:Mu→Heap→α→β→Prop} {o:Out α} {Q:β→Shared→Prop} (k:PG rel X l μ s o Q E):o≠.stuck:=fun h=>by rw [h] at k;exact k
end
section
variable {prog:Program} {w:World} {X:Cx} {G:GTab} {n:Nat} {cf:CF} {sc:Sc} {env:Env}
theorem Xd {c:Nat} {pos:Pos}:zw prog w X n cf sc env (eval (.Constant .none c pos) env) (z8 .none):=fun _ I _ k=>wpAny_pure (k.pe.here I .none)
theorem Xe {b:Bool} {c:Nat} {pos:Pos}:zw prog w X n cf sc env (eval (.Constant (.bool b) c pos) env) (z8 (.bool b)):=fun _ I _ k=>wpAny_pure (k.pe.here I (.bool b))
theorem QW {i:Int} {c:Nat} {pos:Pos}:zw prog w X n cf sc env (eval (.Constant (.int i) c pos) env) (z8 (.int i)):=fun _ I _ k=>wpAny_mkInt (k.pe.tok I (.int _ _))
theorem QV {x:Str} {c:Nat} {pos:Pos} (z:x.length≤small):zw prog w X n cf sc env (eval (.Constant (.str x) c pos) env) (z8 (.str x)):=fun _ I _ k=>wpAny_mkText (k.pe.tok I (.str _ z))
theorem z4k {l r:Expr} {op:Operator} {pos:Pos} {x y:XE} (hl:zw prog w X n cf sc env (eval l env) x) (hr:zw prog w X n cf sc env (eval r env) y) :
  zw prog w X n cf sc env (eval (.BinOp l op r pos) env) (zV op x y):=fun R I V k =>
 wpAny_BinOp (hl R I V (k.bind fun _ _ _ _ _ L1 I1 ra k=>hr R I1 (V.le I L1) (k.bind fun _ _ _ _ _ L2 I2 rb k=>z0p I2 (ra.le I1 L2) rb k)))
theorem z4c {x:Expr} {pos:Pos} {y:XE} (hx:zw prog w X n cf sc env (eval x env) y):zw prog w X n cf sc env (eval (.UnaryOp .Not x pos) env) (z0o y):=fun R I V k =>
 wpAny_UnaryOp (hx R I V (k.bind fun _ _ _ _ _ L1 I1 ra k=>by
  obtain ⟨v,e,k⟩:=k.of
  obtain ⟨b,e3,rfl⟩:=yC e
  exact PyProof.Rows.not_of (wD e3 I1 ra fun t=>k.pe.tok I1 (.bool _))))
theorem zGs {t a b:Expr} {pos:Pos} {x:XT} {y z:XE} (ht:wf prog w X n cf sc env (isTrue t env (eval t env)) x) (ha:zw prog w X n cf sc env (eval a env) y) (hb:zw prog w X n cf sc env (eval b env) z) :
  zw prog w X n cf sc env (eval (.IfExp t a b pos) env) (cIf x y z):=fun R I V k =>
 wpAny_IfExp (ht R I V (k.bind fun c c' _ _ _ L1 I1 e k=>by
  cases e
  cases c with
  | true=>exact ha R I1 (V.le I L1) k
  | false=>exact hb R I1 (V.le I L1) k))
theorem z4d {x:Expr} {pos:Pos} {y:XE} (hx:zw prog w X n cf sc env (eval x env) y):zw prog w X n cf sc env (eval (.UnaryOp .USub x pos) env) (Zo y):=fun R I V k =>
 wpAny_UnaryOp (hx R I V (k.bind fun _ _ _ _ _ L1 I1 ra k=>by
  obtain ⟨v,e,k⟩:=k.of
  obtain ⟨b,e3,rfl⟩:=yC e
  rw [yg e3] at ra
  obtain ⟨t,rfl⟩:=ra.int_
  exact P.neg_int (k.pe.tok I1 (.int _ _))))
theorem ye {ts:List (Sem Value)} {xs:List XE} (h:SndL prog w X n cf sc env ts xs):∀ {fr:AFr} {hp:Hp} {A:Around} {l:List Env} {μ:Mu} {s:Shared} {Q:List Value→Shared→Prop} {E:Value→Shared→Prop},
  Room n A l→Inv X μ hp s→EnvR X l sc env fr μ s.heap→PEs X l μ s (evs xs cf fr hp) Q E→wpAny (model prog w) A (spliced (ts.map fun t=>(false,t))) Q E s:=by
 induction h with
 | nil=>exact fun _ I _ k=>spliced_nil (k [] _ _ .refl I .nil)
 | cons ht hr ih =>
  exact fun R I V k=>spliced_cons (ht R I V (k.bind fun _ _ _ _ _ L1 I1 ra k=>ih R I1 (V.le I L1) (k.bind fun _ _ _ _ _ L2 I2 rs k=>k _ _ _ .refl I2 (.cons (ra.le I1 L2) rs))))
theorem WH {γ δ:Type} {rel:Mu→Heap→γ→δ→Prop} {l:List Env} {μ:Mu} {s:Shared} {Q':List Value→Shared→Prop} {Q:δ→Shared→Prop} {E:Value→Shared→Prop} {xs:List XE}:∀ {fr:AFr} {hp:Hp} {f:List AV→Hp→Out γ},PG rel X l μ s ((evs xs cf fr hp).bind f) Q E →
  (∀ vs vs' hp' μ' s',vs.length=xs.length→Le noS μ s μ' s'→Inv X μ' hp' s'→VRs X μ' s'.heap vs vs'→PG rel X l μ' s' (f vs hp') Q E→Q' vs' s')→PEs X l μ s (evs xs cf fr hp) Q' E:=by
 intro fr hp f k h
 have len:∀ {vs:List AV} {hp':Hp},evs xs cf fr hp=.ok vs hp'→vs.length=xs.length:=by
  clear k h
  induction xs generalizing hp with
  | nil=>intro vs hp' e;cases e;rfl
  | cons x xs ih =>
   intro vs hp' e
   have e:(x cf fr hp).bind (fun v h₁=>(evs xs cf fr h₁).bind fun vs h₂=>.ok (v::vs) h₂)=.ok vs hp':=e
   cases q:x cf fr hp with
   | stuck=>rw [q] at e;cases e
   | exc c h=>rw [q] at e;cases e
   | ok v h₁ =>
    rw [q] at e
    have e:(evs xs cf fr h₁).bind (fun vs h₂=>.ok (v::vs) h₂)=.ok vs hp':=e
    cases q2:evs xs cf fr h₁ with
    | stuck=>rw [q2] at e;cases e
    | exc c h=>rw [q2] at e;cases e
    | ok ws h₂=>rw [q2] at e;cases e;exact congrArg (·+1) (ih q2)
 cases q:evs xs cf fr hp with
 | stuck=>rw [q] at k;exact k
 | exc c h'=>rw [q] at k;exact k
 | ok vs hp'=>rw [q] at k;exact fun b μ' s' L I r=>h vs b hp' μ' s' (len q) L I r (PG.le (o:=f vs hp') k L)
theorem yl (pos:Pos) (ts:List (Sem Value)):backTo pos (ts.map fun t=>(false,t))=ts.map fun t=>(false,t):=by
 unfold backTo
 rw [List.map_map]
 apply List.map_congr_left
 intro t _
 rfl
theorem yK (env:Env):∀ {es:List Expr},es.all q9=true→starEach es env=(evalEach es env).map fun t=>(false,t)
 | [],_=>rfl
 | e::es,h=>by
  rw [List.all_cons,Bool.and_eq_true] at h
  have ih:=yK env (es:=es) h.2
  cases e <;> first | (exact nob h.1) | (exact congrArg (List.cons _) ih)
theorem zGd {k m:Nat} (h:k=m) (z:m≤1000):k≤small:=by rw [h];exact Nat.le_trans z (by decide)
theorem z1a {es:List Expr} {xs:List XE} {pos:Pos} (hs:es.all q9=true) (hl:xs.length≤1000) (h:SndL prog w X n cf sc env (evalEach es env) xs):zw prog w X n cf sc env (eval (.List es pos) env) (zT xs):=by
 intro fr hp A l μ s Q E R I V k
 refine PyProof.Rows.List_ ?_
 rw [yK env hs,yl]
 refine ye h R I V (WH k fun vs vs' h1 μ1 s1 z L1 I1 r k=>?_)
 have z:=zGd z hl
 refine wpAny_newObj_type (k.pe.list (t:=s1.toks) (j:=0) I1 z (by rw [List.toList_toArray];exact r)) ?_
 show vs'.toArray.size≤sizeLine
 rw [List.size_toArray,r.length];exact yY z
theorem z4a {es:List Expr} {xs:List XE} {c:Nat} {pos:Pos} (hs:es.all q9=true) (hl:xs.length≤1000) (h:SndL prog w X n cf sc env (evalEach es env) xs):zw prog w X n cf sc env (eval (.Tuple es c pos) env) (xG xs):=by
 intro fr hp A l μ s Q E R I V k
 refine PyProof.Rows.Tuple_ ?_
 rw [yK env hs,yl]
 refine ye h R I V (WH k fun vs vs' h1 μ1 s1 z L1 I1 r k=>?_)
 have z:=zGd z hl
 refine wpAny_newObj_type (k.pe _ μ1 _ (.grow (t:=s1.toks) fun b o e=>Heap.get?_push_of_some _ e) (I1.grow fun b o e=>Heap.get?_push_of_some _ e)
  (.tup ⟨_,Heap.get?_push_size _ rfl,rfl,_,rfl⟩ z (by rw [List.toList_toArray];exact r.mono (List.prefix_refl _) fun b o e _=>Heap.get?_push_of_some _ e))) ?_
 show vs'.toArray.size≤sizeLine
 rw [List.size_toArray,r.length];exact yY z
theorem WV {op:BoolOp} {pos:Pos} {ts:List (Sem Value)} {xs:List XE} (h:SndL prog w X n cf sc env ts xs):zw prog w X n cf sc env (boolOp pos op ts) (wa op xs):=by
 induction h with
 | nil=>exact fun _ _ _ k=>k.elim
 | cons ht hr ih =>
  cases hr with
  | nil=>exact ht
  | cons ht2 hr2 =>
  intro fr hp A l μ s Q E R I V k
  rw [boolOp]
  ·refine wpAny_bind (ht R I V (k.bind fun v v' h1 μ1 s1 L1 I1 r k=>?_))
   cases q:qE h1 v with
   | none=>rw [q] at k;exact k.elim
   | some t =>
    rw [q] at k
    refine wpAny_bind (wpAny_standAt (wpAny_bind (wpAny_holding (wD q I1 r fun tk=>?_))))
    have Lt:Le noS μ1 s1 μ1 { s1 with toks:=tk }:=.tok tk
    cases op <;> cases t
    ·exact wpAny_pure (PE.tok k I1 r)
    ·exact ih R (I1.tok tk) ((V.le I L1).le I1 Lt) (PG.le k Lt)
    ·exact ih R (I1.tok tk) ((V.le I L1).le I1 Lt) (PG.le k Lt)
    ·exact wpAny_pure (PE.tok k I1 r)
  ·intro h;cases h
theorem jj {M:Model} {A:Around} {E:Value→Shared→Prop} {s:Shared} {vs keep:List Value} {Q:Unit→Shared→Prop} (h:Q () s):wpAny M A (release vs keep) Q E s:=fun Γ p hΓ=>by
 unfold release
 rw [Sem.wp_release_go];exact h
theorem Yr {pos:Pos}:∀ {ops:List CmpOp} {ts:List (Sem Value)} {xs:List XE},SndL prog w X n cf sc env ts xs→∀ {left:AV} {fr:AFr} {hp:Hp} {A:Around} {l:List Env} {μ:Mu} {s:Shared} {Q:Bool→Shared→Prop} {E:Value→Shared→Prop} {lv:Value},
  Room n A l→Inv X μ hp s→EnvR X l sc env fr μ s.heap→VR X μ s.heap left lv→PT X l μ s (wY left ops xs cf fr hp) Q E→wpAny (model prog w) A (testChain pos lv ops ts) Q E s:=by
 intro ops
 induction ops with
 | nil=>exact fun _ _ _ _ _ _ _ _ _ _ _ _ _ _ _ k=>k.elim
 | cons op ops ih =>
  intro ts xs h left fr hp A l μ s Q E lv R I V rl k
  cases h with
  | nil=>exact k.elim
  | cons ht hr =>
   rename_i t x ts xs
   cases ops with
   | nil =>
    cases hr with
    | cons _ _=>exact k.elim
    | nil =>
    show wpAny _ _ (do let rv ← holding [lv] t;standAt pos;let c ← operate [lv,rv] (compareOp op lv rv);holding [c] (truthy c)) _ _ _
    refine wpAny_bind (wpAny_holding (ht R I V (k.bind fun v v' h1 μ1 s1 L1 I1 r k=>?_)))
    obtain ⟨c,q,k⟩:=k.of
    exact wpAny_bind (wpAny_standAt (wpAny_bind (wpAny_operating (jJ q R I1 (rl.le I L1) r fun tk=>wpAny_holding (wpAny_truthy_bool (PG.tk k I1 tk))))))
   | cons op2 ops =>
    show wpAny _ _ (do
       let rv ← holding [lv] t
       standAt pos
       let c ← holding [lv,rv] (compareOp op lv rv)
       release [lv,rv] [c]
       if ← holding [c,rv] (truthy c) then testChain pos rv (op2::ops) ts else pure false) _ _ _
    refine wpAny_bind (wpAny_holding (ht R I V (k.bind fun v v' h1 μ1 s1 L1 I1 r k=>?_)))
    cases q:xQ op left v h1 with
    | none=>rw [q] at k;exact k.elim
    | some c =>
    rw [q] at k
    refine wpAny_bind (wpAny_standAt (wpAny_bind (wpAny_holding (jJ q R I1 (rl.le I L1) r fun tk=>?_))))
    refine wpAny_bind (jj (wpAny_bind (wpAny_holding (wpAny_truthy_bool ?_))))
    have Lt:Le noS μ1 s1 μ1 { s1 with toks:=tk }:=.tok tk
    cases c with
    | false=>exact wpAny_pure (PG.tk k I1 tk)
    | true=>exact ih hr R (I1.tok tk) ((V.le I L1).le I1 Lt) (r.le I1 Lt) (PG.le k Lt)
end
section
variable {prog:Program} {w:World} {X:Cx} {G:GTab} {n:Nat} {cf:CF} {sc:Sc} {env:Env}
theorem Z3 {pos:Pos}:∀ {ops:List CmpOp} {ts:List (Sem Value)} {xs:List XE},SndL prog w X n cf sc env ts xs→∀ {left:AV} {fr:AFr} {hp:Hp} {A:Around} {l:List Env} {μ:Mu} {s:Shared} {Q:Value→Shared→Prop} {E:Value→Shared→Prop} {lv:Value},
  Room n A l→Inv X μ hp s→EnvR X l sc env fr μ s.heap→VR X μ s.heap left lv→PT X l μ s (wY left ops xs cf fr hp) (fun b s'=>Q (.bool b) s') E→wpAny (model prog w) A (compareChain pos lv ops ts) Q E s:=by
 intro ops
 induction ops with
 | nil=>exact fun _ _ _ _ _ _ _ _ _ _ _ _ _ _ _ k=>k.elim
 | cons op ops ih =>
  intro ts xs h left fr hp A l μ s Q E lv R I V rl k
  cases h with
  | nil=>exact k.elim
  | cons ht hr =>
   rename_i t x ts xs
   cases ops with
   | nil =>
    cases hr with
    | cons _ _=>exact k.elim
    | nil =>
    show wpAny _ _ (do let rv ← holding [lv] t;standAt pos;operate [lv,rv] (compareOp op lv rv)) _ _ _
    refine wpAny_bind (wpAny_holding (ht R I V (k.bind fun v v' h1 μ1 s1 L1 I1 r k=>?_)))
    obtain ⟨c,q,k⟩:=k.of
    exact wpAny_bind (wpAny_standAt (wpAny_operating (jJ q R I1 (rl.le I L1) r fun tk=>PG.tk k I1 tk)))
   | cons op2 ops =>
    show wpAny _ _ (do
       let rv ← holding [lv] t
       standAt pos
       let c ← holding [lv,rv] (compareOp op lv rv)
       release [lv,rv] [c]
       if ← holding [c,rv] (truthy c) then compareChain pos rv (op2::ops) ts else pure c) _ _ _
    refine wpAny_bind (wpAny_holding (ht R I V (k.bind fun v v' h1 μ1 s1 L1 I1 r k=>?_)))
    cases q:xQ op left v h1 with
    | none=>rw [q] at k;exact k.elim
    | some c =>
    rw [q] at k
    refine wpAny_bind (wpAny_standAt (wpAny_bind (wpAny_holding (jJ q R I1 (rl.le I L1) r fun tk=>?_))))
    refine wpAny_bind (jj (wpAny_bind (wpAny_holding (wpAny_truthy_bool ?_))))
    have Lt:Le noS μ1 s1 μ1 { s1 with toks:=tk }:=.tok tk
    cases c with
    | false=>exact wpAny_pure (PG.tk k I1 tk)
    | true=>exact ih hr R (I1.tok tk) ((V.le I L1).le I1 Lt) (r.le I1 Lt) (PG.le k Lt)
theorem z4j {l:Expr} {ops:List CmpOp} {rs:List Expr} {pos:Pos} {x:XE} {ys:List XE} (hs:lastMarks ops rs=false) (hl:zw prog w X n cf sc env (eval l env) x) (hr:SndL prog w X n cf sc env (evalEach rs env) ys) :
  zw prog w X n cf sc env (eval (.Compare l ops rs pos) env) (wV x ops ys):=by
 intro fr hp A fl μ s Q E R I V k
 have k:PT X fl μ s (zj x ops ys cf fr hp) (fun b s'=>Q (.bool b) s') E:=PG.bind k fun a b hp' μ' s' L I e k=>by
  cases e;exact PE.here k I (.bool a)
 show wpAny _ _ (do compareChain pos (← eval l env) ops (markedEach ops rs (evalEach rs env))) _ _ _
 rw [PyProof.Rows.markedEach_of_false _ _ _ hs]
 exact wpAny_bind (hl R I V (k.bind fun a a' h1 μ1 s1 L1 I1 r k=>Z3 hr R I1 (V.le I L1) r k))
theorem z1k {l:Expr} {ops:List CmpOp} {rs:List Expr} {pos:Pos} {x:XE} {ys:List XE} {whole:Sem Value} (hs:lastMarks ops rs=false) (hl:zw prog w X n cf sc env (eval l env) x) (hr:SndL prog w X n cf sc env (evalEach rs env) ys) :
  wf prog w X n cf sc env (isTrue (.Compare l ops rs pos) env whole) (zj x ops ys):=by
 intro fr hp A fl μ s Q E R I V k
 show wpAny _ _ (do testChain pos (← eval l env) ops (markedEach ops rs (evalEach rs env))) _ _ _
 rw [PyProof.Rows.markedEach_of_false _ _ _ hs]
 exact wpAny_bind (hl R I V (k.bind fun a a' h1 μ1 s1 L1 I1 r k=>Yr hr R I1 (V.le I L1) r k))
theorem z1i {x:Expr} {pos:Pos} {t:XT} {whole:Sem Value} (h:wf prog w X n cf sc env (isTrue x env (eval x env)) t):wf prog w X n cf sc env (isTrue (.UnaryOp .Not x pos) env whole) (yn t):=by
 intro fr hp A l μ s Q E R I V k
 show wpAny _ _ (do return !(← isTrue x env (eval x env))) _ _ _
 exact wpAny_bind (h R I V (k.bind fun a b h1 μ1 s1 L1 I1 e k=>wpAny_pure (by cases e;exact k _ μ1 s1 .refl I1 rfl)))
theorem z1l {op:BoolOp} {es:List Expr}:∀ {xs:List XT},SndTs prog w X n cf sc env (es.map fun e=>isTrue e env (eval e env)) xs→wf prog w X n cf sc env (allTrue op es env) (y8 op xs):=by
 induction es with
 | nil =>
  intro xs h
  cases h
  exact fun _ I _ k=>wpAny_pure (k _ _ _ .refl I rfl)
 | cons x es ih =>
  intro xs h
  cases h with
  | cons hx hr =>
  intro fr hp A l μ s Q E R I V k
  show wpAny _ _ (do match op,← isTrue x env (eval x env) with | .And,false=>pure false | .Or,true=>pure true | _,_=>allTrue op es env) _ _ _
  refine wpAny_bind (hx R I V (k.bind fun c c' h1 μ1 s1 L1 I1 e k=>?_))
  cases e
  cases op <;> cases c
  ·exact wpAny_pure (k _ μ1 s1 .refl I1 rfl)
  ·exact ih hr R I1 (V.le I L1) k
  ·exact ih hr R I1 (V.le I L1) k
  ·exact wpAny_pure (k _ μ1 s1 .refl I1 rfl)
theorem z1h {e₀:Expr} {x:XE} (he:∀ whole,isTrue e₀ env whole=(do let v ← whole;standAt e₀.pos;holding [v] (truthy v))) (h:zw prog w X n cf sc env (eval e₀ env) x):wf prog w X n cf sc env (isTrue e₀ env (eval e₀ env)) (yT x):=by
 intro fr hp A l μ s Q E R I V k
 rw [he]
 refine wpAny_bind (h R I V (k.bind fun a a' h1 μ1 s1 L1 I1 r k=>?_))
 obtain ⟨b,e3,k⟩:=k.of
 exact wpAny_bind (wpAny_standAt (wpAny_holding (wD e3 I1 r fun t=>PG.tk k I1 t)))
theorem qD {o:Expr} {attr:Str} {env:Env} {t:Sem Value} (h:qi o=false):attributeBase o attr env t=t:=by
 cases o with
 | Call f as ks p =>
  cases f with
  | Name x q =>
   cases as with
   | cons=>rfl
   | nil =>
    cases ks with
    | cons=>rfl
    | nil=>exact nob h.symm
  | _=>rfl
 | _=>rfl
theorem z1g {o:Expr} {name:Str} {pos:Pos} {x:XE} (g:Gd X G) (hs:qi o=false) (h:zw prog w X n cf sc env (eval o env) x):zw prog w X n cf sc env (eval (.Attribute o name pos) env) (zH x name):=by
 intro fr hp A l μ s Q E R I V k
 show wpAny _ _ (do let o' ← attributeBase o name env (eval o env);standAt pos.atName;let r ← holding [o'] (getAttr o' name true);letTemporaryGo o o' r;pure r) _ _ _
 rw [qD hs]
 refine wpAny_bind (h R I V (k.bind fun a a' h2 μ1 s1 L1 I1 r k=>wpAny_bind (wpAny_standAt (wpAny_bind (wpAny_holding ?_)))))
 cases a with
 | ref a =>
  have k:PO X l μ1 s1 (match h2[a]? with | some (.inst _ fs)=>Out.of (fs.lookup name) h2 | _=>.stuck) Q E:=k
  cases ho:h2[a]? with
  | none=>rw [ho] at k;exact k.elim
  | some o' =>
   rw [ho] at k
   cases o' with
   | list _=>exact k.elim
   | dict _=>exact k.elim
   | cell _=>exact k.elim
   | tab _=>exact k.elim
   | inst c fs =>
   obtain ⟨v,e3,k⟩:=PG.of k
   exact J6 g I1 r ho e3 fun v' μ2 s2 L2 I2 rv=>wpAny_bind (wpAny_letTemporaryGo (wpAny_pure (k v' μ2 s2 L2 I2 rv)))
 | _=>exact k.elim
noncomputable def JP (e:Expr):Bool:=!Nat.beq e.ctorIdx 26
theorem z4g {o i:Expr} {pos:Pos} {x y:XE} (hn:JP i=true) (ho:zw prog w X n cf sc env (eval o env) x) (hi:zw prog w X n cf sc env (eval i env) y):zw prog w X n cf sc env (eval (.Subscript o i pos) env) (zn x y):=by
 intro fr hp A l μ s Q E R I V k
 refine PyProof.Rows.Subscript_ (ho R I V (k.bind fun a a' h1 μ1 s1 L1 I1 ra k=>hi R I1 (V.le I L1) (k.bind fun b b' h2 μ2 s2 L2 I2 rb k=>?_)))
 obtain ⟨v,e3,k⟩:=k.of
 obtain ⟨⟨T,id,hT,hl⟩,hw⟩:=z0h (prog:=prog) (w:=w) (A:=A) (E:=E) e3 I2 (ra.le I1 L2) rb k
 refine PyProof.Rows.tail_any (ops:=[a',b']) hT hl hw ?_
 cases i <;> first | rfl | exact nob hn
theorem JL {e:Option Expr} {x:XE} (h:∀ e',e=some e'→zw prog w X n cf sc env (eval e' env) x) (h0:e=none→x=z8 .none):zw prog w X n cf sc env (valueOrNone (evalOpt e env)) x:=by
 cases e with
 | some e'=>exact h e' rfl
 | none =>
  rw [h0 rfl]
  exact fun _ I _ k=>wpAny_pure (k.pe.here I .none)
theorem z4i {o:Expr} {l u:Option Expr} {p pos:Pos} {x y z:XE} (ho:zw prog w X n cf sc env (eval o env) x) (hl:zw prog w X n cf sc env (valueOrNone (evalOpt l env)) y) (hu:zw prog w X n cf sc env (valueOrNone (evalOpt u env)) z) :
  zw prog w X n cf sc env (eval (.Subscript o (.Slice l u none p) pos) env) (Ym x y z):=by
 intro fr hp A fl μ s Q E R I V k
 refine PyProof.Rows.Subscript_ (ho R I V (k.bind fun a a' h1 μ1 s1 L1 I1 ra k=>?_))
 show wpAny _ _ (do let l' ← valueOrNone (evalOpt l env);let u' ← holding [l'] (valueOrNone (evalOpt u env));let st ← holding [l',u'] (valueOrNone (evalOpt none env));newFields "slice" [l',u',st]) _ _ _
 refine wpAny_bind (hl R I1 (V.le I L1) (k.bind fun b b' h2 μ2 s2 L2 I2 rb k=>wpAny_bind (wpAny_holding (hu R I2 ((V.le I L1).le I1 L2) (k.bind fun c c' h3 μ3 s3 L3 I3 rc k=>wpAny_bind (wpAny_holding (wpAny_pure ?_)))))))
 refine wpAny_newObj_type ?_
 have hk:∀ b o,s3.heap.get? b=some o→(s3.heap.push { cls:=.type "slice",data:=.fields #[b',c',.none] }).get? b=some o:=fun b o e=>Heap.get?_push_of_some _ e
 have L4:Le noS μ3 s3 μ3 { s3 with heap:=s3.heap.push { cls:=.type "slice",data:=.fields #[b',c',.none] } }:=.ofKeep hk
 have I4:Inv X μ3 h3 { s3 with heap:=s3.heap.push { cls:=.type "slice",data:=.fields #[b',c',.none] } }:=I3.grow (t:=s3.toks) hk
 obtain ⟨⟨T,id,hT,hl'⟩,hw⟩:=z0m (prog:=prog) (w:=w) (A:=A) (E:=E) (s:={ s3 with heap:=s3.heap.push { cls:=.type "slice",data:=.fields #[b',c',.none] } }) I4 (((ra.le I1 L2).le I2 L3).le I3 L4) ((rb.le I2 L3).le I3 L4) (rc.le I3 L4)
  (Heap.IsSliceOf.new ..) (PG.le k L4)
 exact PyProof.Rows.tail_any (ops:=[.ref s3.heap.objs.size,a']) hT hl' hw rfl
theorem yk {M:Model} {A:Around} {E:Value→Shared→Prop} {s:Shared} {f:Value} {ts:List (Sem Value)} {Q:Args→Shared→Prop}
  (h:wpAny M A (spliced (ts.map fun t=>(false,t))) (fun vs s'=>Q ⟨vs,[]⟩ s') E s):wpAny M A (evalArgs f true (ts.map fun t=>(false,t)) []) Q E s:=by
 cases ts with
 | cons t ts=>exact evalArgs_plain h
 | nil =>
  unfold evalArgs
  show wpAny M A (spliced [] >>= _) Q E s
  refine wpAny_bind (wpAny_mono h (fun vs s' h'=>?_) fun _ _ x=>x)
  refine wpAny_holding ?_
  exact wpAny_bind (wpAny_pure (wpAny_bind (wpAny_pure (wpAny_pure h'))))
theorem Za {K:Frag} {A:Around} {E:Value→Shared→Prop} {s:Shared} {f:Addr} {pos:Pos} {first:List Value} {ts:List (Sem Value)} {Q:Value→Shared→Prop} (hk:keepIn K (.ref f)=true)
  (h:wpAny (model prog w) A (spliced (ts.map fun t=>(false,t))) (fun vs s'=>K.In s'.heap∧wpAny (model prog w) A (call (.ref f) (first++vs)) Q E s') E s) :
  wpAny (model prog w) A (callWith pos (.ref f) first (ts.map fun t=>(false,t)) []) Q E s:=by
 refine callWith_of (P:=K.In) (by simp) (fun h x=>?_) (yk h)
 obtain ⟨k,hk',L⟩:=looks_keep hk x
 exact ⟨k,hk'.elim .inl fun q=>.inr (.inl q),L⟩
theorem wz {A:Around} {E:Value→Shared→Prop} {s:Shared} {b:Bi} {pos:Pos} {ts:List (Sem Value)} {Q:Value→Shared→Prop}
  (h:wpAny (model prog w) A (spliced (ts.map fun t=>(false,t))) (fun vs s'=>wpAny (model prog w) A (call (jR b) vs) Q E s') E s) :
  wpAny (model prog w) A (callWith pos (jR b) [] (ts.map fun t=>(false,t)) []) Q E s:=by
 refine callWith_of (P:=fun _=>True) (by simp) (fun h x=>⟨.machine,.inr (.inl rfl),?_⟩) (yk (wpAny_mono h (fun vs s' z=>⟨trivial,z⟩) fun _ _ z=>z))
 cases b <;> exact Looks.of_pure rfl
theorem Zy {f:Expr} {args:List Expr} {pos:Pos} (hf:∀ o name p,f≠.Attribute o name p):eval (.Call f args [] pos) env=(do callWith pos (← eval f env) [] (backTo pos (starEach args env)) (backToKw pos (keywordEach [] env))):=by
 cases f <;> first | rfl | (exact absurd rfl (hf _ _ _))
theorem wU {f:Addr} {args:List Expr} {pos:Pos} {ys:List XE} {A:Around} {l:List Env} {μ:Mu} {s:Shared} {Q:Value→Shared→Prop} {E:Value→Shared→Prop} {fr:AFr} {hp:Hp} {c:Callee} {first:List Value} {fa:List AV} (g:Gd X G) (hcf:SndCF prog w X n cf)
  (hy:SndL prog w X n cf sc env (evalEach args env) ys) (R:Room n A l) (I:Inv X μ hp s) (V:EnvR X l sc env fr μ s.heap) (hc:z0s X c f) (rf:VRs X μ s.heap fa first)
  (k:PO X l μ s ((evs ys cf fr hp).bind0 fun vs h₂=>cf c (fa++vs) h₂) Q E):wpAny (model prog w) A (callWith pos (.ref f) first ((evalEach args env).map fun t=>(false,t)) []) Q E s:=by
 cases q:evs ys cf fr hp with
 | stuck=>rw [q] at k;exact k.elim
 | exc=>rw [q] at k;exact k.elim
 | ok vs h2 =>
  rw [q] at k
  have k:PO X l μ s (cf c (fa++vs) h2) Q E:=k
  refine Za (hcf.keep k.ne hc) (ye hy R I V ?_)
  rw [q]
  exact fun vs' μ2 s2 L2 I2 rs=>⟨I2.kin g.K,hcf.run R (V.frs.le L2) I2 hc ((rf.le I L2).app rs) (PG.le k L2)⟩
theorem z1f {f:Expr} {args:List Expr} {pos:Pos} {x:XE} {ys:List XE} (g:Gd X G) (hn:n≠0) (hcf:SndCF prog w X n cf) (hf:∀ o name p,f≠.Attribute o name p) (hs:args.all q9=true)
  (hx:zw prog w X n cf sc env (eval f env) x) (hy:SndL prog w X n cf sc env (evalEach args env) ys):zw prog w X n cf sc env (eval (.Call f args [] pos) env) (zK x ys):=by
 intro fr hp A l μ s Q E R I V k
 rw [Zy hf,yK env hs,yl]
 refine wpAny_bind (hx R I V (k.bind fun a a' h1 μ1 s1 L1 I1 ra k=>?_))
 show wpAny _ _ (callWith pos a' [] _ []) _ _ _
 cases a with
 | fn x =>
  obtain ⟨f,rfl,q⟩:=ra.fn_
  exact wU (fa:=[]) g hcf hy R I1 (V.le I L1) (c:=.fn x) q .nil k
 | cls x =>
  obtain ⟨f,rfl,q⟩:=ra.cls_
  exact wU (fa:=[]) g hcf hy R I1 (V.le I L1) (c:=.cls x) q .nil k
 | bi b =>
  rw [ra.bi_]
  exact wz (ye hy R I1 (V.le I L1) (k.bind0 fun vs vs' h2 μ2 s2 L2 I2 rs k=>z3r hn R I2 rs k))
 | lam lm cs =>
  obtain ⟨f,rfl,r⟩:=ra.lam_
  cases q:evs ys cf fr h1 with
  | stuck=>rw [q] at k;exact k.elim
  | exc=>rw [q] at k;exact k.elim
  | ok vs h2 =>
   rw [q] at k
   have k:PO X l μ1 s1 (if vs.isEmpty=true then cf (.lam lm) (cs.map AV.ref) h2 else .stuck) Q E:=k
   by_cases hv:vs.isEmpty=true
   ·rw [if_pos hv] at k
    rw [List.isEmpty_iff.mp hv] at q
    refine callWith_of (P:=fun h=>∃ o fd,h.get? f=some o∧o.data=.func fd) (by simp) (fun h ⟨⟨oc,od,dd,sl⟩,fd,e1,e2⟩=>⟨.frame,.inl rfl,(by cases e2;exact (Looks.ld (part:=none) e1).andThen .now)⟩) (yk (ye hy R I1 (V.le I L1) ?_))
    rw [q]
    intro vs' μ2 s2 L2 I2 rs
    have r2:=r.mono L2.pre (L2.fixed I1 fun _ _ h=>h.elim)
    obtain ⟨cl,dv,doc,pm,cv,ctv,e1,_⟩:=id r2
    rw [rs.nil_]
    exact ⟨⟨_,_,e1,rfl⟩,hcf.lam R ((V.le I L1).frs.le L2) I2 r2 (PG.le k L2)⟩
   ·rw [if_neg hv] at k;exact k.elim
 | _=>cases q:evs ys cf fr h1 <;> rw [q] at k <;> exact k.elim
theorem z34 {v:AV} {i:Str} (e:z35 v=some i):v=.exc i:=by
 cases v with
 | exc=>cases e;rfl
 | _=>exact nos e
theorem z5b {v:AV} {b:Bool} (e:zHa v=some b):v=.bi .isinstance:=by
 cases v with
 | bi b=>cases b with
  | «isinstance» => rfl
  | _=>exact nos e
 | _=>exact nos e
theorem z3l {v:AV} {i:Str} (e:Jf v=some i):(v=.cls i∧i ≠ "")∨(i = "" ∧ v=.bi .valErr):=by
 cases v with
 | cls c =>
  have e:(if c = "" then none else some c)=some i:=e
  by_cases h:c = ""
  ·rw [if_pos h] at e;exact nos e
  ·rw [if_neg h] at e;cases e;exact .inl ⟨rfl,h⟩
 | bi b=>cases b with
  | valErr=>cases e;exact .inr ⟨rfl,rfl⟩
  | _=>exact nos e
 | _=>exact nos e
theorem z0b {c d:Str} {v:AV} {r:Bool} {e' d':Value} {A:Around} {μ:Mu} {hp:Hp} {s:Shared} {Q:Value→Shared→Prop} {E:Value→Shared→Prop} (g:Gd X G) (h:G.isx c d=some r) (hv:Jf v=some d) (I:Inv X μ hp s) (re:VR X μ s.heap (.exc c) e') (rd:VR X μ s.heap v d') (k:∀ t,Q (.bool r) { s with toks:=t }) :
  wpAny (model prog w) A (call (.builtin "isinstance") [e',d']) Q E s:=by
 obtain ⟨C,h1,h⟩:=zf (g.isx _ _ _ h)
 obtain ⟨e,C',o,vs,rfl,h2,ho,hc,_⟩:=re.exc_
 rw [qm h1] at h2;cases h2
 have KI:=I.kin g.K
 obtain ⟨hh,gg,dd,tt,os⟩:=s
 have h:(if d = "" then (if subIn X.K (.ref C) (.type "ValueError")=some true∧(clsIn X.K C).isSome=true then some true else none) else (nsR X.K d).bind fun D=>if isIn X.K (.ref C) D=true then some true else if Q5 X.K C D=true then some false else none)=some r:=h
 rcases z3l hv with ⟨rfl,hd⟩ | ⟨rfl,rfl⟩
 ·obtain ⟨D,rfl,hD⟩:=rd.cls_
  rw [if_neg hd] at h
  obtain ⟨D',h3,h⟩:=zf h
  rw [qm h3] at hD;cases hD
  by_cases h4:isIn X.K (.ref C) D=true
  ·rw [if_pos h4] at h;cases h
   exact isi_call KI (fun M=>hc▸(Looks.ld ho).andThen .now) h4 (fun e=>nomatch e) (k tt)
  ·rw [if_neg h4] at h
   obtain ⟨h5,rfl⟩:=zr h
   exact z5a KI h5 ho hc (k _)
 ·rw [rd.bi_]
  rw [if_pos rfl] at h
  obtain ⟨⟨h5,h6⟩,rfl⟩:=zr h
  exact Wp KI h5 h6 ho hc k
theorem Jv {f:Expr} {args:List Expr} {pos:Pos} {x:XE} {ys:List XE} (g:Gd X G) (hf:∀ o name p,f≠.Attribute o name p) (hs:args.all q9=true)
  (hx:zw prog w X n cf sc env (eval f env) x) (hy:SndL prog w X n cf sc env (evalEach args env) ys):zw prog w X n cf sc env (eval (.Call f args [] pos) env) (xc G.isx x ys):=by
 intro fr hp A l μ s Q E R I V k
 rw [Zy hf,yK env hs,yl]
 refine wpAny_bind (hx R I V (k.bind fun a a' h1 μ1 s1 L1 I1 ra k=>?_))
 show wpAny _ _ (callWith pos a' [] _ []) _ _ _
 cases q:evs ys cf fr h1 with
 | stuck=>rw [q] at k;exact k.elim
 | exc=>rw [q] at k;exact k.elim
 | ok vs h2 =>
  rw [q] at k
  obtain ⟨v,e,k⟩:=PG.of (o:=(zHa a).bind fun _=>(Y4 vs).bind fun p=>(z35 p.1).bind fun c=>(Jf p.2).bind fun d=>(G.isx c d).map AV.bool) k
  obtain ⟨_,e1,e⟩:=zf e
  obtain ⟨p,e2,e⟩:=zf e
  obtain ⟨c,e3,e⟩:=zf e
  obtain ⟨d,e4,e⟩:=zf e
  obtain ⟨r,e5,rfl⟩:=yC e
  rw [z5b e1] at ra
  rw [ra.bi_]
  refine wz (b:=.isinstance) (ye hy R I1 (V.le I L1) ?_)
  rw [q]
  intro vs' μ2 s2 L2 I2 rs
  rw [wg e2] at rs
  obtain ⟨u,w',rfl,r1,r2⟩:=rs.two
  rw [z34 e3] at r1
  exact z0b g e5 e4 I2 r1 r2 fun t=>k _ μ2 _ (L2.trans (.tok t)) (I2.tok t) (.bool _)
noncomputable def lMe:Me→Bool
 | .append | .insert | .index | .count=>true
 | _=>false
set_option maxRecDepth 100000 in
theorem z52 {name:Str} {A:Around} {E:Value→Shared→Prop} {s:Shared} {pl:Sem Bool} {Q:Value×List Value→Shared→Prop} (hm:Xs name=some .join) {x:Str} {t:Tok}
  (h:Q (.builtin (zH6 .join),[.str x t]) s):wpAny (model prog w) A (getMethod (.str x t) name pl) Q E s:=by
 rw [X8 hm]
 exact getMethod_builtin (typeIs_str _ _ _) F.plainAttrs_str F.slot_str_join F.type_str_join (fun _ e=>nomatch e) h
set_option maxRecDepth 100000 in
theorem zH5 {m:Me} {name:Str} {A:Around} {E:Value→Shared→Prop} {s:Shared} {pl:Sem Bool} {Q:Value×List Value→Shared→Prop} (hm:Xs name=some m) (hj:lMe m=true) {a:Addr} {items:Array Value} {k:Nat} (hl:IsL s.heap a items k)
  (h:Q (.builtin (zH6 m),[.ref a]) s):wpAny (model prog w) A (getMethod (.ref a) name pl) Q E s:=by
 have hd:∀ b,Value.ref a=.ref b→∃ o,s.heap.get? b=some o∧o.dict=none:=fun b e=>by cases e;exact ⟨_,hl,rfl⟩
 have hT:s.TypeIs (.ref a) "list" := ⟨_,hl,rfl⟩
 rw [X8 hm]
 cases m with
 | append=>exact getMethod_builtin hT F.plainAttrs_list F.slot_list_append F.type_list_append hd h
 | insert=>exact getMethod_builtin hT F.plainAttrs_list F.slot_list_insert F.type_list_insert hd h
 | index=>exact getMethod_builtin hT F.plainAttrs_list F.slot_list_index F.type_list_index hd h
 | count=>exact getMethod_builtin hT F.plainAttrs_list F.slot_list_count F.type_list_count hd h
 | _=>exact nob hj
set_option maxRecDepth 100000 in
theorem z19 {o:Expr} {name:Str} {apos pos:Pos} {args:List Expr} {x:XE} {ys:List XE} (g:Gd X G) (hcf:SndCF prog w X n cf) (hs:qi o=false) (hp0:(apos.endLine == pos.line)=true) (ha:args.all q9=true)
  (hl:args.length<30) (hx:zw prog w X n cf sc env (eval o env) x) (hy:SndL prog w X n cf sc env (evalEach args env) ys) :
  zw prog w X n cf sc env (eval (.Call (.Attribute o name apos) args [] pos) env) (z9 x name (Xs name) ys):=by
 intro fr hp A l μ s Q E R I V k
 show wpAny _ _ (do
  let ov ← attributeBase o name env (eval o env)
  standAt apos.atName
  methodCall o name apos pos env ov (args.length+([]:List Keyword).length) (backTo pos (starEach args env)) (backToKw pos (keywordEach [] env))) _ _ _
 rw [qD hs,yK env ha,yl]
 have form:methodCallForm (args.length+([]:List Keyword).length) ((evalEach args env).map fun t=>(false,t)) (backToKw pos (keywordEach [] env))=true:=by
  unfold methodCallForm
  have:((evalEach args env).map fun t=>(false,t)).all (fun x=>!x.1)=true:=by simp
  simp only [this,Bool.true_and]
  show (true && decide (args.length+0+0<30))=true
  simp;exact hl
 have start:∀ {ov:Value} {s1:Shared},wpAny (model prog w) A (getMethod ov name (do return (← importBound o env).getD true)) (fun p s2=>wpAny (model prog w) A (callWith pos p.1 p.2 ((evalEach args env).map fun t=>(false,t)) []) Q E s2) E s1 →
   wpAny (model prog w) A (methodCall o name apos pos env ov (args.length+([]:List Keyword).length) ((evalEach args env).map fun t=>(false,t)) (backToKw pos (keywordEach [] env))) Q E s1:=by
  intro ov s1 h
  unfold methodCall
  rw [form]
  refine wpAny_bind (wpAny_holding (wpAny_mono (show wpAny (model prog w) A (calleeOf true o env ov name) _ E s1 from h) (fun p s2 h2=>?_) fun _ _ z=>z))
  refine wpAny_bind ?_
  unfold methodCallPos
  rw [if_pos (by simp [hp0])]
  exact wpAny_pure h2
 refine wpAny_bind (hx R I V (k.bind fun a a' h1 μ1 s1 L1 I1 ra k=>wpAny_bind (wpAny_standAt (start ?_))))
 cases a with
 | ref b =>
  have k:PO X l μ1 s1 (match h1[b]? with
   | some (.inst c fs)=>(match fs.lookup name with
    | some _=>Out.stuck
    | none=>jO cf c name (.ref b) (evs ys cf fr h1))
   | some (.list _)=>(match Xs name with
    | some m=>(evs ys cf fr h1).bind0 fun vs h₂=>yQ m (.ref b) vs h₂
    | none=>.stuck)
   | _=>.stuck) Q E:=k
  cases ho:h1[b]? with
  | none=>rw [ho] at k;exact k.elim
  | some o' =>
   rw [ho] at k
   cases o' with
   | inst c fs =>
    dsimp only at k
    cases hno:fs.lookup name with
    | some _=>rw [hno] at k;exact k.elim
    | none =>
    rw [hno] at k
    have k:PO X l μ1 s1 (jO cf c name (.ref b) (evs ys cf fr h1)) Q E:=k
    cases q:evs ys cf fr h1 with
    | stuck=>rw [q] at k;exact k.elim
    | ok vs h2 =>
     rw [q] at k
     have k:PO X l μ1 s1 (cf (.meth c name) ([.ref b]++vs) h2) Q E:=k
     obtain ⟨f,C,c1,c2,c3⟩:=hcf.meth k.ne
     exact YH g I1 ra ho hno c1 c2 c3 (wU g hcf hy R I1 (V.le I L1) (c:=.meth c name) ⟨C,c1,c2,c3⟩ (.cons ra .nil) (by rw [q];exact k))
    | exc c' h2 =>
     rw [q] at k
     have k:PO X l μ1 s1 (match cf (.has c name) [] h2 with
      | .ok _ _=>.exc c' h2
      | _=>.stuck) Q E:=k
     cases e:cf (.has c name) [] h2 with
     | stuck=>rw [e] at k;exact k.elim
     | exc=>rw [e] at k;exact k.elim
     | ok =>
      rw [e] at k
      obtain ⟨f,C,c1,c2,c3⟩:=hcf.has (fun q=>by rw [e] at q;cases q)
      exact YH g I1 ra ho hno c1 c2 c3 (callWith_of (P:=fun _=>False) (by simp) (fun _ h=>h.elim) (yk (ye hy R I1 (V.le I L1) (by rw [q];exact k))))
   | list xs =>
    dsimp only at k
    cases hm:Xs name with
    | none=>rw [hm] at k;exact k.elim
    | some m =>
    rw [hm] at k
    obtain ⟨d,items,mm,rfl,g1,hl',_,_⟩:=I1.list_at ra ho
    have hj:lMe m=true:=by
     have k:PO X l μ1 s1 ((evs ys cf fr h1).bind0 fun vs h₂=>yQ m (.ref b) vs h₂) Q E:=k
     cases q:evs ys cf fr h1 with
     | stuck=>rw [q] at k;exact k.elim
     | exc=>rw [q] at k;exact k.elim
     | ok vs h2 =>
      rw [q] at k
      obtain ⟨v',hp',e,_⟩:=PG.ofP (o:=(xh (.ref b)).bind fun a=>(y7 h2 a).bind fun xs=>meO m a xs vs h2) k
      obtain ⟨b',h1',e⟩:=zf e
      obtain ⟨xs',hx',e⟩:=zf e
      cases m <;> first | rfl | cases e
    exact zH5 hm hj hl' (callWith_builtin (by simp) (yk (ye hy R I1 (V.le I L1) (PG.bind0 k fun vs vs' h2 μ2 s2 L2 I2 rs k=>Qr R I2 (ra.le I1 L2) rs k))))
   | _=>exact k.elim
 | str x₀ =>
  have k:PO X l μ1 s1 (match Xs name with
   | some m=>(evs ys cf fr h1).bind0 fun vs h₂=>yQ m (.str x₀) vs h₂
   | none=>.stuck) Q E:=k
  cases hm:Xs name with
  | none=>rw [hm] at k;exact k.elim
  | some m =>
   rw [hm] at k
   have k:PO X l μ1 s1 ((evs ys cf fr h1).bind0 fun vs h₂=>yQ m (.str x₀) vs h₂) Q E:=k
   have hj:m=.join:=by
    cases q:evs ys cf fr h1 with
    | stuck=>rw [q] at k;exact k.elim
    | exc=>rw [q] at k;exact k.elim
    | ok vs h2 =>
     rw [q] at k
     cases m with
     | join=>rfl
     | _=>exact k.elim
   subst hj
   obtain ⟨t,rfl,z⟩:=ra.str_
   exact z52 hm (callWith_builtin (by simp) (yk (ye hy R I1 (V.le I L1) (k.bind0 fun vs vs' h2 μ2 s2 L2 I2 rs k=>Qr R I2 (.str t z) rs k))))
 | _=>exact k.elim
end
noncomputable def YE:List String:=["enumerate", "zip", "dict_itemiterator", "dict_reverseitemiterator", "odict_iterator", "itertools.zip_longest", "itertools.pairwise"]
noncomputable def qN (h:Heap) (b:Addr):Prop:=∃ o T vs,h.get? b=some o∧o.cls=.type T∧o.data=.fields vs∧(T ≠ "range" ∧ T ≠ "code")
theorem qN.notFixed {h:Heap} {b:Addr} {o:Obj} (x:qN h b) (e:h.get? b=some o):¬ yb o:=by
 obtain ⟨o',T,vs,ho,hc,hd,hn⟩:=x
 rw [e] at ho;cases ho
 rintro (⟨q,xs,n,q'⟩ | ⟨q | q,_⟩ | ⟨_,fd,q⟩ | ⟨C,vs,q,_⟩)
 ·rw [hd] at q';cases q'
 ·rw [hc] at q;cases q;exact hn.1 rfl
 ·rw [hc] at q;cases q;exact hn.2 rfl
 ·rw [hd] at q;cases q
 ·rw [hc] at q;cases q
structure Its (X:Cx) (h0:Heap) (μ:Mu) (h:Heap) (its:List Addr):Prop where
 new:∀ b∈its,h0.get? b=none
 out:∀ b∈its,b∉zh μ
 base:∀ b∈its,X.base.get? b=none
 obj:∀ b∈its,qN h b
noncomputable def But (its:List Addr) (s s':Shared):Prop:=(∀ b o,b∉its→s.heap.get? b=some o→s'.heap.get? b=some o)∧s'.gens=s.gens∧s'.os=s.os
section
variable {prog:Program} {w:World} {X:Cx} {G:GTab} {sc:Sc} {env:Env} {fr:AFr} {μ μ' μ₀:Mu} {hp hp':Hp} {s s' s₀:Shared} {its:List Addr} {h0:Heap} {l:List Env}
theorem But.refl:But its s s:=⟨fun _ _ _ e=>e,rfl,rfl⟩
theorem But.trans {s1 s2:Shared} (a:But its s s1) (b:But its s1 s2):But its s s2:=⟨fun x o n e=>b.1 x o n (a.1 x o n e),b.2.1.trans a.2.1,b.2.2.trans a.2.2⟩
theorem Its.fix (T:Its X h0 μ s.heap its) (a:But its s s'):∀ b o,s.heap.get? b=some o→yb o→s'.heap.get? b=some o:=fun b o e f=>a.1 b o (fun h=>(T.obj b h).notFixed e f) e
theorem Its.vrs (T:Its X h0 μ s.heap its) (a:But its s s') {x:List AV} {v:List Value} (r:VRs X μ s.heap x v):VRs X μ s'.heap x v:=r.mono (List.prefix_refl _) (T.fix a)
theorem Its.invR (T:Its X h0 μ s.heap its) (a:But its s s') (I:Inv X μ hp s):Inv X μ hp s' :=
 ⟨I.len,I.nodup,I.above,fun i q x hi hx=>(I.rep i q x hi hx).mono (List.prefix_refl _) (T.fix a) fun b hb o e=>a.1 b o (fun h=>T.out b h (yX.mpr ⟨i,q,hi,hb⟩)) e,
  fun b o e=>a.1 b o (fun h=>by have:=T.base b h;rw [e] at this;cases this) (I.keep b o e),a.2.1.trans I.gens,a.2.2.trans I.os⟩
noncomputable def Jl (o:Obj):Prop:=(∃ es n,o.data=.dict es n)∨(∃ v,o.data=.cell v)
theorem wk (V:EnvR X l sc env fr μ s.heap) {b:Addr} {o:Obj} (h:own sc env b) (e:s.heap.get? b=some o):Jl o:=by
 rcases h with rfl | ⟨hf,x,hx⟩
 ·obtain ⟨m,⟨o',es,ep,ho,hd,_⟩,_⟩:=V.loc
  rw [e] at ho;cases ho;exact .inl ⟨_,_,hd⟩
 ·obtain ⟨_,cv,o',ho,hd⟩:=V.ncel hf x b hx
  rw [e] at ho;cases ho;exact .inr ⟨_,hd⟩
theorem EnvR.but (V:EnvR X l sc env fr μ s.heap) (kp:∀ b o,own sc env b→s.heap.get? b=some o→s'.heap.get? b=some o) (fx:∀ b o,s.heap.get? b=some o→yb o→s'.heap.get? b=some o) (ff:Frs X l μ s'.heap):EnvR X l sc env fr μ s'.heap:=by
 obtain ⟨m,ns,hm⟩:=V.loc
 have cellK:sc.fl=false→∀ {x:Str} {c:Addr} {cv:Option Value},env.cells.lookup x=some c→s.heap.IsCell c cv→s'.heap.IsCell c cv:=fun hf _ _ _ hx h=>by
  obtain ⟨o,ho,r⟩:=h;exact ⟨o,kp _ o (.inr ⟨hf,_,hx⟩) ho,r⟩
 refine ⟨V.fn,V.glob,V.bltn,V.kind,⟨m,?_,fun x i v e1 e2 e3=>?_⟩,fun hf x i e1 e2=>?_,V.nloc,V.bloc,V.flg,V.cod,fun hf x c hc=>?_,V.bcel,V.apart,V.inj,V.wid,V.slt,ff⟩
 ·obtain ⟨o,es,ep,ho,r⟩:=ns
  exact ⟨o,es,ep,kp _ o (.inl rfl) ho,r⟩
 ·obtain ⟨v',e,r⟩:=hm x i v e1 e2 e3
  exact ⟨v',e,r.mono (List.prefix_refl _) fx⟩
 ·obtain ⟨c,cv,q1,q2,q3⟩:=V.cel hf x i e1 e2
  refine ⟨c,cv,q1,cellK hf q1 q2,fun v hv=>?_⟩
  obtain ⟨v',q,r⟩:=q3 v hv
  exact ⟨v',q,r.mono (List.prefix_refl _) fx⟩
 ·obtain ⟨n,cv,h⟩:=V.ncel hf x c hc
  exact ⟨n,cv,cellK hf hc h⟩
theorem Its.envR (T:Its X h0 μ s.heap its) (a:But its s s') (V:EnvR X l sc env fr μ s.heap):EnvR X l sc env fr μ s'.heap :=
 V.but (fun b o h e=>a.1 b o (fun q=>by
  obtain ⟨o',Tn,vs,ho,hc,hd,_⟩:=T.obj b q
  rw [e] at ho;cases ho
  rcases wk V h e with ⟨es,n,q⟩ | ⟨v,q⟩ <;> rw [hd] at q <;> cases q) e) (T.fix a) (V.frs.mono fun b o n e d=>⟨n,o,a.1 b o (fun q=>by
  obtain ⟨o',Tn,vs,ho,hc,hd,_⟩:=T.obj b q
  rw [e] at ho;cases ho
  unfold isD at d;rw [hd] at d;cases d) e,d⟩)
theorem Its.leR {S:Addr→Prop} (T:Its X s₀.heap μ s.heap its) (a:But its s s') (L:Le S μ₀ s₀ μ s):Le S μ₀ s₀ μ s':=by
 have nw:∀ b o,s₀.heap.get? b=some o→b∉its:=fun b o e h=>by have:=T.new b h;rw [e] at this;cases this
 refine ⟨L.pre,L.fresh,fun b o e=>?_,fun b o n ns e=>(L.keep b o n ns e).trans fun o' e'=>.inl (a.1 b o' (nw b o e) e')⟩
 obtain ⟨o',e'⟩:=L.exist b o e
 exact ⟨o',a.1 b o' (nw b o e) e'⟩
theorem Its.later {S:Addr→Prop} (T:Its X h0 μ s.heap its) (hS:∀ b o,S b→s.heap.get? b=some o→Jl o) (L:Le S μ s μ' s'):Its X h0 μ' s'.heap its∧∀ b∈its,s'.heap.get? b=s.heap.get? b:=by
 have kp:∀ b∈its,∀ o,s.heap.get? b=some o→s'.heap.get? b=some o:=fun b hb o e=>by
  obtain ⟨o',Tn,vs,ho,hc,hd,_⟩:=T.obj b hb
  rw [e] at ho;cases ho
  exact (L.keep b o (T.out b hb) (fun h=>by rcases hS b o h e with ⟨es,n,q⟩ | ⟨v,q⟩ <;> rw [hd] at q <;> cases q) e).exact (by unfold isD;rw [hd])
 refine ⟨⟨T.new,fun b hb h=>?_,T.base,fun b hb=>?_⟩,fun b hb=>?_⟩
 ·rcases L.fresh b h with q | q
  ·exact T.out b hb q
  ·obtain ⟨o,Tn,vs,ho,_⟩:=T.obj b hb;rw [q] at ho;exact nos ho
 ·obtain ⟨o,Tn,vs,ho,r⟩:=T.obj b hb
  exact ⟨o,Tn,vs,kp b hb o ho,r⟩
 ·obtain ⟨o,Tn,vs,ho,r⟩:=T.obj b hb
  rw [ho];exact kp b hb o ho
end
structure Drives (prog:Program) (w:World) (X:Cx) (target:Expr) (src:Src) (it:Value) (its:List Addr) (St:Nat→Mu→Heap→Prop):Prop where
 frame:∀ k μ μ' h h',St k μ h→μ <+: μ'→(∀ b∈its,∀ o,h.get? b=some o→h'.get? b=some o)→(∀ b o,h.get? b=some o→yb o→h'.get? b=some o) →
  (∀ b o,X.base.get? b=some o→h.get? b=some o∧h'.get? b=some o)→St k μ' h'
 obj:∀ k μ h,St k μ h→∀ b∈its,qN h b
 item:∀ {A:Around} {μ:Mu} {hp:Hp} {s:Shared} {k:Nat} {x:AV} {Q:Option Value→Shared→Prop} {E E':Value→Shared→Prop} {Q':Value→Unit→Shared→Prop},A.handled=none→Inv X μ hp s→(∀ b∈its,b∉zh μ)→St k μ s.heap→src.next? hp k=some (some x) →
  (∀ v s₁,wpAny (model prog w) A (letOwnedTupleGo target it v) (Q' v) E' s₁→Q (some v) s₁) →
  (∀ v s',VR X μ s'.heap x v→But its s s'→St (k+1) μ s'.heap→Q' v () s')→wpAny (model prog w) A (pyNext it) Q E s
 done:∀ {A:Around} {μ:Mu} {hp:Hp} {s:Shared} {k:Nat} {Q:Option Value→Shared→Prop} {E:Value→Shared→Prop},A.handled=none→Inv X μ hp s→St k μ s.heap→src.next? hp k=some none →
  (∀ s',But its s s'→Q none s')→wpAny (model prog w) A (pyNext it) Q E s
 self:∀ {A:Around} {μ:Mu} {s:Shared} {k:Nat} {Q:Value→Shared→Prop} {E:Value→Shared→Prop},A.handled=none→St k μ s.heap→Q it s→wpAny (model prog w) A (pyIter it) Q E s
section
variable {prog:Program} {w:World} {X:Cx} {A:Around} {E:Value→Shared→Prop} {s:Shared}
theorem ZS {target:Expr} {r:Addr} {v:Value} {o:Obj} {T:String} {vs:Array Value} {Q:Unit→Shared→Prop} (ho:s.heap.get? r=some o) (hc:o.cls=.type T) (hd:o.data=.fields vs) (hn:YE.contains T=false)
  (hQ:Q () s):wpAny (model prog w) A (letOwnedTupleGo target (.ref r) v) Q E s:=by
 have go:∀ a,wpAny (model prog w) A (load r >>= fun o=>match o.cls,o.data with
  | .type n,.fields vs=>if (["enumerate", "zip", "dict_itemiterator", "dict_reverseitemiterator", "odict_iterator", "itertools.zip_longest", "itertools.pairwise"].contains n && vs[0]? == some (rawInt a))=true then do
    rule "for.unpacks-the-owned-tuple"
    updateField r 0 .none
   else pure ()
  | _,_=>pure ()) Q E s:=by
  intro a
  refine wpAny_bind (wpAny_load ho ?_)
  rw [hc,hd]
  show wpAny _ A (if _ then _ else _) Q E s
  rw [if_neg (by
   intro h
   rw [show (["enumerate", "zip", "dict_itemiterator", "dict_reverseitemiterator", "odict_iterator", "itertools.zip_longest", "itertools.pairwise"].contains T)=false from hn,Bool.false_and] at h
   cases h)]
  exact wpAny_pure hQ
 cases target with
 | Tuple=>cases v <;> first | exact go _ | exact wpAny_pure hQ
 | List=>cases v <;> first | exact go _ | exact wpAny_pure hQ
 | _=>exact wpAny_pure hQ
theorem Drives.walks {target:Expr} {it:Addr} {fp:List Addr} {P:Nat→Value→Prop} {St:Nat→Heap→Prop} {xs:List AV} (W:∀ A:Around,A.handled=none→Walks prog w A it fp [it] xs.length P St)
  (hobj:∀ k h,St k h→∃ o T vs,h.get? it=some o∧o.cls=.type T∧o.data=.fields vs∧(T ≠ "range" ∧ T ≠ "code")∧YE.contains T=false) :
  Drives prog w X target (.imm xs) (.ref it) [it] (fun k μ h=>k≤xs.length∧St k h∧(∀ i v,i<xs.length→P i v→∃ x,xs[i]? = some x∧VR X μ h x v)∧(∀ b∈fp,b≠it→(∃ o,X.base.get? b=some o)∨(∃ o,h.get? b=some o∧yb o))) where
 frame:=by
  rintro k μ μ' h h' ⟨hle,a,b,c⟩ hp hk hf hb
  have W0:=W {} rfl
  refine ⟨hle,W0.frame k h h' a fun x hx o e=>?_,fun i v hi hv=>?_,fun x hx hn=>?_⟩
  ·by_cases hn:x=it
   ·exact hk x (hn▸.head _) o e
   ·rcases c x hx hn with ⟨o',h1⟩ | ⟨o',h1,h2⟩
    ·obtain ⟨q1,q2⟩:=hb x o' h1
     rw [e] at q1;cases q1;exact q2
    ·rw [e] at h1;cases h1;exact hf x o e h2
  ·obtain ⟨x,e,r⟩:=b i v hi hv
   exact ⟨x,e,r.mono hp hf⟩
  ·rcases c x hx hn with h1 | ⟨o',h1,h2⟩
   ·exact .inl h1
   ·exact .inr ⟨o',hf x o' h1 h2,h2⟩
 obj:=by
  rintro k μ h ⟨_,a,_,_⟩ b hb
  have hb:=qV hb;subst hb
  obtain ⟨o,T,vs,h1,h2,h3,h4,_⟩:=hobj k h a
  exact ⟨o,T,vs,h1,h2,h3,h4⟩
 item:=by
  rintro A μ hp s k x Q E E' Q' hh I hout ⟨hle,a,b,c⟩ hx hQ hQ'
  have hx':xs[k]? = some x:=by injection hx
  refine (W A hh).item k s Q E (yj hx').1 a fun v h' tk hv st hk=>hQ v _ ?_
  obtain ⟨o,T,vs,h1,h2,h3,h4,h5⟩:=hobj _ _ st
  obtain ⟨o0,T0,vs0,g1,g2,g3,g4,g5⟩:=hobj _ _ a
  have hf:∀ b o,s.heap.get? b=some o→yb o→h'.get? b=some o:=fun b o e f=>hk b o (fun hb=>by
   have hb:=qV hb;subst hb
   exact qN.notFixed ⟨o0,T0,vs0,g1,g2,g3,g4⟩ e f) e
  refine ZS (s:={ s with heap:=h',toks:=tk }) h1 h2 h3 h5 (hQ' v _ ?_ ⟨fun b o hb e=>hk b o hb e,rfl,rfl⟩ ⟨(yj hx').1,st,fun i u hi hu=>?_,fun y hy hn=>?_⟩)
  ·obtain ⟨x',e,r⟩:=b k v (yj hx').1 hv
   rw [hx'] at e;cases e
   exact r.mono (List.prefix_refl _) hf
  ·obtain ⟨x',e,r⟩:=b i u hi hu
   exact ⟨x',e,r.mono (List.prefix_refl _) hf⟩
  ·rcases c y hy hn with q | ⟨o',q1,q2⟩
   ·exact .inl q
   ·exact .inr ⟨o',hf y o' q1 q2,q2⟩
 done:=by
  rintro A μ hp s k Q E hh I ⟨hle,a,b,c⟩ hx hQ
  have hx':xs[k]? = none:=by injection hx
  have:k=xs.length:=Nat.le_antisymm hle (by simpa using hx')
  subst this
  exact (W A hh).done s Q E a fun h' tk hk=>hQ _ ⟨fun b o hb e=>hk b o hb e,rfl,rfl⟩
 self:=by
  rintro A μ s k Q E hh ⟨hle,a,b,c⟩ hQ
  exact (W A hh).self k s Q E a hQ
theorem Ql {hp:Hp} {a k:Nat} {o:AO} {r:Option AV} (ho:hp[a]? = some o) (hx:Src.next? hp (.ref a) k=some r):∃ ys,o=.list ys∧ys[k]? = r:=by
 have hx:(match hp[a]? with
  | some (.list ys)=>some ys[k]?
  | _=>none)=some r:=hx
 rw [ho] at hx
 cases o with
 | inst=>exact nos hx
 | dict=>exact nos hx
 | cell=>exact nos hx
 | tab=>exact nos hx
 | list ys=>exact ⟨ys,rfl,Option.some.inj hx⟩
theorem Drives.ref {target:Expr} {it:Addr} {a:Nat}:Drives prog w X target (.ref a) (.ref it) [it] (fun k μ h=>∃ p,μ[a]? = some p∧h.IsListIter it p.1 k) where
 frame:=by
  rintro k μ μ' h h' ⟨p,e,r⟩ ⟨t,rfl⟩ hk hf hb
  exact ⟨p,by rw [List.getElem?_append_left (yj e).1];exact e,r.at fun o e=>hk it (.head _) o e⟩
 obj:=by
  rintro k μ h ⟨p,e,o,ho,hc,hd⟩ b hb
  rw [qV hb]
  exact ⟨o,_,_,ho,hc,hd,by decide⟩
 item:=by
  rintro A μ hp s k x Q E E' Q' hh I hout ⟨p,e,r⟩ hx hQ hQ'
  obtain ⟨ob,hob⟩:=I.obj e
  obtain ⟨ys,rfl,hx'⟩:=Ql hob hx
  obtain ⟨c,items,n,rfl,hl,z,rs⟩:=(I.rep _ _ _ e hob).list_
  obtain ⟨v,hv,rv⟩:=rs.get hx'
  refine wpAny_pyNext_list_item r (items:=items) ⟨_,hl,rfl,_,rfl⟩ (x:=v) (by rw [← Array.getElem?_toList];exact hv) fun h' hit' hs'=>hQ _ _ ?_
  obtain ⟨o,ho,hc,hd⟩:=id hit'
  have T:qN s.heap it:=by obtain ⟨o,ho,hc,hd⟩:=r;exact ⟨o,_,_,ho,hc,hd,by decide⟩
  refine ZS (s:={ s with heap:=h' }) ho hc hd (by decide) (hQ' _ _ ?_ ⟨fun b o hb e=>hs'.extBut b o (fun h=>hb (h▸.head _)) e,rfl,rfl⟩ ⟨_,e,hit'⟩)
  exact rv.mono (List.prefix_refl _) fun b o e f=>hs'.extBut b o (fun h=>T.notFixed (h▸e) f) e
 done:=by
  rintro A μ hp s k Q E hh I ⟨p,e,r⟩ hx hQ
  obtain ⟨ob,hob⟩:=I.obj e
  obtain ⟨ys,rfl,hx'⟩:=Ql hob hx
  obtain ⟨c,items,n,rfl,hl,z,rs⟩:=(I.rep _ _ _ e hob).list_
  exact wpAny_pyNext_list_end hh r (items:=items) ⟨_,hl,rfl,_,rfl⟩ (by rw [Array.getElem?_eq_none_iff,rs.size];exact List.getElem?_eq_none_iff.mp hx') fun h' he'=>hQ _ ⟨fun b o hb e=>he' b o (fun h=>hb (h▸.head _)) e,rfl,rfl⟩
 self:=by
  rintro A μ s k Q E hh ⟨p,e,r⟩ hQ
  exact wpAny_pyIter_listiter r hQ
theorem jA {hp:Hp} {a k:Nat} {o:AO} {r:Option AV} (ho:hp[a]? = some o) (hx:Src.next? hp (.enum a) k=some r):∃ ys,o=.list ys∧((ys[k]?).map fun x=>AV.tup [.int k,x])=r:=by
 have hx:(match hp[a]? with
  | some (.list ys)=>some ((ys[k]?).map fun x=>AV.tup [.int k,x])
  | _=>none)=some r:=hx
 rw [ho] at hx
 cases o with
 | inst=>exact nos hx
 | dict=>exact nos hx
 | cell=>exact nos hx
 | tab=>exact nos hx
 | list ys=>exact ⟨ys,rfl,Option.some.inj hx⟩
theorem Drives.enum {elts:List Expr} {x1:Nat} {pos:Pos} {e it:Addr} {a:Nat} (hne:e≠it):Drives prog w X (.Tuple elts x1 pos) (.enum a) (.ref e) [e,it]
  (fun k μ h=>∃ p old,μ[a]? = some p∧h.IsListIter it p.1 k∧IsEnum h e it k old) where
 frame:=by
  rintro k μ μ' h h' ⟨p,old,e,r,q⟩ ⟨t,rfl⟩ hk hf hb
  exact ⟨p,old,by rw [List.getElem?_append_left (yj e).1];exact e,r.at fun o e=>hk it (.tail _ (.head _)) o e,hk _ (.head _) _ q⟩
 obj:=by
  rintro k μ h ⟨p,old,_,⟨o,ho,hc,hd⟩,q⟩ b hb
  rcases List.mem_cons.mp hb with rfl | hb
  ·exact ⟨_,_,_,q,rfl,rfl,by decide⟩
  ·rw [qV hb];exact ⟨o,_,_,ho,hc,hd,by decide⟩
 item:=by
  rintro A μ hp s k x Q E E' Q' hh I hout ⟨p,old,e0,r,q⟩ hx hQ hQ'
  obtain ⟨ob,hob⟩:=I.obj e0
  obtain ⟨ys,rfl,hx'⟩:=jA hob hx
  obtain ⟨c,items,n,rfl,hl,z,rs⟩:=(I.rep _ _ _ e0 hob).list_
  obtain ⟨y,hy,rfl⟩:=yC hx'
  obtain ⟨v,hv,rv⟩:=rs.get hy
  refine wpAny_pyNext_enum_item q r (items:=items) ⟨_,hl,rfl,_,rfl⟩ (x:=v) (by rw [← Array.getElem?_toList];exact hv) hne fun h' heo hit' ht hz hk=>hQ _ _ ?_
  have T:qN s.heap it:=by obtain ⟨o,ho,hc,hd⟩:=r;exact ⟨o,_,_,ho,hc,hd,by decide⟩
  have Te:qN s.heap e:=⟨_,_,_,q,rfl,rfl,by decide⟩
  refine wpAny_letOwnedTupleGo_enum (s:={ s with heap:=h',toks:=s.toks+1 }) heo fun h2 he2 hs2=>hQ' _ _ ?_ ⟨fun b o hb e=>hs2.extBut b o (fun h=>hb (by rw [h];exact .head _)) (hk b o (fun h=>hb (by rw [h];exact .head _)) (fun h=>hb (by rw [h];exact .tail _ (.head _))) e),rfl,rfl⟩ ⟨_,v,e0,hit'.extBut hs2.extBut (Ne.symm hne),he2⟩
  have nT:s.heap.objs.size≠e:=Nat.ne_of_gt (Heap.lt_size q)
  refine .tup (items:=#[.int k s.toks,v]) ⟨_,hs2.extBut _ _ nT ht,rfl,_,rfl⟩ (show 2≤small by decide) (.cons (.int _ _) (.cons ?_ .nil))
  exact rv.mono (List.prefix_refl _) fun b o e f=>hs2.extBut b o (fun h=>Te.notFixed (h▸e) f) (hk b o (fun h=>Te.notFixed (h▸e) f) (fun h=>T.notFixed (h▸e) f) e)
 done:=by
  rintro A μ hp s k Q E hh I ⟨p,old,e0,r,q⟩ hx hQ
  obtain ⟨ob,hob⟩:=I.obj e0
  obtain ⟨ys,rfl,hx'⟩:=jA hob hx
  obtain ⟨c,items,n,rfl,hl,z,rs⟩:=(I.rep _ _ _ e0 hob).list_
  exact wpAny_pyNext_enum_end hh q r (items:=items) ⟨_,hl,rfl,_,rfl⟩ (by rw [Array.getElem?_eq_none_iff,rs.size];exact List.getElem?_eq_none_iff.mp (Option.map_eq_none_iff.mp hx')) fun h' he'=>hQ _ ⟨fun b o hb e=>he' b o (fun h=>hb (by rw [h];exact .tail _ (.head _))) e,rfl,rfl⟩
 self:=by
  rintro A μ s k Q E hh ⟨p,old,e0,r,q⟩ hQ
  exact wpAny_pyIter_enum q hQ
theorem ju {μ:Mu} {hp:Hp} (I:Inv X μ hp s) {o:Obj} (T:qN (s.heap.push o) s.heap.objs.size):Its X s.heap μ (s.heap.push o) [s.heap.objs.size] where
 new:=fun b hb=>by rw [qV hb];exact xm _
 out:=fun b hb h=>by
  rw [qV hb] at h
  obtain ⟨o',e,_⟩:=I.mut h
  rw [xm] at e;exact nos e
 base:=fun b hb=>by
  rw [qV hb]
  cases e:X.base.get? s.heap.objs.size with
  | none=>rfl
  | some o'=>have:=I.keep _ _ e;rw [xm] at this;exact nos this
 obj:=fun b hb=>by rw [qV hb];exact T
theorem jZ {μ:Mu} {hp:Hp} {v:AV} {c:Value} {src:Src} {n:Nat} {target:Expr} {Q:Value→Shared→Prop} (e:yw hp v=some (src,n)) (I:Inv X μ hp s) (r:VR X μ s.heap v c)
  (hQ:∀ it its St s',Drives prog w X target src it its St→Its X s.heap μ s'.heap its→St 0 μ s'.heap→But [] s s'→Q it s'):wpAny (model prog w) A (pyIter c) Q E s:=by
 have pk:∀ o,But [] s { s with heap:=s.heap.push o }:=fun o=>⟨fun b ob _ e=>Heap.get?_push_of_some _ e,rfl,rfl⟩
 have ff:∀ (o:Obj) {x:AV} {v:Value},VR X μ s.heap x v→VR X μ (s.heap.push o) x v:=fun o x v r=>r.mono (List.prefix_refl _) fun b ob e _=>Heap.get?_push_of_some _ e
 cases v with
 | ref a =>
  obtain ⟨p,h1,rfl⟩:=r.ref_
  obtain ⟨ob,hob⟩:=I.obj h1
  have e:(match hp[a]? with
   | some (.list xs)=>some (Src.ref a,xs.length)
   | _=>none)=some (src,n):=e
  rw [hob] at e
  cases ob with
  | inst=>exact nos e
  | dict=>exact nos e
  | cell=>exact nos e
  | tab=>exact nos e
  | list xs =>
   obtain ⟨c,items,n,rfl,hl,z,rs⟩:=(I.rep _ _ _ h1 hob).list_
   cases e
   have hit:(s.heap.push { cls:=.type "list_iterator",data:=.fields #[.ref c,.int 0 0] }).IsListIter s.heap.objs.size c 0:=⟨_,Heap.get?_push_size _ rfl,rfl,rfl⟩
   exact wpAny_pyIter_list ⟨_,hl,rfl,_,rfl⟩ (hQ _ _ _ _ .ref (ju I ⟨_,_,_,Heap.get?_push_size _ rfl,rfl,rfl,by decide⟩) ⟨_,h1,hit⟩ (pk _))
 | tup xs =>
  obtain ⟨c,items,rfl,ht,z,rs⟩:=r.tup_
  cases e
  have l:=rs.size
  have hne:c≠s.heap.objs.size:=by obtain ⟨o,ho,_⟩:=ht;exact Nat.ne_of_lt (Heap.lt_size ho)
  refine wpAny_pyIter_tuple ht (hQ _ _ _ _ (Drives.walks (target:=target) (xs:=xs) (fun A hh=>l▸Walks.tuple hh s.heap.objs.size c hne items) (fun k h st=>?_)) (ju I ⟨_,_,_,Heap.get?_push_size _ rfl,rfl,rfl,by decide⟩) ⟨Nat.zero_le _,⟨⟨_,Heap.get?_push_size _ rfl,rfl,rfl⟩,ht.push _⟩,fun i v hi hv=>?_,fun b hb hn=>?_⟩ (pk _))
  ·obtain ⟨⟨o,ho,hc,hd⟩,_⟩:=st
   exact ⟨o,_,_,ho,hc,hd,by decide,by decide⟩
  ·have hlt:i<xs.length:=by rw [← l];exact (Array.getElem?_eq_some_iff.mp hv).1
   obtain ⟨v',e1,e2⟩:=rs.get (yO hlt)
   rw [Array.getElem?_toList,hv] at e1;cases e1
   exact ⟨_,yO hlt,ff _ e2⟩
  ·rcases List.mem_cons.mp hb with rfl | hb
   ·exact absurd rfl hn
   ·rw [qV hb]
    obtain ⟨o,ho,hc,m,hd⟩:=ht
    exact .inr ⟨o,Heap.get?_push_of_some _ ho,.inl ⟨hc,_,_,hd⟩⟩
 | range a b =>
  obtain ⟨c,t,u,v',rfl,h1,h2,h3⟩:=r.range_
  cases e
  have sz:=YC a b
  have hs:=Qd h2 h3
  have ln:=Wb a b
  refine wpAny_pyIter_range h1 hs (hQ _ _ _ _ (Drives.walks (target:=target) (xs:=xK a b) (fun A hh=>Walks.range hh s.heap.objs.size a 1 (xK a b).length) (fun k h st=>?_)) (ju I ⟨_,_,_,Heap.get?_push_size _ rfl,rfl,rfl,by decide⟩) ⟨Nat.zero_le _,?_,fun i v hi hv=>?_,fun b hb hn=>?_⟩ (pk _))
  ·exact ⟨_,_,_,st,rfl,rfl,by decide,by decide⟩
  ·rw [ln,sz]
   have:=Heap.get?_push_size s.heap (o:={ cls:=.type "range_iterator",data:=.fields #[rawInt a,rawInt ((b - a).toNat:Int),rawInt 1] }) rfl
   simpa using this
  ·obtain ⟨t,rfl⟩:=hv
   refine ⟨.int (a+(i:Int)),?_,by simpa using VR.int _ _⟩
   rw [ln] at hi
   unfold xK;rw [List.getElem?_map,List.getElem?_range hi];rfl
  ·exact absurd (qV hb) hn
 | str x =>
  obtain ⟨t,rfl,z⟩:=r.str_
  cases e
  have ln:(je x).length=x.cps.size:=by unfold je;rw [List.length_map,Array.length_toList]
  have sg:∀ (h:Heap) (i:Nat) (v:Value),SignAt x i v→∃ y,(je x)[i]? = some y∧VR X μ h y v:=by
   rintro h i v ⟨c,u,h1,rfl⟩
   refine ⟨.str ⟨#[c]⟩,?_,.str _ (show 1≤small by decide)⟩
   unfold je;rw [List.getElem?_map,Array.getElem?_toList,h1];rfl
  cases ha:x.cps.all (·<128)
  ·refine wpAny_pyIter_wide ha (hQ _ _ _ _ (Drives.walks (target:=target) (xs:=je x) (fun A hh=>ln▸Walks.strWide hh s.heap.objs.size x t) (fun k h st=>?_)) (ju I ⟨_,_,_,Heap.get?_push_size _ rfl,rfl,rfl,by decide⟩)
    ⟨Nat.zero_le _,⟨_,Heap.get?_push_size _ rfl,rfl,rfl⟩,fun i v _=>sg _ i v,fun b hb hn=>?_⟩ (pk _))
   ·obtain ⟨o,ho,hc,hd⟩:=st
    exact ⟨o,_,_,ho,hc,hd,by decide,by decide⟩
   ·exact absurd (qV hb) hn
  ·refine wpAny_pyIter_ascii ha (hQ _ _ _ _ (Drives.walks (target:=target) (xs:=je x) (fun A hh=>ln▸Walks.strAscii hh s.heap.objs.size x t) (fun k h st=>?_)) (ju I ⟨_,_,_,Heap.get?_push_size _ rfl,rfl,rfl,by decide⟩)
    ⟨Nat.zero_le _,⟨_,Heap.get?_push_size _ rfl,rfl,rfl⟩,fun i v _=>sg _ i v,fun b hb hn=>?_⟩ (pk _))
   ·obtain ⟨o,ho,hc,hd⟩:=st
    exact ⟨o,_,_,ho,hc,hd,by decide,by decide⟩
   ·exact absurd (qV hb) hn
 | _=>exact nos e
end
section
variable {prog:Program} {w:World} {X:Cx} {A:Around} {E:Value→Shared→Prop} {s s':Shared} {sc:Sc} {env:Env} {fr fr':AFr} {μ μ':Mu} {hp:Hp} {cb:Bool} {l:List Env}
theorem W5 {x:Str} {i:Nat} (h:sc.isOwn x=some i):(sc.kind x=some .local∨sc.fl=false∧sc.kind x=some .cell)∧sc.slot x=some i:=by
 cases q:sc.kind x with
 | none=>unfold Sc.isOwn at h;rw [q] at h;exact nos h
 | some k =>
  unfold Sc.isOwn at h
  rw [q] at h
  cases k with
  | «local» => exact ⟨.inl rfl,h⟩
  | cell=>obtain ⟨hf,h⟩:=wM (show (if sc.fl=false then sc.slot x else none)=some i from h);exact ⟨.inr ⟨hf,rfl⟩,h⟩
  | _=>exact nos h
theorem Le.fixOwn (V:EnvR X l sc env fr μ s.heap) (I:Inv X μ hp s) (L:Le (Zk cb sc env) μ s μ' s'):∀ b o,s.heap.get? b=some o→yb o→s'.heap.get? b=some o :=
 L.fixed I fun b o h e=>yJ V b o (xr h) e
theorem Xi {i:Nat} {is:List Nat} {vs:List AV} {fr fr':AFr} (e:qS (i::is) vs fr=some fr'):∃ v ws,vs=v::ws∧i<fr.length∧qS is ws (fr.set i (some v))=some fr':=by
 cases vs with
 | nil=>exact nos e
 | cons v ws =>
  obtain ⟨h,e⟩:=wM (show (if i<fr.length then qS is ws (fr.set i (some v)) else none)=some fr' from e)
  exact ⟨v,ws,rfl,h,e⟩
theorem ZT {e:Expr} {i:Nat} (h:qh sc e=some i):∃ x p,e=.Name x p∧sc.isOwn x=some i:=by
 cases e with
 | Name x p=>exact ⟨x,p,rfl,h⟩
 | _=>exact nos h
theorem Qm {Q:Unit→Shared→Prop} {es:List Expr}:∀ {is:List Nat} {vs:List AV} {vs':List Value} {fr:AFr} {s:Shared},yd (qh sc) es=some is→qS is vs fr=some fr' →
  (∀ x p,Expr.Name x p∈es→sc.kind x=some .cell→cb=true)→Inv X μ hp s→EnvR X l sc env fr μ s.heap→VRs X μ s.heap vs vs' →
  (∀ s',Le (Zk cb sc env) μ s μ s'→Inv X μ hp s'→EnvR X l sc env fr' μ s'.heap→Q () s')→wpAny (model prog w) A (assignInOrder ((assignEach es env).map (·.2)) vs') Q E s:=by
 induction es with
 | nil =>
  intro is vs vs' fr s e1 e2 hc I V r k
  cases e1
  cases vs with
  | cons=>exact nos e2
  | nil =>
  cases e2
  rw [r.nil_]
  show wpAny _ _ (pure ()) _ _ _
  exact wpAny_pure (k s .refl I V)
 | cons e es ih =>
  intro is vs vs' fr s e1 e2 hc I V r k
  obtain ⟨i,is',h1,h2,rfl⟩:=wq e1
  obtain ⟨v,ws,rfl,hi,e3⟩:=Xi e2
  obtain ⟨u,us,rfl,rv,rs⟩:=r.cons_
  obtain ⟨x,p,rfl,ho⟩:=ZT h1
  obtain ⟨hk,hs⟩:=W5 ho
  refine PyProof.Rows.assignInOrder_cons (ts:=(assignEach es env).map (·.2)) ?_
  show wpAny _ _ (assign (.Name x p) env _) _ _ _
  rw [PySem.assign_Name]
  refine wpAny_bind (wpAny_standAt (Yn I V hk (hc x p (.head _)) hs hi rv fun s1 L1 I1 V1=>?_))
  exact ih h2 e3 (fun x p h=>hc x p (.tail _ h)) I1 V1 (rs.mono (List.prefix_refl _) (L1.fixOwn V I)) fun s2 L2 I2 V2=>k s2 (L1.trans L2) I2 V2
theorem Yo {es:List Expr}:∀ {is:List Nat},yd (qh sc) es=some is→(assignEach es env).length=is.length∧(assignEach es env).findIdx? (·.1)=none:=by
 induction es with
 | nil=>intro is h;cases h;exact ⟨rfl,rfl⟩
 | cons e es ih =>
  intro is h
  obtain ⟨i,is',h1,h2,rfl⟩:=wq h
  obtain ⟨x,p,rfl,ho⟩:=ZT h1
  obtain ⟨a,b⟩:=ih h2
  refine ⟨congrArg (·+1) a,?_⟩
  show List.findIdx? (·.1) ((false,assign (.Name x p) env)::assignEach es env)=none
  rw [List.findIdx?_cons,b];rfl
theorem Wa {is:List Nat}:∀ {vs:List AV} {fr fr':AFr},qS is vs fr=some fr'→is.length=vs.length:=by
 induction is with
 | nil =>
  intro vs fr fr' h
  cases vs with
  | nil=>rfl
  | cons=>exact nos h
 | cons i is ih =>
  intro vs fr fr' h
  obtain ⟨v,ws,rfl,hi,e⟩:=Xi h
  exact congrArg (·+1) (ih e)
theorem xd {target:Expr} {t:NTgt} {v:AV} {v':Value} {Q:Unit→Shared→Prop} (ht:xZ sc target=some t) (hb:t.bind v fr=some fr') (hh:(∀ x p,target≠.Name x p)→A.handled=none)
  (hc:cb=false→∀ x p,(target=.Name x p∨∃ es k q,target=.Tuple es k q∧Expr.Name x p∈es)→sc.kind x=some .local) (I:Inv X μ hp s) (V:EnvR X l sc env fr μ s.heap) (r:VR X μ s.heap v v')
  (k:∀ s',Le (Zk cb sc env) μ s μ s'→Inv X μ hp s'→EnvR X l sc env fr' μ s'.heap→Q () s'):wpAny (model prog w) A (assign target env v') Q E s:=by
 have hc':∀ x p,(target=.Name x p∨∃ es k q,target=.Tuple es k q∧Expr.Name x p∈es)→sc.kind x=some .cell→cb=true:=fun x p h hk=>by
  cases cb with
  | true=>rfl
  | false=>rw [hc rfl x p h] at hk;cases hk
 cases target with
 | Name x p =>
  have ht:(match sc.isFlag x with | some i=>some (NTgt.cell i) | none=>(sc.isOwn x).map NTgt.one)=some t:=ht
  cases hfl:sc.isFlag x with
  | some i=>rw [hfl] at ht;cases ht;exact nos hb
  | none =>
  rw [hfl] at ht
  obtain ⟨i,hi,rfl⟩:=yC ht
  obtain ⟨hk,hs⟩:=W5 hi
  obtain ⟨u,ws,e,hl,e2⟩:=Xi hb
  cases e
  cases e2
  rw [PySem.assign_Name]
  exact wpAny_bind (wpAny_standAt (Yn I V hk (hc' x p (.inl rfl)) hs hl r k))
 | Tuple es kk p =>
  have ht:(match yd (qh sc) es with
   | some is=>if is.length≤10∧is.Nodup then some (NTgt.many is) else none
   | none=>none)=some t:=ht
  cases hi:yd (qh sc) es with
  | none=>rw [hi] at ht;exact nos ht
  | some is =>
   rw [hi] at ht
   obtain ⟨_,rfl⟩:=zr ht
   cases v with
   | tup xs =>
    have hb:qS is xs fr=some fr':=hb
    obtain ⟨c,items,rfl,h1,z,rs⟩:=r.tup_
    obtain ⟨l1,l2⟩:=Yo (env:=env) hi
    have l3:=Wa hb
    refine wpAny_assign_Tuple (hh fun _ _ e=>nomatch e) h1 (by rw [rs.size,l1,l3]) l2 fun h' he=>?_
    have kp:∀ b o,s.heap.get? b=some o→h'.get? b=some o:=fun b o e=>he b o (Nat.ne_of_lt (Heap.lt_size e)) e
    have L0:Le (Zk cb sc env) μ s μ { s with heap:=h' }:=.ofKeep kp
    exact Qm hi hb (fun x p h=>hc' x p (.inr ⟨_,_,_,rfl,h⟩)) (I.grow (t:=s.toks) kp) (V.le I (.ofKeep kp)) (rs.mono (List.prefix_refl _) fun b o e _=>kp b o e) fun s2 L2 I2 V2=>k s2 (L0.trans L2) I2 V2
   | _=>exact nos hb
 | _=>exact nos ht
end
theorem jc (env:Env):∀ (names:List (Str×NameKind)) (cs:List (Str×Addr)),(∀ p∈names,p.2=.free→∃ c,env.cells.lookup p.1=some c)→(∀ x c,cs.lookup x=some c→env.cells.lookup x=some c) →
  ∃ cl,(forIn names cs fun (p:Str×NameKind) (r:List (Str×Addr))=>if (p.2 == .free)=true then do let a ← cellOf env p.1;pure (ForInStep.yield ((p.1,a)::r)) else pure (ForInStep.yield r):Sem (List (Str×Addr)))=pure cl ∧
   (∀ x c,cl.lookup x=some c→env.cells.lookup x=some c)∧(∀ p∈names,p.2=.free→∃ c,cl.lookup p.1=some c)∧(∀ x,(∃ c,cs.lookup x=some c)→∃ c,cl.lookup x=some c)
 | [],cs,_,h=>⟨cs,by rw [List.forIn_nil],h,fun _ h=>(nomatch h),fun _ h=>h⟩
 | (n,k)::r,cs,h1,h2=>by
  rw [List.forIn_cons]
  by_cases hk:k=.free
  ·subst hk
   obtain ⟨c,hc⟩:=h1 (n,.free) (.head _) rfl
   have hn:∀ x c',List.lookup x ((n,c)::cs)=some c'→env.cells.lookup x=some c':=fun x c' h=>by
    rw [List.lookup_cons] at h
    split at h
    ·rename_i e;cases h;rw [eq_of_beq e];exact hc
    ·exact h2 x c' h
   obtain ⟨cl,e,a,b,d⟩:=jc env r ((n,c)::cs) (fun p hp=>h1 p (.tail _ hp)) hn
   refine ⟨cl,?_,a,fun p hp hf=>?_,fun x ⟨c',hx⟩=>d x ?_⟩
   ·rw [← e]
    have:cellOf env n=pure c:=by unfold cellOf;rw [hc]
    show (((cellOf env n >>= fun a=>pure (ForInStep.yield ((n,a)::cs))):Sem _) >>= _)=_
    rw [this];rfl
   ·rcases List.mem_cons.mp hp with rfl | hp
    ·exact d n ⟨c,List.lookup_cons_self⟩
    ·exact b p hp hf
   ·rw [List.lookup_cons]
    split
    ·exact ⟨_,rfl⟩
    ·exact ⟨c',hx⟩
  ·obtain ⟨cl,e,a,b,d⟩:=jc env r cs (fun p hp=>h1 p (.tail _ hp)) h2
   refine ⟨cl,?_,a,fun p hp hf=>?_,d⟩
   ·rw [← e]
    rw [show (k == NameKind.free)=false from beq_false_of_ne hk];rfl
   ·rcases List.mem_cons.mp hp with rfl | hp
    ·exact absurd hf hk
    ·exact b p hp hf
theorem jd {scope:Scope} {env:Env} (h:∀ p∈scope.names,p.2=.free→∃ c,env.cells.lookup p.1=some c) :
  ∃ cl,closureFor scope env=pure cl∧(∀ x c,cl.lookup x=some c→env.cells.lookup x=some c)∧(∀ p∈scope.names,p.2=.free→∃ c,cl.lookup p.1=some c):=by
 obtain ⟨cl,e,a,b,_⟩:=jc env scope.names [] h (fun _ _ h=>by cases h)
 refine ⟨cl,?_,a,b⟩
 rw [← bind_pure (pure cl),← e]
 simp only [closureFor]
theorem YS {s:Scope} {env:Env} (he:env.scope.kind=.function) (x:Str):(relabel s env).names.lookup x=(match s.names.lookup x with
  | some .free=>if env.kindOf x == some .cell then some .cell else some .free
  | o=>o):=by
 unfold relabel
 dsimp only
 induction s.names with
 | nil=>rfl
 | cons p r ih =>
  obtain ⟨n,k⟩:=p
  rw [List.map_cons]
  by_cases hx:x=n
  ·subst hx
   have e:∀ (k:NameKind) (l:List (Str×NameKind)),List.lookup x ((x,k)::l)=some k:=fun _ _=>List.lookup_cons_self
   rw [e k r]
   cases k with
   | free=>by_cases hc:env.kindOf x=some .cell <;> simp [he,hc]
   | _=>exact e _ _
  ·have hb:(x == n)=false:=beq_false_of_ne hx
   have e1:List.lookup x ((n,k)::r)=List.lookup x r:=by rw [List.lookup_cons,hb]
   rw [e1,← ih]
   dsimp only
   split
   ·rw [List.lookup_cons,hb]
   ·rw [List.lookup_cons,hb]
theorem ww {x:Str}:∀ {ys:List Str} {k i:Nat},xJ x ys k=some i→k≤i∧i<k+ys.length∧ys[i - k]? = some x
 | [],_,_,h=>by cases h
 | y::ys,k,i,h=>by
  have h:(if (y == x)=true then some k else xJ x ys (k+1))=some i:=h
  by_cases e:(y == x)=true
  ·rw [if_pos e] at h
   cases h
   exact ⟨Nat.le_refl _,Nat.lt_add_of_pos_right (Nat.succ_pos _),by rw [Nat.sub_self];exact congrArg some (eq_of_beq e)⟩
  ·rw [if_neg e] at h
   obtain ⟨a,b,c⟩:=ww h
   refine ⟨Nat.le_of_succ_le a,by rw [List.length_cons,← Nat.add_assoc,Nat.add_right_comm];exact b,?_⟩
   have:i - k=(i - (k+1))+1:=(Nat.sub_add_cancel (Nat.sub_pos_of_lt a)).symm
   rw [this,List.getElem?_cons_succ];exact c
section
variable {prog:Program} {w:World} {X:Cx} {A:Around} {E:Value→Shared→Prop} {s s':Shared} {sc:Sc} {env:Env} {fr fr':AFr} {μ μ':Mu} {hp:Hp} {cb:Bool} {l:List Env}
theorem xF {sp:Scope} (h:qZ sc sp=true):sp.kind=.function∧(∀ p∈sp.names,p.2=.local∨(p.2=.free∧(sc.kind p.1=some .cell∨sc.kind p.1=some .free)∧∃ i,sc.slot p.1=some i)∨p.2=.globalImplicit)∧(sp.names.map (·.1)).Nodup:=by
 unfold qZ at h
 obtain ⟨h,c⟩:=xf h
 obtain ⟨a,b⟩:=xf h
 refine ⟨eq_of_beq a,fun p hp=>?_,of_decide_eq_true c⟩
 rcases orT (List.all_eq_true.mp b p hp) with h | h
 ·rcases orT h with h | h
  ·exact .inl (eq_of_beq h)
  ·obtain ⟨h,h3⟩:=xf h
   obtain ⟨h1,h2⟩:=xf h
   exact .inr (.inl ⟨eq_of_beq h1,(orT h2).imp eq_of_beq eq_of_beq,Option.isSome_iff_exists.mp h3⟩)
 ·exact .inr (.inr (eq_of_beq h))
theorem YI {α β:Type} [BEq α] [LawfulBEq α] {x:α} {b:β}:∀ {l:List (α×β)},(l.map (·.1)).Nodup→(x,b)∈l→l.lookup x=some b
 | [],_,h=>by cases h
 | (y,c)::r,nd,h=>by
  rw [List.map_cons,List.nodup_cons] at nd
  rw [List.lookup_cons]
  rcases List.mem_cons.mp h with e | h
  ·cases e;rw [beq_self_eq_true]
  ·rw [show (x == y)=false from beq_false_of_ne fun e=>nd.1 (List.mem_map.mpr ⟨_,h,e⟩)];exact YI nd.2 h
theorem z0g {sp:Scope} {cl:List (Str×Addr)} {C:Addr} (ok:qZ sc sp=true) (V:EnvR X l sc env fr μ s.heap) (hcl:∀ x c,cl.lookup x=some c→env.cells.lookup x=some c)
  (hcl':∀ p∈sp.names,p.2=.free→∃ c,cl.lookup p.1=some c) (ns:s.heap.Ns C (fun _=>none)) (hC:C∉zh μ) (hB:X.base.get? C=none) :
  EnvR X l (sc.inner sp) (compEnvC sp cl C env) (fr++List.replicate (y6 sp).length none) μ s.heap:=by
 obtain ⟨ok1,ok2,ok3⟩:=xF ok
 have kd:∀ x,(sc.inner sp).kind x=(compEnvC sp cl C env).kindOf x:=fun x=>by
  show (match sp.names.lookup x with
   | some .free=>if sc.kind x == some .cell then some .cell else some .free
   | o=>o)=(relabel sp env).names.lookup x
  rw [YS V.fn,V.kind]
 have locK:∀ x,(sc.inner sp).kind x=some .local→sp.names.lookup x=some .local:=fun x h=>by
  have h:(match sp.names.lookup x with
   | some .free=>if sc.kind x == some .cell then some .cell else some .free
   | o=>o)=some .local:=h
  cases q:sp.names.lookup x with
  | none=>rw [q] at h;exact nos h
  | some k =>
   rw [q] at h
   cases k with
   | «local» => rfl
   | free =>
    dsimp only at h
    by_cases z:(sc.kind x == some .cell)=true
    ·rw [if_pos z] at h;cases h
    ·rw [if_neg z] at h;cases h
   | _=>cases h
 have celK:∀ x,((sc.inner sp).kind x=some .cell∨(sc.inner sp).kind x=some .free)→sp.names.lookup x=some .free:=fun x h=>by
  have h:(match sp.names.lookup x with
   | some .free=>if sc.kind x == some .cell then some .cell else some .free
   | o=>o)=some .cell∨(match sp.names.lookup x with
   | some .free=>if sc.kind x == some .cell then some .cell else some .free
   | o=>o)=some .free:=h
  cases q:sp.names.lookup x with
  | none=>rw [q] at h;rcases h with h | h <;> exact nos h
  | some k =>
   cases k with
   | free=>rfl
   | cell=>rcases ok2 _ (xU q) with h | ⟨h,_⟩ | h <;> cases h
   | _=>rw [q] at h;rcases h with h | h <;> cases h
 have slotL:∀ x i,sp.names.lookup x=some .local→(sc.inner sp).slot x=some i→sc.width≤i∧i<sc.width+(y6 sp).length∧(y6 sp)[i - sc.width]? = some x:=fun x i e h=>by
  have h:(match sp.names.lookup x with
   | some .local=>xJ x (y6 sp) sc.width
   | some .free=>(match sc.kind x with
    | some .cell | some .free=>sc.slot x
    | _=>none)
   | _=>none)=some i:=h
  rw [e] at h
  exact ww h
 have slotF:∀ x i,sp.names.lookup x=some .free→(sc.inner sp).slot x=some i→(sc.kind x=some .cell∨sc.kind x=some .free)∧sc.slot x=some i:=fun x i e h=>by
  have h:(match sp.names.lookup x with
   | some .local=>xJ x (y6 sp) sc.width
   | some .free=>(match sc.kind x with
    | some .cell | some .free=>sc.slot x
    | _=>none)
   | _=>none)=some i:=h
  rw [e] at h
  dsimp only at h
  cases q:sc.kind x with
  | none=>rw [q] at h;exact nos h
  | some k =>
   rw [q] at h
   cases k with
   | cell=>exact ⟨.inl rfl,h⟩
   | free=>exact ⟨.inr rfl,h⟩
   | _=>exact nos h
 have slotK:∀ x i,(sc.inner sp).slot x=some i→sp.names.lookup x=some .local∨sp.names.lookup x=some .free:=fun x i h=>by
  have h:(match sp.names.lookup x with
   | some .local=>xJ x (y6 sp) sc.width
   | some .free=>(match sc.kind x with
    | some .cell | some .free=>sc.slot x
    | _=>none)
   | _=>none)=some i:=h
  cases q:sp.names.lookup x with
  | none=>rw [q] at h;exact nos h
  | some k =>
   rw [q] at h
   cases k with
   | «local» => exact .inl rfl
   | free=>exact .inr rfl
   | _=>exact nos h
 refine ⟨ok1,V.glob,V.bltn,kd,⟨_,ns,fun x i v h1 h2 h3=>?_⟩,fun fo x i h1 h2=>?_,hC,hB,fun fo x i h1 h2=>?_,fun q h=>(nomatch h),fun fo x c hc=>V.ncel fo x c (hcl x c hc),fun fo x c hc=>V.bcel fo x c (hcl x c hc),fun fo x y c h1 h2=>V.apart fo x y c (hcl _ _ h1) (hcl _ _ h2),fun x y i h1 h2=>?_,?_,fun x i h=>?_,V.frs⟩
 ·obtain ⟨a,b,_⟩:=slotL x i (locK x h1) h2
  rw [List.getElem?_append_right (by rw [V.wid];exact a)] at h3
  exact nos (List.eq_of_mem_replicate (yq h3)).symm
 ·have hf:=celK x h1
  obtain ⟨k1,k2⟩:=slotF x i hf h2
  obtain ⟨c,cv,q1,q2,q3⟩:=V.cel fo x i k1 k2
  obtain ⟨c',hc'⟩:=hcl' _ (xU hf) rfl
  have:=hcl _ _ hc'
  dsimp only at this hc'
  rw [q1] at this;cases this
  refine ⟨c,cv,hc',q2,fun v hv=>q3 v ?_⟩
  rwa [List.getElem?_append_left (by rw [V.wid];exact V.slt x i k2)] at hv
 ·have hf:=celK x h1
  obtain ⟨k1,k2⟩:=slotF x i hf h2
  obtain ⟨c,a,q1,q2,q3⟩:=V.flg fo x i k1 k2
  obtain ⟨c',hc'⟩:=hcl' _ (xU hf) rfl
  have:=hcl _ _ hc'
  dsimp only at this hc'
  rw [q1] at this;cases this
  exact ⟨c,a,hc',by rw [List.getElem?_append_left (by rw [V.wid];exact V.slt x i k2)];exact q2,q3⟩
 ·rcases slotK x i h1 with e1 | e1 <;> rcases slotK y i h2 with e2 | e2
  ·obtain ⟨_,_,c1⟩:=slotL x i e1 h1
   obtain ⟨_,_,c2⟩:=slotL y i e2 h2
   rw [c1] at c2;cases c2;rfl
  ·obtain ⟨a1,_⟩:=slotL x i e1 h1
   have:=V.slt y i (slotF y i e2 h2).2
   exact absurd this (Nat.not_lt.mpr a1)
  ·obtain ⟨a1,_⟩:=slotL y i e2 h2
   have:=V.slt x i (slotF x i e1 h1).2
   exact absurd this (Nat.not_lt.mpr a1)
  ·exact V.inj x y i (slotF x i e1 h1).2 (slotF y i e2 h2).2
 ·show _=sc.width+(y6 sp).length
  rw [zX,List.length_replicate,V.wid]
 ·show i<sc.width+(y6 sp).length
  rcases slotK x i h with e | e
  ·exact (slotL x i e h).2.1
  ·have:=V.slt x i (slotF x i e h).2;exact Nat.lt_of_lt_of_le this (Nat.le_add_right _ _)
end
section
variable {prog:Program} {w:World} {A:Around} {E:Value→Shared→Prop} {s:Shared}
theorem z0n {elt target iter:Expr} {ifs:List Expr} {scope:Scope} {pos:Pos} {it acc:Value} {env:Env} {R:Result→Shared→Prop} (I:Nat→Shared→Prop)
  (turn:∀ n s,I n s→wpAny (model prog w) A (pyNext it) (fun r s₁=>match r with
   | none=>R (.ok .next) s₁
   | some v=>wpAny (model prog w) A (letOwnedTupleGo target it v) (fun _ s₀=>wpAny (model prog w) A (assign target env v) (fun _ s₂ =>
     wpAny (model prog w) A (forIn ifs true fun c r=>if r=true then do let ok ← isTrue c env (eval c env);pure (ForInStep.yield ok) else pure (ForInStep.yield r)) (fun ok s₃=>if ok=true then wpAny (model prog w) A (eval elt env) (fun x s₄ =>
      wpAny (model prog w) A (call (.builtin "list.append") [acc,x]) (fun _ s₅=>∃ m,m<n∧I m s₅) (notedBy (model prog w) A env fun e s'=>R (.error e) s') s₄) (notedBy (model prog w) A env fun e s'=>R (.error e) s') s₃
      else ∃ m,m<n∧I m s₃) (notedBy (model prog w) A env fun e s'=>R (.error e) s') s₂)
     (notedBy (model prog w) A env fun e s'=>R (.error e) s') s₀) (notedBy (model prog w) A env fun e s'=>R (.error e) s') s₁) (notedBy (model prog w) A env fun e s'=>R (.error e) s') s)
  (n:Nat) (h:I n s):codeAny (model prog w) A (.compLoop (.ListComp elt [⟨target,iter,ifs,0⟩] scope pos) 0 it acc env) R s:=by
 refine codeAny_loop rfl I (fun n s hI=>?_) n h
 show wpAny _ A ((compTurn (.ListComp elt [⟨target,iter,ifs,0⟩] scope pos) 0 it acc env).onRaise (fun x=>do noteFrame x env;theTreesLotGoes x)) _ _ s
 refine wpAny_noted ?_
 rw [compTurn_list]
 refine wpAny_bind (wpAny_standAt (wpAny_bind (wpAny_mono (turn n s hI) (fun r s₁ h₁=>?_) fun _ _ h'=>h')))
 cases r with
 | none=>exact wpAny_pure h₁
 | some v =>
  refine wpAny_bind (wpAny_mono h₁ (fun _ s₀ h₀'=>?_) fun _ _ h'=>h')
  refine wpAny_bind (wpAny_mono h₀' (fun _ s₂ h₂=>?_) fun _ _ h'=>h')
  refine wpAny_bind (wpAny_mono h₂ (fun okb s₃ h₃=>?_) fun _ _ h'=>h')
  cases okb with
  | false=>exact wpAny_pure ⟨rfl,h₃⟩
  | true=>exact wpAny_bind (wpAny_bind (wpAny_mono h₃ (fun x s₄ h₄=>wpAny_bind (wpAny_mono h₄ (fun _ s₅ h₅=>wpAny_pure (wpAny_pure ⟨rfl,h₅⟩)) fun _ _ h'=>h')) fun _ _ h'=>h'))
theorem ZM {env:Env} {Q:Bool→Shared→Prop} (h:Q false s):∀ (ifs:List Expr),
  wpAny (model prog w) A (forIn ifs false fun c r=>if r=true then do let ok ← isTrue c env (eval c env);pure (ForInStep.yield ok) else pure (ForInStep.yield r)) Q E s
 | []=>wpAny_pure h
 | c::r=>by
  rw [List.forIn_cons]
  exact wpAny_bind (wpAny_pure (ZM h r))
end
theorem Out.bind0_ok_of {α β:Type} {o:Out α} {k:α→Hp→Out β} {b:β} {h':Hp} (e:o.bind0 k=.ok b h'):∃ a h,o=.ok a h∧k a h=.ok b h':=by
 cases o with
 | ok a h=>exact ⟨a,h,rfl,e⟩
 | _=>exact nok e
section
variable {prog:Program} {w:World} {X:Cx} {G:GTab} {n:Nat} {cf:CF} {sc:Sc} {env:Env}
theorem PG.okT {l:List Env} {μ:Mu} {s:Shared} {o:Out Bool} {b:Bool} {hp':Hp} {Q:Bool→Shared→Prop} {E:Value→Shared→Prop} (e:o=.ok b hp') (h:∀ μ' s',Le noS μ s μ' s'→Inv X μ' hp' s'→Q b s'):PT X l μ s o Q E:=by
 rw [e];exact fun b' μ' s' L I r=>r▸h μ' s' L I
theorem PG.okE {l:List Env} {μ:Mu} {s:Shared} {o:Out AV} {v:AV} {hp':Hp} {Q:Value→Shared→Prop} {E:Value→Shared→Prop} (e:o=.ok v hp') (h:PE X μ s v hp' Q):PO X l μ s o Q E:=by
 rw [e];exact h
theorem wh:∀ {ifs:List Expr} {ts:List XT},SndTs prog w X n cf sc env (ifs.map fun c=>isTrue c env (eval c env)) ts →
  wf prog w X n cf sc env (forIn ifs true fun c r=>if r=true then do let ok ← isTrue c env (eval c env);pure (ForInStep.yield ok) else pure (ForInStep.yield r)) (y8 .And ts)
 | [],ts,h=>by
  cases h
  exact fun _ I _ k=>wpAny_pure (k _ _ _ .refl I rfl)
 | c::ifs,ts,h=>by
  intro R I V k
  cases h with | cons ht h=>?_
  rw [List.forIn_cons]
  refine wpAny_bind (wpAny_bind (ht R I V (k.bind fun b1 b1' h1 μ1 s1 L1 I1 e k=>wpAny_pure ?_)))
  cases e
  cases b1 with
  | false=>exact ZM (k _ μ1 s1 .refl I1 rfl) _
  | true=>exact wh h R I1 (V.le I L1) k
theorem Le.fresh1 {S:Addr→Prop} {μ μ' μ'':Mu} {s s' s'':Shared} (L:Le noS μ s μ' s') (L2:Le S μ' s' μ'' s'') (h:∀ b,S b→s.heap.get? b=none):Le noS μ s μ'' s'' :=
 ((L.weak fun _ h=>h.elim).trans L2).drop fun b o hb e=>by rw [h b hb] at e;exact nos e
theorem Inv.adopt {μ:Mu} {hp:Hp} {s:Shared} (I:Inv X μ hp s) {D:Addr} {o:AO} (hD:D∉zh μ) (hB:X.base.get? D=none) (r:OR X (μ++[(D,none)]) s.heap o (D,none)):Inv X (μ++[(D,none)]) (hp++[o]) s:=by
 have ea:zh (μ++[(D,none)])=zh μ++[D]:=by rw [xe];simp [zh]
 have mn:∀ {o:AO} {p:Addr×Option Addr},OR X μ s.heap o p→OR X (μ++[(D,none)]) s.heap o p:=fun r=>r.mono (List.prefix_append _ _) (fun _ _ e _=>e) fun _ _ _ e=>e
 refine ⟨by simp [I.len],?_,fun a ha=>?_,fun i q x hi hx=>?_,I.keep,I.gens,I.os⟩
 ·rw [ea,List.nodup_append]
  refine ⟨I.nodup,by simp,fun a ha b hb e=>?_⟩
  simp at hb;subst hb;subst e;exact hD ha
 ·rw [ea,List.mem_append] at ha
  rcases ha with ha | ha
  ·exact I.above a ha
  ·simp at ha;subst ha;exact hB
 ·by_cases hlt:i<μ.length
  ·rw [List.getElem?_append_left hlt] at hi
   rw [List.getElem?_append_left (by rw [← I.len];exact hlt)] at hx
   exact mn (I.rep i q x hi hx)
  ·have e1:i=μ.length:=by
    have:=(yj hi).1
    simp at this;lia
   subst e1
   rw [List.getElem?_append_right (Nat.le_refl _)] at hi
   rw [I.len,List.getElem?_append_right (Nat.le_refl _)] at hx
   simp at hi hx
   subst hi hx
   exact r
theorem QM {sp:Scope} {target:Expr} (h:qR sp target=true):∀ x p,(target=.Name x p∨∃ es k q,target=.Tuple es k q∧Expr.Name x p∈es)→(sc.inner sp).kind x=some .local:=by
 have go:∀ x,sp.names.lookup x=some .local→(sc.inner sp).kind x=some .local:=fun x e=>by
  show (match sp.names.lookup x with
   | some .free=>if sc.kind x == some .cell then some .cell else some .free
   | o=>o)=some .local
  rw [e]
 rintro x p (rfl | ⟨es,k,q,rfl,hm⟩)
 ·exact go x (eq_of_beq (show (sp.names.lookup x == some .local)=true from h))
 ·exact go x (eq_of_beq (show (sp.names.lookup x == some .local)=true from List.all_eq_true.mp (show (es.all fun e=>(match e with
   | .Name x _=>sp.names.lookup x == some .local
   | _=>false))=true from h) _ hm))
structure CS (X:Cx) (l:List Env) (sc:Sc) (env:Env) (μ₁:Mu) (s₁:Shared) (Dd:Addr) (its:List Addr) (St:Nat→Mu→Heap→Prop) (k:Nat) (acc:List AV) (fr:AFr) (hp:Hp) (μ:Mu) (items:Array Value) (s:Shared):Prop where
 I:Inv X μ hp s
 L:Le noS μ₁ s₁ μ s
 V:EnvR X l sc env fr μ s.heap
 ac:s.heap.PlainList Dd items
 ra:VRs X μ s.heap acc items.toList
 n:Dd∉zh μ
 T:Its X s₁.heap μ s.heap its
 st:St k μ s.heap
section
variable {l:List Env} {μ₁ μ μb:Mu} {s₁ s sb:Shared} {Dd C:Addr} {its:List Addr} {St:Nat→Mu→Heap→Prop} {k:Nat} {acc:List AV} {fr fr₁:AFr} {hp hb:Hp} {items:Array Value} {target:Expr} {src:Src} {it:Value}
theorem CS.itsD (S:CS X l sc env μ₁ s₁ Dd its St k acc fr hp μ items s):Dd∉its:=fun h=>by
 obtain ⟨o,Tn,vs,ho,hc,hd,_⟩:=S.T.obj _ h
 obtain ⟨n',q⟩:=S.ac
 rw [q] at ho;cases ho;cases hd
theorem CS.later (D:Drives prog w X target src it its St) (S:CS X l sc env μ₁ s₁ Dd its St k acc fr hp μ items s) (Lb:Le noS μ s μb sb) (Ib:Inv X μb hb sb):CS X l sc env μ₁ s₁ Dd its St k acc fr hb μb items sb:=by
 obtain ⟨Tb,kb⟩:=S.T.later (fun _ _ h _=>h.elim) Lb
 refine ⟨Ib,S.L.trans Lb,S.V.le S.I Lb,(by obtain ⟨n',q⟩:=S.ac;exact ⟨n',(Lb.keep _ _ S.n (fun h=>h) q).exact rfl⟩),S.ra.le S.I Lb,fun h=>?_,Tb,
  D.frame _ μ μb _ _ S.st Lb.pre (fun b hb o q=>(kb b hb).trans q) (Lb.fixed S.I fun _ _ h=>h.elim) fun b o q=>⟨S.I.keep b o q,Ib.keep b o q⟩⟩
 rcases Lb.fresh _ h with h | h
 ·exact S.n h
 ·obtain ⟨n',q⟩:=S.ac;rw [h] at q;cases q
theorem CS.turn (D:Drives prog w X target src it its St) (S:CS X l sc env μ₁ s₁ Dd its St k acc fr hp μ items s) (B1:But its s sb) (st1:St (k+1) μ sb.heap) (hDC:Dd≠env.locals) (hC1:s₁.heap.get? env.locals=none) {s2:Shared} (L2:Le (Zk false sc env) μ sb μ s2) (I2:Inv X μ hp s2) (V2:EnvR X l sc env fr₁ μ s2.heap) :
  CS X l sc env μ₁ s₁ Dd its St (k+1) acc fr₁ hp μ items s2:=by
 have I1:=S.T.invR B1 S.I
 have V1:=S.T.envR B1 S.V
 have T1:Its X s₁.heap μ sb.heap its:=⟨S.T.new,S.T.out,S.T.base,D.obj _ μ _ st1⟩
 have S2:∀ b,Zk false sc env b→b=env.locals:=fun b h=>by
  rcases h with h | ⟨h,_⟩
  ·exact h
  ·exact nob h
 have fx2:=L2.fixOwn V1 I1
 obtain ⟨T2,k2⟩:=T1.later (fun b o h q=>wk V1 (xr h) q) L2
 refine ⟨I2,(S.T.leR B1 S.L).fresh1 L2 fun b h=>by rw [S2 b h];exact hC1,V2,?_,(S.T.vrs B1 S.ra).mono (List.prefix_refl _) fx2,S.n,T2,
  D.frame _ μ μ sb.heap s2.heap st1 (List.prefix_refl _) (fun b hb o q=>(k2 b hb).trans q) fx2 fun b o q=>⟨I1.keep b o q,I2.keep b o q⟩⟩
 obtain ⟨n',q⟩:=S.ac.at fun o q=>B1.1 _ o S.itsD q
 exact ⟨n',(L2.keep _ _ S.n (fun h=>hDC (S2 _ h)) q).exact rfl⟩
theorem CS.push (D:Drives prog w X target src it its St) (S:CS X l sc env μ₁ s₁ Dd its St k acc fr hp μ items s) (hD1:s₁.heap.get? Dd=none) (bD:X.base.get? Dd=none) {u:AV} {u':Value} (ru:VR X μ s.heap u u') {h':Heap} (ac5:h'.PlainList Dd (items.push u')) (hs5:Heap.SameBut Dd s.heap h') :
  CS X l sc env μ₁ s₁ Dd its St k (acc++[u]) fr hp μ (items.push u') { s with heap:=h' }:=by
 have nfx:∀ o,s.heap.get? Dd=some o→¬ yb o:=fun o q f=>by
  obtain ⟨n',q'⟩:=S.ac
  rw [q] at q';cases q'
  rcases f with ⟨q,_⟩ | ⟨q | q,_⟩ | ⟨q,_⟩ | ⟨C,vs,q,_⟩ <;> first | (injection q with q;exact absurd q (by decide)) | cases q
 have fx5:∀ b o,s.heap.get? b=some o→yb o→h'.get? b=some o:=fun b o q f=>hs5.extBut b o (fun h=>nfx o (h▸q) f) q
 obtain ⟨I5,L5⟩:=S.I.own (s':={ s with heap:=h' }) (S:=fun b=>b=Dd) (fun b h=>h▸⟨S.n,bD⟩) (fun b o h q=>⟨nfx o (h▸q),by obtain ⟨n',q'⟩:=ac5;exact ⟨_,h▸q'⟩⟩)
  (fun b o h q=>hs5.extBut b o h q) rfl rfl
 have itsD4:∀ b∈its,b≠Dd:=fun b hb h=>S.itsD (h▸hb)
 refine ⟨I5,S.L.fresh1 L5 (fun b h=>h▸hD1),S.V.but (s':={ s with heap:=h' }) (fun b o h q=>hs5.extBut b o (fun hb=>by
   obtain ⟨n',q'⟩:=S.ac
   rw [hb,q'] at q;cases q
   rcases wk S.V h (hb▸q') with ⟨es,n,q⟩ | ⟨v,q⟩ <;> cases q) q) fx5 (S.V.frs.mono fun b o n q d=>⟨n,o,hs5.extBut b o (fun hb=>by
   obtain ⟨n',q'⟩:=S.ac
   rw [hb,q'] at q;cases q;cases d) q,d⟩),ac5,?_,S.n,⟨S.T.new,S.T.out,S.T.base,fun b hb=>by
   obtain ⟨o,Tn,vs,ho,rest⟩:=S.T.obj b hb
   exact ⟨o,Tn,vs,hs5.extBut b o (itsD4 b hb) ho,rest⟩⟩,D.frame _ μ μ _ _ S.st (List.prefix_refl _) (fun b hb o q=>hs5.extBut b o (itsD4 b hb) q) fx5 fun b o q=>⟨S.I.keep b o q,I5.keep b o q⟩⟩
 rw [Array.toList_push]
 exact (S.ra.mono (List.prefix_refl _) fx5).app (.cons (ru.mono (List.prefix_refl _) fx5) .nil)
end
theorem XD {elt target iter:Expr} {ifs:List Expr} {sp:Scope} {pos:Pos} {t:NTgt} {test:XT} {eltx:XE} {cl:List (Str×Addr)} {RR:Value→Addr→Result→Shared→Prop} {A:Around} {l:List Env} {E:Value→Shared→Prop} {s₁ s₂:Shared}
  {μ₁:Mu} {hp₁ hp₂:Hp} {fr:AFr} {vs:List AV} {src:Src} {f:Nat} {it:Value} {its:List Addr} {St:Nat→Mu→Heap→Prop}
  (hn:n≠0) (ok:qZ sc sp=true) (ht:xZ (sc.inner sp) target=some t) (htl:qR sp target=true)
  (hts:∀ env',wf prog w X n cf (sc.inner sp) env' (forIn ifs true fun c r=>if r=true then do let ok ← isTrue c env' (eval c env');pure (ForInStep.yield ok) else pure (ForInStep.yield r)) test)
  (hel:∀ env',zw prog w X n cf (sc.inner sp) env' (eval elt env') eltx)
  (hcl:∀ x c,cl.lookup x=some c→env.cells.lookup x=some c) (hcl':∀ p∈sp.names,p.2=.free→∃ c,cl.lookup p.1=some c)
  (e:yt t test eltx src f 0 [] cf (fr++List.replicate (y6 sp).length none) hp₁=.ok vs hp₂) (R:Room n A l) (I:Inv X μ₁ hp₁ s₁) (V:EnvR X l sc env fr μ₁ s₁.heap)
  (D:Drives prog w X target src it its St) (T:Its X s₁.heap μ₁ s₂.heap its) (st:St 0 μ₁ s₂.heap) (B:But [] s₁ s₂)
  (hRR:∀ D C m μ' s',Inv X (μ'++[(D,none)]) (hp₂++[.list vs]) s'→Le noS μ₁ s₁ (μ'++[(D,none)]) s'→s'.heap.Ns C m→C∉zh (μ'++[(D,none)])→X.base.get? C=none→s₁.heap.get? C=none→μ'.length=hp₂.length→RR (.ref D) C (.ok .next) s') :
  wpAny (model prog w) A (newList []) (fun acc s₃=>wpAny (model prog w) A (newFunctionEnv sp env.globals cl [] env.qual none .none (some env)) (fun cenv s₄ =>
   codeAny (model prog w) A (.compStart (.ListComp elt [⟨target,iter,ifs,0⟩] sp pos) 0 it acc { cenv with scope:=relabel sp env }) (RR acc cenv.locals) s₄) E s₃) E s₂:=by
 obtain ⟨ok1,ok2,ok3⟩:=xF ok
 refine wpAny_newObj_type (wpAny_newFunctionEnv (fun x hx h=>by rcases ok2 x hx with q | ⟨q,_⟩ | q <;> rw [h] at q <;> cases q) (by intro y hy;simp at hy) (fun h₁ hns hsb=>?_) ok1)
 dsimp only at hns hsb ⊢
 generalize hH2:s₂.heap.push { cls:=.type "list",dict:=none,data:=.seq ([]:List Value).toArray }=H2 at hns hsb ⊢
 have hz:H2.objs.size=s₂.heap.objs.size+1:=by rw [← hH2,Heap.size_push]
 generalize hD':s₂.heap.objs.size=Dd at hz ⊢
 generalize hC':H2.objs.size=C at hns hsb hz ⊢
 have fresh₂:∀ b,Dd≤b→s₂.heap.get? b=none:=fun b hb=>by
  cases q:s₂.heap.get? b with
  | none=>rfl
  | some o=>have h1:=Heap.lt_size q;rw [hD'] at h1;exact absurd h1 (Nat.not_lt.mpr hb)
 have fresh₁:∀ b,Dd≤b→s₁.heap.get? b=none:=fun b hb=>by
  cases q:s₁.heap.get? b with
  | none=>rfl
  | some o=>have:=B.1 b o (by simp) q;rw [fresh₂ b hb] at this;exact nos this
 have hDC:Dd≠C:=by rw [hz];exact Nat.ne_of_lt (Nat.lt_succ_self _)
 have hD1:s₁.heap.get? Dd=none:=fresh₁ _ (Nat.le_refl _)
 have hC1:s₁.heap.get? C=none:=fresh₁ _ (by rw [hz];exact Nat.le_succ _)
 have hD2:s₂.heap.get? Dd=none:=fresh₂ _ (Nat.le_refl _)
 have hC2:s₂.heap.get? C=none:=fresh₂ _ (by rw [hz];exact Nat.le_succ _)
 have old:∀ b o,s₂.heap.get? b=some o→h₁.get? b=some o:=fun b o q=>hsb.extBut b o (by rintro rfl;rw [hC2] at q;cases q) (Heap.get?_push_of_some _ (hH2▸Heap.get?_push_of_some _ q))
 have hacc:h₁.PlainList Dd #[]:=⟨_,hsb.extBut _ _ hDC (Heap.get?_push_of_some _ (hH2▸hD'▸Heap.get?_push_size _ rfl))⟩
 have nin:∀ {μ:Mu} {s:Shared} {b:Addr},Le noS μ₁ s₁ μ s→s₁.heap.get? b=none→b∉zh μ₁:=fun L h q=>by
  obtain ⟨o,ho,_⟩:=I.mut q;rw [h] at ho;exact nos ho
 have bas:∀ {b:Addr},s₁.heap.get? b=none→X.base.get? b=none:=fun {b} h=>by
  cases q:X.base.get? b with
  | none=>rfl
  | some o=>have:=I.keep b o q;rw [h] at this;exact nos this
 generalize hs3:({ s₂ with heap:=h₁,toks:=s₂.toks+([]:List (Str×Value)).length }:Shared)=s₃
 have hp3:s₃.heap=h₁:=by rw [← hs3]
 have B3:But [] s₁ s₃:=⟨fun b o n q=>by rw [hp3];exact old b o (B.1 b o n q),by rw [← hs3];exact B.2.1,by rw [← hs3];exact B.2.2⟩
 have K3:∀ b o,s₁.heap.get? b=some o→s₃.heap.get? b=some o:=fun b o q=>B3.1 b o (by simp) q
 have I3:Inv X μ₁ hp₁ s₃:=⟨I.len,I.nodup,I.above,fun i p o a b=>(I.rep i p o a b).mono (List.prefix_refl _) (fun b o e _=>K3 b o e) fun b _ o e=>K3 b o e,fun b o q=>K3 b o (I.keep b o q),B3.2.1.trans I.gens,B3.2.2.trans I.os⟩
 have L3:Le noS μ₁ s₁ μ₁ s₃:=.ofKeep K3
 have V3:EnvR X l sc env fr μ₁ s₃.heap:=V.le I L3
 have VC:EnvR X l (sc.inner sp) (compEnvC sp cl C env) (fr++List.replicate (y6 sp).length none) μ₁ s₃.heap :=
  z0g ok V3 hcl hcl' (by rw [hp3];simpa using hns) (nin L3 hC1) (bas hC1)
 have st3:St 0 μ₁ s₃.heap:=D.frame 0 μ₁ μ₁ s₂.heap s₃.heap st (List.prefix_refl _) (fun b _ o q=>by rw [hp3];exact old b o q) (fun b o q _=>by rw [hp3];exact old b o q) (fun b o q=>⟨B.1 b o (by simp) (I.keep b o q),K3 b o (I.keep b o q)⟩)
 have T3:Its X s₁.heap μ₁ s₃.heap its:=⟨T.new,T.out,T.base,D.obj 0 μ₁ _ st3⟩
 have loop:codeAny (model prog w) A (.compLoop (.ListComp elt [⟨target,iter,ifs,0⟩] sp pos) 0 it (.ref Dd) (compEnvC sp cl C env)) (RR (.ref Dd) C) s₃:=by
  refine z0n (fun m s=>∃ k acc fr' hp' μ' items,yt t test eltx src m k acc cf fr' hp'=.ok vs hp₂∧acc.length≤small∧CS X l (sc.inner sp) (compEnvC sp cl C env) μ₁ s₁ Dd its St k acc fr' hp' μ' items s) ?_ f
   ⟨0,[],_,hp₁,μ₁,#[],e,Nat.zero_le _,I3,L3,VC,by rw [hp3];exact hacc,.nil,nin L3 hD1,T3,st3⟩
  rintro m s ⟨k,acc,fr',hp',μ',items,e,za,S⟩
  cases m with
  | zero=>exact nok e
  | succ m =>
  have e:(match src.next? hp' k with
   | none=>Out.stuck
   | some none=>.ok acc hp'
   | some (some x)=>(match t.bind x fr' with
    | none=>.stuck
    | some fr₁=>(test cf fr₁ hp').bind0 fun b h₁ =>
      if b then (eltx cf fr₁ h₁).bind0 fun v h₂=>if acc.length<small then yt t test eltx src m (k+1) (acc++[v]) cf fr₁ h₂ else .stuck
      else yt t test eltx src m (k+1) acc cf fr₁ h₁))=.ok vs hp₂:=e
  cases hx:src.next? hp' k with
  | none=>rw [hx] at e;exact nok e
  | some ox =>
  rw [hx] at e
  cases ox with
  | none =>
   cases e
   refine D.done (R.handled hn) S.I S.st hx fun s' B'=>?_
   have L':=S.T.leR B' S.L
   obtain ⟨n',hl⟩:=S.ac.at fun o q=>B'.1 _ o S.itsD q
   have I':=(S.T.invR B' S.I).adopt (o:=.list vs) S.n (bas hD1) (.list hl za ((S.T.vrs B' S.ra).mono (List.prefix_append _ _) fun _ _ e _=>e))
   obtain ⟨mm,ns,_⟩:=(S.T.envR B' S.V).loc
   refine hRR Dd C mm μ' s' I' ⟨L'.pre.trans (List.prefix_append _ _),fun a ha=>?_,L'.exist,L'.keep⟩ ns (fun h=>?_) (bas hC1) hC1 S.I.len
   ·rw [xe,List.mem_append] at ha
    rcases ha with ha | ha
    ·exact L'.fresh a ha
    ·rw [qV (show a∈[Dd] from ha)];exact .inr hD1
   ·rw [xe,List.mem_append] at h
    rcases h with h | h
    ·exact S.V.nloc h
    ·exact hDC (qV (show C∈[Dd] from h)).symm
  | some x =>
   dsimp only at e
   cases hb:t.bind x fr' with
   | none=>rw [hb] at e;exact nok e
   | some fr₁ =>
    rw [hb] at e
    obtain ⟨b,h1,e1,e⟩:=Out.bind0_ok_of e
    refine D.item (R.handled hn) S.I S.T.out S.st hx (fun v s₁ h=>h) fun v s1 rv B1 st1=>?_
    refine xd (cb:=false) ht hb (fun _=>R.handled hn) (fun _=>QM htl) (S.T.invR B1 S.I) (S.T.envR B1 S.V) rv fun s2 L2 I2 V2=>?_
    have S2:=S.turn D B1 st1 hDC hC1 L2 I2 V2
    refine hts _ R I2 V2 (PG.okT e1 fun μ3 s3 L3 I3=>?_)
    have S3:=S2.later D L3 I3
    cases b with
    | false =>
     rw [if_neg Bool.false_ne_true] at e ⊢
     exact ⟨m,Nat.lt_succ_self _,k+1,acc,fr₁,h1,μ3,items,e,za,S3⟩
    | true =>
     rw [if_pos rfl] at e ⊢
     obtain ⟨u,h2,e2,e⟩:=Out.bind0_ok_of e
     refine hel _ R I3 S3.V (PG.okE e2 fun u' μ4 s4 L4 I4 ru=>?_)
     have S4:=S3.later D L4 I4
     by_cases hlt:acc.length<small
     ·rw [if_pos hlt] at e
      have l4:=S4.ra.length
      rw [Array.length_toList] at l4
      refine wpAny_list_append_plain S4.ac (fun h' ac5 hs5=>?_) (by rw [l4];exact yY (Nat.le_of_lt hlt))
      exact ⟨m,Nat.lt_succ_self _,k+1,acc++[u],fr₁,h2,μ4,items.push u',e,by rw [zX];exact hlt,S4.push D hD1 (bas hD1) ru ac5 hs5⟩
     ·rw [if_neg hlt] at e;exact nok e
 exact codeAny_compStart_list loop (D.self (R.handled hn) st3 loop)
end
inductive FlR (X:Cx) (μ:Mu) (h:Heap):AFlow→Flow→Prop
 | next:FlR X μ h .next .next
 | ret {v:AV} {v':Value}:VR X μ h v v'→FlR X μ h (.ret v) (.ret v')
noncomputable def Fly (nw:Bool) (B:Heap) (l:List Env) (e C:Addr) (h:Heap):Prop:=match nw with
 | false=>∃ a0,Heap.FlyingW B l e (.ref C) a0 h
 | true=>∃ h0 args,Heap.MadeExcOf h0 h e (.ref C) args∧B.StaysIn h0∧h0.FunFrames B l
noncomputable def PX (X:Cx) (l:List Env) (sc:Sc) (env:Env) (μ:Mu) (s:Shared) (nw:Bool) (c:Str) (fr':AFr) (hp':Hp) (E:Value→Shared→Prop):Prop :=
 ∀ e μ' s' B C,nsIn X.K mainGlobals c=some (some (.ref C))→Fly nw B l e C s'.heap →
  (∀ h6 t,B.StaysIn h6→s'.heap.UpToSlots h6→Le (own sc env) μ s μ' { s' with heap:=h6,toks:=t }∧Inv X μ' hp' { s' with heap:=h6,toks:=t }∧EnvR X l sc env fr' μ' h6)→E (.ref e) s'
noncomputable def PS (X:Cx) (l:List Env) (sc:Sc) (env:Env) (μ:Mu) (s:Shared) (o:OS) (Q:Flow→Shared→Prop) (E:Value→Shared→Prop):Prop:=match o with
 | .stuck=>False
 | .ok fl fr' hp'=>∀ fl' μ' s',Le (own sc env) μ s μ' s'→Inv X μ' hp' s'→EnvR X l sc env fr' μ' s'.heap→FlR X μ' s'.heap fl fl'→Q fl' s'
 | .exc nw c fr' hp'=>PX X l sc env μ s nw c fr' hp' E
noncomputable def Hd1 (env:Env) (l:List Env):Prop:=∃ outer,l=env::outer∧env.frame=some env.locals
noncomputable def ym (prog:Program) (w:World) (X:Cx) (n:Nat) (cf:CF) (sc:Sc) (env:Env) (t:Sem Flow) (x:XS):Prop :=
 ∀ {fr:AFr} {hp:Hp} {A:Around} {l:List Env} {μ:Mu} {s:Shared} {Q:Flow→Shared→Prop} {E:Value→Shared→Prop},
  Hd1 env l→Room n A l→Inv X μ hp s→EnvR X l sc env fr μ s.heap→PS X l sc env μ s (x cf fr hp) Q E→wpAny (model prog w) A t Q E s
section
variable {prog:Program} {w:World} {X:Cx} {G:GTab} {n:Nat} {cf:CF} {sc:Sc} {env:Env} {l:List Env}
theorem PS.le {μ μ':Mu} {s s':Shared} {o:OS} {Q:Flow→Shared→Prop} {E:Value→Shared→Prop} (k:PS X l sc env μ s o Q E) (L:Le (own sc env) μ s μ' s'):PS X l sc env μ' s' o Q E:=by
 cases o with
 | stuck=>exact k
 | ok fl fr hp=>exact fun fl' μ'' s'' L'=>k fl' μ'' s'' (L.trans L')
 | exc nw c fr hp=>exact fun e μ'' s'' B C h1 h2 h3=>k e μ'' s'' B C h1 h2 fun h6 t g1 g2=>⟨L.trans (h3 h6 t g1 g2).1,(h3 h6 t g1 g2).2⟩
theorem Le.own {μ μ':Mu} {s s':Shared} (L:Le noS μ s μ' s'):Le (own sc env) μ s μ' s':=L.weak fun _ h=>h.elim
theorem z2c {h:Heap} {C:Addr} {m:Str→Option Value} {o:Obj} (ns:h.Ns C m) (e:h.get? C=some o):¬ yb o:=by
 obtain ⟨o',es,ep,ho,hd,_⟩:=ns
 rw [e] at ho;cases ho
 rintro (⟨_,xs,n,q⟩ | ⟨_,vs,q⟩ | ⟨_,fd,q⟩ | ⟨C,vs,_,q⟩) <;> rw [hd] at q <;> cases q
theorem zJw {μ₁ μ:Mu} {hp:Hp} {s₁ s:Shared} {C:Addr} {m:Str→Option Value} {h':Heap} (I:Inv X μ hp s) (L:Le noS μ₁ s₁ μ s) (ns:s.heap.Ns C m) (nC:C∉zh μ) (bC:X.base.get? C=none) (C1:s₁.heap.get? C=none)
  (hsb:Heap.SameBut C s.heap h'):Inv X μ hp { s with heap:=h' }∧Le noS μ₁ s₁ μ { s with heap:=h' }∧(∀ b o,b≠C→s.heap.get? b=some o→h'.get? b=some o)∧(∀ b o,s.heap.get? b=some o→yb o→h'.get? b=some o):=by
 have kp:∀ b o,b≠C→s.heap.get? b=some o→h'.get? b=some o:=fun b o n e=>hsb.extBut b o n e
 have fx:∀ b o,s.heap.get? b=some o→yb o→h'.get? b=some o:=fun b o e f=>kp b o (fun h=>by subst h;exact z2c ns e f) e
 refine ⟨⟨I.len,I.nodup,I.above,fun i p o a b=>(I.rep i p o a b).mono (List.prefix_refl _) fx fun b hb o e=>kp b o (fun h=>nC (by subst h;exact yX.mpr ⟨i,p,a,hb⟩)) e,
  fun b o e=>kp b o (fun h=>by subst h;rw [bC] at e;cases e) (I.keep b o e),I.gens,I.os⟩,⟨L.pre,L.fresh,fun b o e=>?_,fun b o n ns e=>(L.keep b o n ns e).trans fun o' e'=>.inl (kp b o' (fun h=>by subst h;rw [C1] at e;cases e) e')⟩,kp,fx⟩
 obtain ⟨o',e'⟩:=L.exist b o e
 exact ⟨o',kp b o' (fun h=>by subst h;rw [C1] at e;cases e) e'⟩
theorem qJ {e:Expr} (h:jq e=true) (x:Value):foldedSetIterable e env x=pure x:=by
 cases e <;> first | rfl | exact nob h
theorem Yg {sp:Scope} (ok:qZ sc sp=true):∀ x∈sp.names,x.2=.local→sp.names.lookup x.1=some .local:=fun x hx h=>by
 obtain ⟨_,_,c⟩:=xF ok
 exact YI c (by rw [← h];exact hx)
theorem EnvR.look {x:Str} {i:Nat} {fr:AFr} {μ:Mu} {h:Heap} (V:EnvR X l sc env fr μ h) (hk:sc.kind x=some .cell∨sc.kind x=some .free) (hs:sc.slot x=some i):∃ c,env.cells.lookup x=some c:=by
 cases hf:sc.fl with
 | false=>obtain ⟨c,cv,e,_⟩:=V.cel hf x i hk hs;exact ⟨c,e⟩
 | true=>obtain ⟨c,a,e,_⟩:=V.flg hf x i hk hs;exact ⟨c,e⟩
theorem Yh {sp:Scope} {fr:AFr} {μ:Mu} {h:Heap} (ok:qZ sc sp=true) (V:EnvR X l sc env fr μ h):∀ p∈sp.names,p.2=.free→∃ c,env.cells.lookup p.1=some c:=fun p hp hf=>by
 obtain ⟨_,b,_⟩:=xF ok
 rcases b p hp with q | ⟨_,q1,i,q2⟩ | q
 ·rw [hf] at q;cases q
 ·exact V.look q1 q2
 ·rw [hf] at q;cases q
theorem z1e {elt target iter:Expr} {ifs:List Expr} {sp:Scope} {pos:Pos} {t:NTgt} {test:XT} {eltx itx:XE} (hn:n≠0) (ok:qZ sc sp=true) (ht:xZ (sc.inner sp) target=some t) (htl:qR sp target=true) (hset:jq iter=true)
  (hts:∀ env',wf prog w X n cf (sc.inner sp) env' (forIn ifs true fun c r=>if r=true then do let ok ← isTrue c env' (eval c env');pure (ForInStep.yield ok) else pure (ForInStep.yield r)) test)
  (hel:∀ env',zw prog w X n cf (sc.inner sp) env' (eval elt env') eltx) (hit:zw prog w X n cf sc env (eval iter env) itx) :
  zw prog w X n cf sc env (eval (.ListComp elt [⟨target,iter,ifs,0⟩] sp pos) env) (xB itx (y6 sp).length t test eltx):=by
 intro fr hp A l μ s Q E R I V k
 obtain ⟨cl,c0,c1,c2⟩:=jd (Yh ok V)
 rw [eval_ListComp]
 refine wpAny_comprehension_free (use:=none) rfl (fun x=>qJ hset x) c0 (xF ok).1 (Yg ok) (hit R I V (k.bind fun iv iv' h1 μ1 s1 L1 I1 ri k=>?_))
 cases hsrc:yw h1 iv with
 | none=>rw [hsrc] at k;exact k.elim
 | some sn =>
  obtain ⟨src,nn⟩:=sn
  rw [hsrc] at k
  have k:PO X l μ1 s1 ((yt t test eltx src (nn+1) 0 [] cf (fr++List.replicate (y6 sp).length none) h1).bind0 fun vs h₂=>.ok (.ref h₂.length) (h₂++[AO.list vs])) Q E:=k
  cases e2:yt t test eltx src (nn+1) 0 [] cf (fr++List.replicate (y6 sp).length none) h1 with
  | stuck=>rw [e2] at k;exact k.elim
  | exc=>rw [e2] at k;exact k.elim
  | ok vs h2 =>
  rw [e2] at k
  refine jZ (target:=target) hsrc I1 ri fun it its St s2 D T st B=>?_
  refine XD (RR:=fun acc C=>compPost (model prog w) A E none Q acc C) hn ok ht htl hts hel c1 c2 e2 R I1 (V.le I L1) D T st B fun Dd C m μ' s' I' L' ns nC bC C1 len=>?_
  refine ⟨m,ns,fun h' hsb=>?_⟩
  obtain ⟨J,M,_,_⟩:=zJw I' L' ns nC bC C1 hsb
  exact k _ _ _ M J (.ref (p:=(Dd,none)) (by rw [← len];simp))
theorem PS.bindS {α β:Type} {rel:Mu→Heap→α→β→Prop} {μ:Mu} {s:Shared} {hp:Hp} {fr:AFr} {o:Out α} {f:α→Hp→OS} {Q':β→Shared→Prop} {Q:Flow→Shared→Prop} {E:Value→Shared→Prop} (k:PS X l sc env μ s (o.bindS fr f) Q E) (I:Inv X μ hp s) (V:EnvR X l sc env fr μ s.heap)
  (h:∀ a b hp' μ' s',Le noS μ s μ' s'→Inv X μ' hp' s'→rel μ' s'.heap a b→PS X l sc env μ' s' (f a hp') Q E→Q' b s'):PG rel X l μ s o Q' E:=by
 cases o with
 | stuck=>exact k
 | ok v hp'=>exact fun b μ' s' L I r=>h v b hp' μ' s' L I r (PS.le (o:=f v hp') k L.own)
 | exc c hp'=>exact fun e μ' s' B C a0 h1 h2 h3=>k e μ' s' B C h1 ⟨a0,h2⟩ fun h6 t g1 g2=>⟨(h3 h6 t g1 g2).1.own,(h3 h6 t g1 g2).2,V.le I (h3 h6 t g1 g2).1⟩
theorem Out.bind_bindS {α β:Type} {o:Out α} {f:α→Hp→Out β} {fr:AFr} {g:β→Hp→OS}:(o.bind f).bindS fr g=o.bindS fr fun a h=>(f a h).bindS fr g:=by cases o <;> rfl
theorem Zh {elt target iter:Expr} {ifs:List Expr} {sp:Scope} {pos px spos:Pos} {t:NTgt} {test:XT} {eltx itx:XE} {x:Str} {okf:Str→Str→Bool} {t':NTgt} (hn:n≠0) (ok:qZ sc sp=true) (ht:xZ (sc.inner sp) target=some t) (htl:qR sp target=true) (hset:jq iter=true)
  (hts:∀ env',wf prog w X n cf (sc.inner sp) env' (forIn ifs true fun c r=>if r=true then do let ok ← isTrue c env' (eval c env');pure (ForInStep.yield ok) else pure (ForInStep.yield r)) test)
  (hel:∀ env',zw prog w X n cf (sc.inner sp) env' (eval elt env') eltx) (hit:zw prog w X n cf sc env (eval iter env) itx) (hx:xZ sc (.Name x px)=some t')
  (hsw:swapsWith (.ListComp elt [⟨target,iter,ifs,0⟩] sp pos) (some (.Name x px)) spos.line env=pure true) :
  ym prog w X n cf sc env (exec (.Assign [.Name x px] (.ListComp elt [⟨target,iter,ifs,0⟩] sp pos) spos) env) (zA okf (.names t') (xB itx (y6 sp).length t test eltx)):=by
 intro fr hp A l μ s Q E _ R I V k
 have k:PS X l sc env μ s ((itx cf fr hp).bindS fr fun v h₁=>((match yw h₁ v with
  | none=>Out.stuck
  | some (src,n)=>(yt t test eltx src (n+1) 0 [] cf (fr++List.replicate (y6 sp).length none) h₁).bind0 fun vs h₂=>.ok (AV.ref h₂.length) (h₂++[AO.list vs]))).bindS fr fun v h₁=>match t'.bind v fr with
  | some fr₁=>.ok .next fr₁ h₁
  | none=>.stuck) Q E:=by rw [← Out.bind_bindS];exact k
 obtain ⟨cl,c0,c1,c2⟩:=jd (Yh ok V)
 rw [exec_Assign_Name_used _ _ _ _ hsw]
 refine wpAny_bind (wpAny_standAt (wpAny_bind ?_))
 show wpAny _ A (do let _ ← comprehension (.ListComp elt [⟨target,iter,ifs,0⟩] sp pos) sp env _ (newList []) false (eval iter env) (some (assign (.Name x px) env))) _ _ s
 refine wpAny_bind (wpAny_mono (wpAny_comprehension_free (use:=some (assign (.Name x px) env)) (Q:=fun _ s'=>Q .next s') rfl (fun x=>qJ hset x) c0 (xF ok).1 (Yg ok)
  (hit R I V (k.bindS I V fun iv iv' h1 μ1 s1 L1 I1 ri k=>?_))) (fun _ s' hq=>wpAny_pure (wpAny_pure hq)) fun _ _ e=>e)
 cases hsrc:yw h1 iv with
 | none=>rw [hsrc] at k;exact k.elim
 | some sn =>
  obtain ⟨src,nn⟩:=sn
  rw [hsrc] at k
  have k:PS X l sc env μ1 s1 (((yt t test eltx src (nn+1) 0 [] cf (fr++List.replicate (y6 sp).length none) h1).bind0 fun vs h₂=>Out.ok (AV.ref h₂.length) (h₂++[AO.list vs])).bindS fr fun v h₁=>match t'.bind v fr with
   | some fr₁=>.ok .next fr₁ h₁
   | none=>.stuck) Q E:=k
  cases e2:yt t test eltx src (nn+1) 0 [] cf (fr++List.replicate (y6 sp).length none) h1 with
  | stuck=>rw [e2] at k;exact k.elim
  | exc=>rw [e2] at k;exact k.elim
  | ok vs h2 =>
  rw [e2] at k
  have k:PS X l sc env μ1 s1 (match t'.bind (AV.ref h2.length) fr with
   | some fr₁=>.ok .next fr₁ (h2++[AO.list vs])
   | none=>.stuck) Q E:=k
  cases hb:t'.bind (AV.ref h2.length) fr with
  | none=>rw [hb] at k;exact k.elim
  | some fr₁ =>
  rw [hb] at k
  refine jZ (target:=target) hsrc I1 ri fun it its St s2 D T st B=>?_
  have V1:=V.le I L1
  refine XD (RR:=fun acc C=>compPost (model prog w) A E (some (assign (.Name x px) env)) (fun _ s'=>Q .next s') acc C) hn ok ht htl hts hel c1 c2 e2 R I1 V1 D T st B fun Dd C m μ' s' I' L' ns nC bC C1 len=>?_
  show wpAny _ A (assign (.Name x px) env (.ref Dd)) _ _ _
  have V':=V1.le I1 L'
  have nown:¬ own sc env C:=fun h=>by
   rcases h with h | ⟨hf,y,h⟩
   ·obtain ⟨m0,⟨o,es,ep,ho,_⟩,_⟩:=V1.loc
    rw [← h,C1] at ho;exact nos ho
   ·obtain ⟨_,cv,o,ho,_⟩:=V1.ncel hf y C h
    rw [C1] at ho;exact nos ho
  refine xd (cb:=true) hx hb (fun _=>R.handled hn) (fun h=>by cases h) I' V' (.ref (p:=(Dd,none)) (by rw [← len];simp)) fun s3 L3 I3 V3=>?_
  have nsC:s3.heap.Ns C m:=by
   obtain ⟨o,es,ep,ho,hd,r⟩:=ns
   obtain ⟨o',ho',q⟩:=(L3.keep C o nC (fun h=>nown (xr h)) ho).get
   exact ⟨o',es,ep,ho',q.trans hd,r⟩
  have LL:Le (own sc env) μ1 s1 (μ'++[(Dd,none)]) s3:=L'.own.trans (L3.weak fun _ h=>xr h)
  refine ⟨m,nsC,fun h' hsb=>?_⟩
  have kp:∀ b o,b≠C→s3.heap.get? b=some o→h'.get? b=some o:=fun b o n e=>hsb.extBut b o n e
  have fx:∀ b o,s3.heap.get? b=some o→yb o→h'.get? b=some o:=fun b o e f=>kp b o (fun h=>by subst h;exact z2c nsC e f) e
  have J:Inv X (μ'++[(Dd,none)]) (h2++[.list vs]) { s3 with heap:=h' }:=⟨I3.len,I3.nodup,I3.above,fun i p o a b=>(I3.rep i p o a b).mono (List.prefix_refl _) fx fun b hb o e=>kp b o (fun h=>nC (by subst h;exact yX.mpr ⟨i,p,a,hb⟩)) e,
   fun b o e=>kp b o (fun h=>by subst h;rw [bC] at e;cases e) (I3.keep b o e),I3.gens,I3.os⟩
  have LM:Le (own sc env) μ1 s1 (μ'++[(Dd,none)]) { s3 with heap:=h' }:=⟨LL.pre,LL.fresh,fun b o e=>by
   obtain ⟨o',e'⟩:=LL.exist b o e
   exact ⟨o',kp b o' (fun h=>by subst h;rw [C1] at e;cases e) e'⟩,fun b o n ns e=>(LL.keep b o n ns e).trans fun o' e'=>.inl (kp b o' (fun h=>by subst h;rw [C1] at e;cases e) e')⟩
  refine k .next _ _ LM J (V3.but (s':={ s3 with heap:=h' }) (fun b o h e=>kp b o (fun hb=>nown (hb▸h)) e) fx fun v hv=>?_) .next
  obtain ⟨_,L1',o1,f1,_,_,g1,_⟩:=V1.frs v hv
  obtain ⟨k1,L3',o3,f3,b3,n3,g3,d3⟩:=V3.frs v hv
  rw [f1] at f3;cases f3
  exact ⟨k1,L1',o3,f1,b3,n3,kp _ _ (fun h=>by rw [h,C1] at g1;cases g1) g3,d3⟩
end
end Mine
end
end
section
noncomputable section
namespace Mine
open PySem PySem.W PySem.Calls PyProof.Rows
theorem J7 {pos:Pos} {a b:Int} {c cv:Value} (l:List Value) (h:TriplesOk l) (e:codeAmong pos (l++[rawInt a,rawInt b,c])=some cv):codeAmong pos l=some cv∨cv=c:=by
 fun_induction TriplesOk l with
 | case1 =>
  simp only [List.nil_append,codeAmong,rawInt] at e
  split at e
  ·cases e;exact .inr rfl
  ·cases e
 | case2 a' t b' u x rest ih =>
  simp only [List.cons_append,codeAmong] at e ⊢
  split at e
  ·rename_i hc;rw [if_pos hc];exact .inl e
  ·rename_i hc;rw [if_neg hc];exact ih h e
 | case3 l h1 h2=>exact h.elim
theorem qM.rec_ {q:Str} {h:Heap} {cv:Value} (x:qM q h cv):h.CodeRec cv (ZC q) :=
 let ⟨c,o,vs,t,e1,e2,_,e4,e5⟩:=x;⟨c,o,vs,t,e1,e2,e4,e5⟩
theorem YK {α β:Type} {f:α→Option β} {xs:List α}:∀ {ys:List β},yd f xs=some ys→∀ {j:Nat} {x:α},xs[j]? = some x→∃ y,ys[j]? = some y∧f x=some y:=by
 induction xs with
 | nil=>intro ys _ j x e;exact nos e
 | cons a xs ih =>
  intro ys h j x e
  obtain ⟨y,ys',h1,h2,rfl⟩:=wq h
  cases j with
  | zero=>cases e;exact ⟨y,rfl,h1⟩
  | succ j=>exact ih h2 e
section
variable {M:Model} {A:Around} {E:Value→Shared→Prop} {s:Shared} {lm:LamS} {env:Env} {c P:Addr} {ps:Array Value} {pos:Pos} {firstLine:Nat} {mg:Str→Option Value}
 {clos:List (Str×Addr)} {dV:Value} {Q:Value→Shared→Prop}
theorem z2j (hcl:closureFor lm.sp env=pure clos) (hge0:env.globals=mainGlobals) (hg:s.heap.Ns mainGlobals mg) (hcode:env.code=.ref c) (C:CodeHd s.heap c P) (hP:s.heap.get? P=some (tabObj ps)) (ht:TriplesOk ps.toList)
  (hnf:codeAmong pos ps.toList=none) (hgP:mainGlobals≠P) (hb:s.heap.BuiltinsAt mg P)
  (h:∀ c' ctv h' tk,Heap.ExtBut P s.heap h'→qM lm.q h' (.ref c')→h'.get? P=some (tabObj (ps++#[rawInt pos.line,rawInt pos.col,.ref c'])) →
   Q (.ref h'.objs.size) { s with heap:=h'.push (Wo lm clos dV .none ((mg "__name__").getD .none) (.ref c') ctv),toks:=tk }) :
  wpAny M A (makeTail "<lambda>" (ZC lm.q) lm.ar (.expr lm.body) lm.sp env dV .none none pos firstLine) Q E s:=by
 obtain ⟨bm,ob,hbm,hne0,_,hneP,hbo,hcls,hdict,hdata⟩:=hb
 unfold makeTail
 rw [hcl,hge0]
 refine wpAny_bind (wpAny_pure ?_)
 have fin:∀ {s0:Shared} {ctv:Value},(∀ b o,s.heap.get? b=some o→s0.heap.get? b=some o)→s0={ s with heap:=s0.heap,toks:=s0.toks }→wpAny M A (do
   let cd ← functionCode env pos firstLine "<lambda>" (ZC lm.q) lm.ar lm.sp (.expr lm.body)
   let bl ← builtinsFor mainGlobals env.builtins
   let nm ← nsGet mainGlobals "__name__"
   let doc ← (pure .none:Sem Value)
   newObj (.type "function") (.func { name := "<lambda>",qualname:=ZC lm.q,params:=lm.ar,body:=.expr lm.body,scope:=lm.sp,globals:=mainGlobals,closure:=clos,defaults:=dV,kwdefaults:=.none,doc:=doc,pyModule:=nm.getD .none,annotations:=none,code:=cd,closureTuple:=ctv,builtins:=bl })) Q E s0:=by
  intro s0 ctv k0 e0
  have C0:=C.keeps k0
  have P0:=k0 _ _ hP
  refine wpAny_bind (wpAny_functionCodeX hcode (C0.code P0 ht) (C0.tab P0) hnf fun c' h' tk hx hge hlt _ hrec htb hnw=>?_)
  have hg':=(hg.keeps k0).extBut hx hgP
  refine wpAny_bind (wpAny_builtinsFor hg' hbm hne0 (hx _ _ hneP (k0 _ _ hbo)) hcls hdict hdata ?_)
  refine wpAny_bind (wpAny_nsGet hg' ?_)
  refine wpAny_bind (wpAny_pure (wpAny_newObj_type ?_ (by size_fits)))
  obtain ⟨P',_,_,⟨o',vs',f1,f2,f3,_⟩,_⟩:=hnw
  obtain ⟨c2,o2,vs2,t2,q0,q1,q2,q3⟩:=hrec
  cases q0
  rw [f1] at q1;cases q1
  rw [f3] at q2;cases q2
  have:=h c' ctv h' tk (fun b o n e=>hx b o n (k0 _ _ e)) ⟨c',o',vs',t2,rfl,f1,f2,f3,q3⟩ htb.2
  rw [e0];exact this
 cases clos with
 | nil =>
  simp only [List.isEmpty_nil,if_true]
  exact wpAny_bind (wpAny_pure (fin (fun _ _ e=>e) rfl))
 | cons q r =>
  simp only [List.isEmpty_cons,Bool.false_eq_true,if_false]
  exact wpAny_bind (wpAny_newTextTuple (fin (s0:={ s with heap:=s.heap.push _ }) (fun _ _ e=>Heap.get?_push_of_some _ e) rfl))
end
section
variable {prog:Program} {w:World} {X:Cx} {G:GTab} {n:Nat} {cf:CF} {sc:Sc} {env:Env} {fr:AFr} {μ:Mu} {hp:Hp} {s:Shared} {l:List Env} {A:Around}
theorem z30 {sp:Scope} {p:Str×NameKind} (h:p∈sp.names) (hf:p.2=.free):p.1∈zv sp:=List.mem_map.mpr ⟨p,List.mem_filter.mpr ⟨h,by rw [hf];rfl⟩,rfl⟩
theorem Qq {sp:Scope} {x:Str} (h:x∈zv sp):(x,NameKind.free)∈sp.names:=by
 obtain ⟨⟨y,k⟩,h1,rfl⟩:=List.mem_map.mp h
 obtain ⟨h2,h3⟩:=List.mem_filter.mp h1
 rw [← eq_of_beq h3];exact h2
theorem z2t {sp:Scope} (h:W3 sc sp=true):sc.fl=true∧∀ p∈sp.names,p.2=.free→sc.kind p.1=some .cell:=by
 obtain ⟨h1,h2⟩:=Bool.and_eq_true_iff.mp h
 refine ⟨h1,fun p hp hf=>?_⟩
 have:=List.all_eq_true.mp h2 p hp
 rw [hf] at this
 exact eq_of_beq this
theorem JQ {lm:LamS} {is cs:List Nat} {q:Str×Addr} {ix:Nat} {dV:Value} {lp:Pos} {line:Nat} {Q:Value→Shared→Prop} {E:Value→Shared→Prop} (g:Gd X G) (ok:W3 sc lm.sp=true) (hlw:sc.law=some q) (hq:lm.q=q.1) (hG:G.code q.1=some q.2) (his:yd sc.slot (zv lm.sp)=some is)
  (I:Inv X μ hp s) (V:EnvR X l sc env fr μ s.heap) (ht:hp[ix]? = some (.tab q.1)) (hcs:yd (wC fr) is=some cs) (hdv:Dfl s.heap lm.ar dV) (k:PE X μ s (.lam lm cs) hp Q) :
  wpAny (model prog w) A (makeTail "<lambda>" (ZC lm.q) lm.ar (.expr lm.body) lm.sp env dV .none none lp line) Q E s:=by
 obtain ⟨fo,o4⟩:=z2t ok
 have slotOf:∀ {j:Nat} {x:Str},(zv lm.sp)[j]? = some x→∃ i,is[j]? = some i∧sc.slot x=some i∧sc.kind x=some .cell:=fun {j x} e=>by
  obtain ⟨i,e1,e2⟩:=YK his e
  exact ⟨i,e1,e2,o4 (x,.free) (Qq (yq e)) rfl⟩
 obtain ⟨cl,hcl0,hcl,hcl'⟩:=jd (scope:=lm.sp) (env:=env) fun p hp hf=>by
  obtain ⟨j,hj⟩:=List.getElem?_of_mem (z30 hp hf)
  obtain ⟨i,_,e2,e3⟩:=slotOf hj
  exact V.look (.inl e3) e2
 have clo:∀ j x,(zv lm.sp)[j]? = some x→∃ c a,cl.lookup x=some c∧cs[j]? = some a∧μ[a]? = some (c,none):=fun j x e=>by
  obtain ⟨i,e1,e2,e3⟩:=slotOf e
  obtain ⟨a,e4,e5⟩:=YK hcs e1
  obtain ⟨c,a',f1,f2,f3⟩:=V.flg fo x i (.inl e3) e2
  rw [Yb e5] at f2;cases f2
  obtain ⟨c',hc'⟩:=hcl' _ (Qq (yq e)) rfl
  have:=hcl _ _ hc'
  dsimp only at this hc'
  rw [f1] at this;cases this
  exact ⟨c,a,hc',e4,f3⟩
 obtain ⟨vc,vq⟩:=V.cod q hlw
 obtain ⟨CH,mg,hmg,hbm⟩:=g.code q.1 q.2 hG
 have hix:ix<μ.length:=by rw [I.len];exact (yj ht).1
 have hμ:μ[ix]? = some μ[ix]:=yO hix
 obtain ⟨hp0,ps,eP,tr,ccs⟩:=(I.rep ix _ _ hμ ht).tab_
 rw [hp0] at hμ
 have hgs:=hmg.keeps I.keep
 have CH':=CH.keeps I.keep
 obtain ⟨bm,ob,b1,b2,b3,b4,b5,b6,b7,b8⟩:=hbm
 have hset:hp.set ix (.tab q.1)=hp:=by
  refine List.ext_getElem? fun i=>?_
  by_cases h:ix=i
  ·subst h;rw [List.getElem?_set_self (yj ht).1,ht]
  ·rw [List.getElem?_set_ne h]
 have nP:∀ b o,X.base.get? b=some o→b≠X.tabP q.1:=fun b o e r=>by
  have:=I.above (X.tabP q.1) (yX.mpr ⟨ix,_,hμ,.head _⟩)
  rw [← r,e] at this;cases this
 have hgP:mainGlobals≠X.tabP q.1:=by
  obtain ⟨o,es,ep,e,_⟩:=hmg
  exact nP _ _ e
 have lamR:∀ {h':Heap} {doc pm cv ctv:Value} {f:Addr},(∀ b o,s.heap.get? b=some o→yb o→h'.get? b=some o)→h'.get? f=some (Wo lm cl dV doc pm cv ctv)→qM lm.q h' cv→WQ μ h' lm cs f:=fun hk e1 e2 =>
  ⟨cl,dV,_,_,_,_,e1,e2,hdv.imp id fun ⟨T,v,a,b,c⟩=>⟨T,v,a,b,hk _ _ c (.inl ⟨rfl,_,_,rfl⟩)⟩,clo⟩
 cases hf:codeAmong lp ps.toList with
 | some cv =>
  refine kdv_makeTailHit (mg:=mg) hcl0 V.glob hgs vc CH' eP tr hf ⟨bm,ob,b1,b2,b3,b4,I.keep _ _ b5,b6,b7,b8⟩ fun ctv doc h' tk hk hsz=>?_
  have hk':∀ b o,s.heap.get? b=some o→(h'.push (Wo lm cl dV doc ((mg "__name__").getD .none) cv ctv)).get? b=some o:=fun b o e=>Heap.get?_push_of_some _ (hk b o e)
  exact k _ μ _ (.grow hk') (I.grow hk') (.lam (lamR (fun b o e _=>hk' b o e) (Heap.get?_push_size _ rfl) ((hq▸ccs lp cv hf).mono fun b o e _=>hk' b o e)))
 | none =>
  refine z2j (lm:=lm) (mg:=mg) hcl0 V.glob hgs vc CH' eP tr hf hgP ⟨bm,ob,b1,b2,b3,b4,I.keep _ _ b5,b6,b7,b8⟩ fun c' ctv h' tk hx hlc hP=>?_
  have hk':∀ b o,b≠X.tabP q.1→s.heap.get? b=some o→(h'.push (Wo lm cl dV .none ((mg "__name__").getD .none) (.ref c') ctv)).get? b=some o:=fun b o n e=>Heap.get?_push_of_some _ (hx b o n e)
  have fxP:∀ b o,s.heap.get? b=some o→yb o→b≠X.tabP q.1:=fun b o e f r=>by
   rw [r,eP] at e;cases e
   exact Mut.notFixed (.inr (.inr (.inr (.inr ⟨_,rfl⟩)))) f
  have lc:=hlc.mono (h':=h'.push (Wo lm cl dV .none ((mg "__name__").getD .none) (.ref c') ctv)) fun b o e _=>Heap.get?_push_of_some _ e
  obtain ⟨I1,L1⟩:=I.upd (t:=tk) (h':=h'.push (Wo lm cl dV .none ((mg "__name__").getD .none) (.ref c') ctv)) hμ (fun b o n e=>hk' b o (fun r=>n (r▸.head _)) e) (o':=.tab q.1) (.tab ⟨_,Heap.get?_push_of_some _ hP,by
   rw [Array.toList_append];exact TriplesOk_snoc _ _ _ _ tr,fun pos cv e=>by
   rw [Array.toList_append] at e
   rcases J7 _ tr e with r | rfl
   ·exact (ccs pos cv r).mono fun b o e f=>hk' b o (fxP b o e f) e
   ·exact hq▸lc⟩)
  rw [hset] at I1
  exact k _ μ _ L1 I1 (.lam (lamR (fun b o e f=>hk' b o (fxP b o e f) e) (Heap.get?_push_size _ rfl) lc))
structure LamArgs (a:Arguments):Prop where
 a1:a.posonlyargs=[]
 a2:a.kwonlyargs=[]
 a3:a.kw_defaults=[]
 a4:a.vararg=none
 a5:a.kwarg=none
 a6:(a.args=[]∧a.defaults=[])∨∃ p i k ps,a.args=[p]∧a.defaults=[.Constant (.int i) k ps]
theorem YU {a:Arguments} (h:jD a=true):LamArgs a:=by
 unfold jD at h
 obtain ⟨h,h8⟩:=xf h
 obtain ⟨h,h7⟩:=xf h
 obtain ⟨h,h6⟩:=xf h
 obtain ⟨h,h5⟩:=xf h
 obtain ⟨h,h4⟩:=xf h
 obtain ⟨h,h3⟩:=xf h
 obtain ⟨h1,h2⟩:=xf h
 have h6:=Nat.eq_of_beq_eq_true h6
 have h7:=zU h7
 refine ⟨List.isEmpty_iff.mp h1,List.isEmpty_iff.mp h2,List.isEmpty_iff.mp h3,Option.isNone_iff_eq_none.mp h4,Option.isNone_iff_eq_none.mp h5,?_⟩
 cases ha:a.args with
 | nil=>rw [ha] at h6;exact .inl ⟨rfl,List.length_eq_zero_iff.mp h6.symm⟩
 | cons p r =>
  rw [ha] at h6 h7
  cases r with
  | cons=>exact absurd h7 (Nat.not_le.mpr (Nat.succ_lt_succ (Nat.succ_pos _)))
  | nil =>
   cases hd:a.defaults with
   | nil=>rw [hd] at h6;cases h6
   | cons d r' =>
    cases r' with
    | cons=>rw [hd] at h6;exact absurd (Nat.succ.inj h6).symm (Nat.succ_ne_zero _)
    | nil =>
     rw [hd] at h8
     have h8:(match Ye d with | some k=>(zHb k.1).isSome | none=>false)=true:=(Bool.and_eq_true_iff.mp h8).1
     cases hc:Ye d with
     | none=>rw [hc] at h8;exact nob h8
     | some k =>
      rw [hc] at h8
      obtain ⟨i,hi⟩:=Option.isSome_iff_exists.mp h8
      exact .inr ⟨p,i,k.2.1,k.2.2,rfl,by rw [XC hc,z5c hi]⟩
theorem z12 {h:Hp} {a:Nat} {q:Str} (e:JF h a=some q):h[a]? = some (.tab q):=by
 unfold JF at e
 cases r:h[a]? with
 | none=>rw [r] at e;exact nos e
 | some o =>
  rw [r] at e
  cases o with
  | tab=>cases e;rfl
  | _=>exact nos e
theorem z4e {ar:Arguments} {body:Expr} {sp:Scope} {is:List Nat} {q:Str×Addr} {ix:Nat} {lp:Pos} (g:Gd X G) (ok:W3 sc sp=true) (ha:jD ar=true) (hlw:sc.law=some q) (hG:G.code q.1=some q.2) (his:yd sc.slot (zv sp)=some is) :
  zw prog w X n cf sc env (eval (.Lambda ar body sp lp) env) (zy ⟨ar,body,sp,q.1⟩ is ix):=by
 intro fr hp A l μ s Q E R I V k
 obtain ⟨v,e,k⟩:=PG.of k
 have k:PE X μ s v hp Q:=k
 obtain ⟨q',e1,e⟩:=zf e
 obtain ⟨e2,e⟩:=wM e
 obtain ⟨cs,e3,rfl⟩:=yC e
 have ht:=z12 e1
 have e2:q'=q.1:=e2
 subst e2
 obtain ⟨a1,a2,a3,a4,a5,a6⟩:=YU ha
 have vq:=(V.cod q hlw).2
 rcases a6 with ⟨a6,a7⟩ | ⟨p,i,kk,ps,a6,a7⟩
 ·refine kla_eval (by obtain ⟨x1,x2,x3,x4,x5,x6,x7⟩:=ar;dsimp only at a3 a7;subst a3 a7;rfl) ?_
  rw [vq,makeFunction_eq]
  simp only [List.zip_nil_right,List.filterMap_nil,List.isEmpty_nil,if_true,pure_bind]
  exact JQ (lm:=⟨ar,body,sp,q.1⟩) g ok hlw rfl hG his I V ht e3 (.inl ⟨a7,rfl⟩) k
 ·refine kdv_lam (by rw [a7];rfl) a3 ?_
  rw [a7]
  refine kdv_all1 (wpAny_mkInt (kdv_all0 ?_))
  rw [vq,makeFunction_eq]
  simp only [List.zip_nil_right,List.filterMap_nil,List.isEmpty_nil,List.isEmpty_cons,if_true,pure_bind,Bool.false_eq_true,if_false]
  refine wpAny_bind (wpAny_newTextTuple ?_)
  have hk:∀ b o,s.heap.get? b=some o→(s.heap.push (kdv_tup [.int i s.toks])).get? b=some o:=fun b o e=>Heap.get?_push_of_some _ e
  exact JQ (lm:=⟨ar,body,sp,q.1⟩) g ok hlw rfl hG his (I.grow hk) (V.le I (.grow hk)) ht e3 (.inr ⟨_,_,by rw [a7];rfl,rfl,Heap.get?_push_size _ rfl⟩) (k.le (.grow hk))
end
end Mine
end
end
section
noncomputable section
namespace Mine
open PySem PySem.W PySem.Calls
section
variable {prog:Program} {w:World} {X:Cx} {G:GTab} {n:Nat} {cf:CF} {sc:Sc} {env:Env}
theorem zt {t:Sem Value}:zw prog w X n cf sc env t zk:=by
 exact fun _ _ _ k=>k.elim
theorem wE {t:Sem Bool}:wf prog w X n cf sc env t (fun _ _ _=>.stuck):=by
 exact fun _ _ _ k=>k.elim
theorem xW {f:Nat} (h:∀ e,zw prog w X n cf sc env (eval e env) (dE G f sc e)):∀ es:List Expr,SndL prog w X n cf sc env (evalEach es env) (es.map (dE G f sc))
 | []=>.nil
 | e::es=>.cons (h e) (xW h es)
theorem j6 {f:Nat} (h:∀ e,wf prog w X n cf sc env (isTrue e env (eval e env)) (dT G f sc e)):∀ es:List Expr,SndTs prog w X n cf sc env (es.map fun e=>isTrue e env (eval e env)) (es.map (dT G f sc))
 | []=>.nil
 | e::es=>.cons (h e) (j6 h es)
theorem qF {t:Sem Value} {c:Prop} [Decidable c] {x:XE} (h:c→zw prog w X n cf sc env t x):zw prog w X n cf sc env t (if c then x else zk):=by
 by_cases q:c
 ·rw [if_pos q];exact h q
 ·rw [if_neg q];exact zt (cf:=cf)
theorem z1j {t:Sem Bool} {c:Prop} [Decidable c] {x:XT} (h:c→wf prog w X n cf sc env t x):wf prog w X n cf sc env t (if c then x else fun _ _ _=>.stuck):=by
 by_cases q:c
 ·rw [if_pos q];exact h q
 ·rw [if_neg q];exact wE (cf:=cf)
theorem JK {x:Str} {pos:Pos} (hk:sc.kind x=some .local∨sc.fl=false∧(sc.kind x=some .cell∨sc.kind x=some .free)) (hd:(x == ("__debug__" : Str))=false) (hc:(x == ("__classdict__" : Str))=false) :
  zw prog w X n cf sc env (eval (.Name x pos) env) (match sc.slot x with | some i=>z6 i | none=>zk):=by
 cases hi:sc.slot x with
 | none=>exact zt (cf:=cf)
 | some i =>
  intro fr hp A l μ s Q E R I V k
  have k:PO X l μ s (match fr[i]? with | some (some v)=>Out.ok v hp | _=>.stuck) Q E:=k
  cases hu:fr[i]? with
  | none=>rw [hu] at k;exact k.elim
  | some o =>
   rw [hu] at k
   cases o with
   | none=>exact k.elim
   | some u=>exact Yy hk hi hu I V hd hc k
theorem QX {x:Str} {pos:Pos} (hk:sc.kind x=some .cell∨sc.kind x=some .free) (hd:(x == ("__debug__" : Str))=false) (hc:(x == ("__classdict__" : Str))=false) :
  zw prog w X n cf sc env (eval (.Name x pos) env) (match sc.slot x with | some i=>if sc.fl=true then zF i else z6 i | none=>zk):=by
 cases hf:sc.fl with
 | false=>exact JK (.inr ⟨hf,hk⟩) hd hc
 | true =>
 cases hi:sc.slot x with
 | none=>exact zt (cf:=cf)
 | some i =>
  intro fr hp A l μ s Q E R I V k
  obtain ⟨v,e,k⟩:=PG.of (o:=(wC fr i).bind fun a=>(wy hp a).join) k
  obtain ⟨a,h1,h2⟩:=zf e
  refine Wz hf hk hi h1 ?_ I V hd hc k
  cases q:wy hp a with
  | none=>rw [q] at h2;exact nos h2
  | some o=>rw [q] at h2;exact congrArg some h2
theorem z1b {x:Str} {pos:Pos} (g:Gd X G) (hk:sc.kind x=some .globalImplicit) (hd:(x == ("__debug__" : Str))=false):zw prog w X n cf sc env (eval (.Name x pos) env) (zI (G.glob x)):=by
 intro fr hp A l μ s Q E R I V k
 obtain ⟨v,e1,k⟩:=PG.of k
 exact YY g hk e1 I V hd k
theorem z18 {x:Str} {pos:Pos} (g:Gd X G):zw prog w X n cf sc env (eval (.Name x pos) env) (z3c G sc x):=by
 unfold z3c
 by_cases hx:(x == ("__debug__" : Str) || x == ("__classdict__" : Str))=true
 ·rw [if_pos hx];exact zt (cf:=cf)
 ·rw [if_neg hx]
  have hx:=Bool.eq_false_iff.mpr hx
  have hd:(x == ("__debug__" : Str))=false:=(Bool.or_eq_false_iff.mp hx).1
  have hc:(x == ("__classdict__" : Str))=false:=(Bool.or_eq_false_iff.mp hx).2
  cases hk:sc.kind x with
  | none=>exact zt (cf:=cf)
  | some k =>
   cases k with
   | globalImplicit=>exact z1b g hk hd
   | globalExplicit=>exact zt (cf:=cf)
   | «local» => exact JK (.inl hk) hd hc
   | cell=>exact QX (.inl hk) hd hc
   | free=>exact QX (.inr hk) hd hc
theorem z0q {f:Expr} {t:Expr×Str×Pos} (e:QE f=some t):f=.Attribute t.1 t.2.1 t.2.2:=Y7 (o:=zGi f) e
theorem Zd {f:Expr} (e:QE f=none):∀ o name p,f≠.Attribute o name p:=fun o name p h=>by rw [h] at e;exact nos e.symm
theorem WW {f:Expr} {t:Option Expr×Option Expr×Pos} (e:qc f=some (some t)):f=.Slice t.1 t.2.1 none t.2.2:=by
 obtain ⟨⟨⟨l,u,st,p⟩,q⟩,_,e⟩:=yC e
 cases st with
 | none=>cases e;exact q
 | some _=>exact nos e
theorem Xg {f:Expr} (e:qc f=none):JP f=true:=by
 cases f <;> first | rfl | exact nos e.symm
theorem Ju {c:Const} {kk:Nat} {pos:Pos}:zw prog w X n cf sc env (eval (.Constant c kk pos) env) (z3d c):=by
 cases c with
 | none=>exact Xd (cf:=cf)
 | bool b=>exact Xe (cf:=cf)
 | int i=>exact QW (cf:=cf)
 | str x=>exact qF fun h=>QV (cf:=cf) h
 | _=>exact zt (cf:=cf)
theorem z1d (g:Gd X G) {pos:Pos}:zw prog w X n cf sc env (eval (.Dict [] [] pos) env) wZ:=by
 intro fr hp A l μ s Q E R I V k
 refine wpAny_Dict_empty ?_
 have hm:(s.heap.objs.size == sysModules)=false:=by
  obtain ⟨mg,mb,⟨o,es,ep,ho,_⟩,_⟩:=g.top
  have:=Heap.lt_size (I.keep _ _ ho)
  exact beq_eq_false_iff_ne.mpr (Nat.ne_of_gt (Nat.lt_of_le_of_lt (by decide) this))
 obtain ⟨I',a⟩:=I.new (h':=s.heap.push { cls:=.type "dict",data:=.dict #[] }) (t:=s.toks) (p:=(s.heap.objs.size,none)) (o:=.dict []) (fun b o e=>Heap.get?_push_of_some _ e) (fun b hb=>by rw [jL hb];exact xm _) (List.nodup_cons.mpr ⟨List.not_mem_nil,List.nodup_nil⟩)
  (.dict (prog:=prog) (w:=w) (Heap.DictOf.new _) .nil hm (Nat.zero_le _))
 exact k.pe _ _ _ a I' (.ref (jt μ _ I.len))
theorem Q7 (g:Gd X G) (hlo:G.lo=true→n≠0) (hcf:SndCF prog w X n cf) (f:Nat):(∀ sc env e,zw prog w X n cf sc env (eval e env) (dE G f sc e))∧(∀ sc env e,wf prog w X n cf sc env (isTrue e env (eval e env)) (dT G f sc e)) ∧
  (∀ sc env o,zw prog w X n cf sc env (valueOrNone (evalOpt o env)) (z3b G f sc o)):=by
 induction f with
 | zero=>exact ⟨fun _ _ _=>zt (cf:=cf),fun _ _ _=>wE (cf:=cf),fun _ _ _=>zt (cf:=cf)⟩
 | succ f ih =>
  obtain ⟨hE,hT,hO⟩:=ih
  have tv:∀ sc env e,(∀ whole,isTrue e env whole=(do let v ← whole;standAt e.pos;holding [v] (truthy v)))→wf prog w X n cf sc env (isTrue e env (eval e env)) (yT (dE G f sc e)):=fun sc env e h=>z1h h (hE _ _ _)
  refine ⟨fun sc env e=>?_,fun sc env e=>?_,fun sc env o=>?_⟩
  ·cases e with
   | Constant c kk pos=>exact Ju
   | Name x pos=>exact z18 g
   | BoolOp op es pos=>exact WV (xW (hE _ _) es)
   | BinOp l op r pos=>exact z4k (hE _ _ _) (hE _ _ _)
   | UnaryOp op x pos =>
    cases op with
    | Not=>exact z4c (hE _ _ _)
    | USub=>exact z4d (hE _ _ _)
    | _=>exact zt (cf:=cf)
   | IfExp t a b pos=>exact zGs (hT _ _ _) (hE _ _ _) (hE _ _ _)
   | Lambda ar body sp pos =>
    show zw prog w X n cf sc env _ (match sc.law with
     | some q=>(match G.tix q.1 with
      | some ix=>(match yd sc.slot (zv sp) with
       | some is=>if W3 sc sp=true∧jD ar=true∧G.code q.1=some q.2∧G.lo=true then zy ⟨ar,body,sp,q.1⟩ is ix else zk
       | none=>zk)
      | none=>zk)
     | none=>zk)
    cases hlw:sc.law with
    | none=>exact zt (cf:=cf)
    | some q =>
    dsimp only
    cases G.tix q.1 with
    | none=>exact zt (cf:=cf)
    | some ix =>
    dsimp only
    cases his:yd sc.slot (zv sp) with
    | none=>exact zt (cf:=cf)
    | some is=>exact qF fun h=>z4e (cf:=cf) g h.1 h.2.1 hlw h.2.2.1 his
   | List es pos=>exact qF fun h=>z1a h.1 (by rw [List.length_map];exact h.2) (xW (hE _ _) es)
   | Tuple es kk pos=>exact qF fun h=>z4a h.1 (by rw [List.length_map];exact h.2) (xW (hE _ _) es)
   | Compare l ops rs pos=>exact qF fun h=>z4j h (hE _ _ _) (xW (hE _ _) rs)
   | Call fn args kws pos =>
    cases kws with
    | cons _ _=>exact zt (cf:=cf)
    | nil =>
     refine qF fun h=>?_
     cases q:QE fn with
     | none =>
      show zw prog w X n cf sc env _ (match G.lo with
       | true=>zK (dE G f sc fn) (args.map (dE G f sc))
       | false=>xc G.isx (dE G f sc fn) (args.map (dE G f sc)))
      cases hL:G.lo with
      | true=>exact z1f g (hlo hL) hcf (Zd q) h.1 (hE _ _ _) (xW (hE _ _) args)
      | false=>exact Jv g (Zd q) h.1 (hE _ _ _) (xW (hE _ _) args)
     | some t =>
      rw [z0q q]
      exact qF fun h2=>z19 g hcf h2.1 h2.2 h.1 h.2 (hE _ _ _) (xW (hE _ _) args)
   | Dict ks vs pos =>
    cases ks with
    | cons _ _=>exact zt (cf:=cf)
    | nil=>cases vs with
     | cons _ _=>exact zt (cf:=cf)
     | nil=>exact z1d (cf:=cf) g
   | Attribute o name pos=>exact qF fun h=>z1g g h (hE _ _ _)
   | Subscript o i pos =>
    show zw prog w X n cf sc env _ (match qc i with
     | some q=>(match q with
      | some t=>Ym (dE G f sc o) (z3b G f sc t.1) (z3b G f sc t.2.1)
      | none=>zk)
     | none=>zn (dE G f sc o) (dE G f sc i))
    cases q:qc i with
    | none=>exact z4g (Xg q) (hE _ _ _) (hE _ _ _)
    | some r =>
     cases r with
     | none=>exact zt (cf:=cf)
     | some t=>rw [WW q];exact z4i (hE _ _ _) (hO _ _ _) (hO _ _ _)
   | ListComp elt gs sp pos =>
    cases gs with
    | nil=>exact zt (cf:=cf)
    | cons gg gs =>
     cases gs with
     | cons _ _=>exact zt (cf:=cf)
     | nil =>
      obtain ⟨target,iter,ifs,as⟩:=gg
      refine qF fun h=>?_
      have h2:as=0:=h.2.1
      subst h2
      show zw prog w X n cf sc env _ (match xZ (sc.inner sp) target with
       | some t=>xB (dE G f sc iter) (y6 sp).length t (y8 .And (ifs.map (dT G f (sc.inner sp)))) (dE G f (sc.inner sp) elt)
       | none=>zk)
      cases ht:xZ (sc.inner sp) target with
      | none=>exact zt (cf:=cf)
      | some t=>exact z1e (hlo h.2.2.2.2) h.1 ht h.2.2.2.1 h.2.2.1 (fun env'=>wh (j6 (hT _ _) _)) (fun env'=>hE _ _ _) (hE _ _ _)
   | _=>exact zt (cf:=cf)
  ·cases e with
   | UnaryOp op x pos =>
    cases op with
    | Not=>exact z1i (hT _ _ _)
    | _=>exact wE (cf:=cf)
   | BoolOp op es pos=>exact z1l (j6 (hT _ _) es)
   | IfExp t a b pos=>exact wE (cf:=cf)
   | Compare l ops rs pos=>exact z1j fun h=>z1k h (hE _ _ _) (xW (hE _ _) rs)
   | _=>exact tv _ _ _ (fun _=>rfl)
  ·cases o with
   | some e'=>exact JL (fun e' h=>by cases h;exact hE _ _ _) (fun h=>by cases h)
   | none=>exact JL (cf:=cf) (fun e' h=>by cases h) (fun _=>rfl)
end
section
variable {prog:Program} {w:World} {X:Cx} {G:GTab} {n:Nat} {cf:CF} {sc:Sc} {env:Env}
theorem FlR.next_ {μ:Mu} {h:Heap} {fl:Flow} (r:FlR X μ h .next fl):fl=.next:=by cases r;rfl
theorem FlR.ret_ {μ:Mu} {h:Heap} {v:AV} {fl:Flow} (r:FlR X μ h (.ret v) fl):∃ v',fl=.ret v'∧VR X μ h v v':=by cases r with | ret q=>exact ⟨_,rfl,q⟩
theorem y9 {t:Sem Flow}:ym prog w X n cf sc env t yB:=fun _ _ _ _ k=>k.elim
theorem z4b {e₀:Expr} {pos:Pos} {x:XE} (h:zw prog w X n cf sc env (eval e₀ env) x):ym prog w X n cf sc env (exec (.Return (some e₀) pos) env) (zi x):=fun _ R I V k =>
 wpAny_Return_some (h R I V (k.bindS I V fun v v' _ μ1 s1 L1 I1 r k=>k _ μ1 s1 .refl I1 (V.le I L1) (.ret r)))
theorem z17 {pos:Pos}:ym prog w X n cf sc env (exec (.Return none pos) env) (zi (z8 .none)):=fun _ _ I V k =>
 wpAny_Return_none (k _ _ _ .refl I V (.ret .none))
theorem z1c {e₀:Expr} {pos:Pos} {x:XE} (hc:swapsWith e₀ none pos.line env=pure false) (h:zw prog w X n cf sc env (eval e₀ env) x):ym prog w X n cf sc env (exec (.Expr e₀ pos) env) (zM x):=fun _ R I V k =>
 wpAny_Expr_any (h R I V (k.bindS I V fun v v' _ μ1 s1 L1 I1 r k=>k _ μ1 s1 .refl I1 (V.le I L1) .next)) (by unfold interactive;rw [V.fn];rfl) hc
theorem z4f {t:Expr} {a b:List Stmt} {pos:Pos} {x:XT} {y z:XS} (ht:wf prog w X n cf sc env (isTrue t env (eval t env)) x) (ha:ym prog w X n cf sc env (execs a env) y) (hb:ym prog w X n cf sc env (execs b env) z) :
  ym prog w X n cf sc env (exec (.If t a b pos) env) (sIf x y z):=fun T R I V k =>
 wpAny_If (ht R I V (k.bindS I V fun c c' _ μ1 s1 L1 I1 e k=>by
  cases e
  cases c with
  | true=>exact ha T R I1 (V.le I L1) k
  | false=>exact hb T R I1 (V.le I L1) k))
theorem Jt {f:Nat} (h:∀ st,ym prog w X n cf sc env (exec st env) (dS G f sc st)) (sts:List Stmt):ym prog w X n cf sc env (execs sts env) (zJ (sts.map (dS G f sc))):=by
 induction sts with
 | nil=>exact fun _ _ I V k=>wpAny_execs_nil (k _ _ _ .refl I V .next)
 | cons st sts ih =>
  intro fr hp A l μ s Q E T R I V k
  have k:PS X l sc env μ s (match dS G f sc st cf fr hp with
   | .ok .next fr₁ h₁=>zJ (sts.map (dS G f sc)) cf fr₁ h₁
   | o=>o) Q E:=k
  refine wpAny_execs_cons (h st T R I V ?_)
  cases q:dS G f sc st cf fr hp with
  | stuck=>rw [q] at k;exact k.elim
  | exc nw c fr1 hp1=>rw [q] at k;exact k
  | ok fl1 fr1 hp1 =>
   rw [q] at k
   cases fl1 with
   | next=>exact fun fl' μ1 s1 L1 I1 V1 r=>by rw [r.next_];exact ih T R I1 V1 (PS.le k L1)
   | ret v =>
    intro fl' μ1 s1 L1 I1 V1 r
    obtain ⟨v',rfl,rv⟩:=r.ret_
    exact k _ μ1 s1 L1 I1 V1 (.ret rv)
theorem wX {t value:Expr} {pos:Pos} {A:Around} {E:Value→Shared→Prop} {s:Shared} {M:Model} {Q:Flow→Shared→Prop} (ht:q9 t=true)
  (hs:swapsWith value (some t) pos.line env=pure false) (hw:swappedStores [t] value env=pure none) (h:wpAny M A (eval value env) (fun v s₁=>wpAny M A (assign t env v) (fun _=>Q .next) E s₁) E s) :
  wpAny M A (exec (.Assign [t] value pos) env) Q E s:=by
 have ea:(assignEach [t] env).map (·.2)=[assign t env]:=by cases t <;> first | rfl | cases ht
 refine wpAny_Assign_stores (wpAny_mono h (fun v s₁ h₁=>?_) fun _ _ x=>x) hs hw
 rw [ea]
 exact h₁
theorem X3 {t:Expr} {is:List Nat} (h:xZ sc t=some (.many is)):∃ es k p,t=.Tuple es k p:=by
 cases t with
 | Tuple es k p=>exact ⟨es,k,p,rfl⟩
 | Name x p =>
  have h:(match sc.isFlag x with | some i=>some (NTgt.cell i) | none=>(sc.isOwn x).map NTgt.one)=some (.many is):=h
  cases q:sc.isFlag x with
  | some i=>rw [q] at h;cases h
  | none=>rw [q] at h;obtain ⟨i,_,e⟩:=yC h;cases e
 | _=>exact nos h
theorem Zc {target:Expr} {t:NTgt} {v:AV} {v':Value} {A:Around} {E:Value→Shared→Prop} {s:Shared} {l:List Env} {μ:Mu} {hp:Hp} {fr fr':AFr} {Q:Unit→Shared→Prop} (ht:xZ sc target=some t) (hb:XN hp t v fr=some fr') (hh:A.handled=none) (I:Inv X μ hp s) (V:EnvR X l sc env fr μ s.heap) (r:VR X μ s.heap v v')
  (k:∀ s',Le (Zk true sc env) μ s μ s'→Inv X μ hp s'→EnvR X l sc env fr' μ s'.heap→Q () s'):wpAny (model prog w) A (assign target env v') Q E s:=by
 cases t with
 | cell i=>exact nos hb
 | one i=>exact xd (cb:=true) ht hb (fun _=>hh) (fun h=>by cases h) I V r k
 | many is=>exact xd (cb:=true) ht hb (fun _=>hh) (fun h=>by cases h) I V r k
theorem Z7 {t:Expr} {i:Nat} (h:xZ sc t=some (.cell i)):∃ x p,t=.Name x p∧sc.fl=true∧sc.kind x=some .cell∧sc.slot x=some i:=by
 cases t with
 | Name x p =>
  have h:(match sc.isFlag x with | some i=>some (NTgt.cell i) | none=>(sc.isOwn x).map NTgt.one)=some (.cell i):=h
  cases q:sc.isFlag x with
  | some j =>
   rw [q] at h;cases h
   obtain ⟨⟨h1,h2⟩,h3⟩:=wM q
   exact ⟨x,p,rfl,h1,h2,h3⟩
  | none=>rw [q] at h;obtain ⟨i,_,e⟩:=yC h;cases e
 | Tuple es k p =>
  have h:(match yd (qh sc) es with
   | some is=>if is.length≤10∧is.Nodup then some (NTgt.many is) else none
   | none=>none)=some (.cell i):=h
  cases q:yd (qh sc) es with
  | none=>rw [q] at h;exact nos h
  | some is=>rw [q] at h;obtain ⟨_,e⟩:=zr h;cases e
 | _=>exact nos h
theorem WM {target:Expr} {t:NTgt} {v:AV} {v':Value} {A:Around} {E:Value→Shared→Prop} {s:Shared} {l:List Env} {μ:Mu} {hp:Hp} {fr:AFr} {p:AFr×Hp} {Q:Unit→Shared→Prop} (ht:xZ sc target=some t) (hb:jQ hp t v fr=some p) (hh:A.handled=none) (I:Inv X μ hp s) (V:EnvR X l sc env fr μ s.heap) (r:VR X μ s.heap v v')
  (k:∀ s',Le (Zk true sc env) μ s μ s'→Inv X μ p.2 s'→EnvR X l sc env p.1 μ s'.heap→Q () s'):wpAny (model prog w) A (assign target env v') Q E s:=by
 cases t with
 | cell i =>
  obtain ⟨h2,hb',rfl⟩:=yC hb
  obtain ⟨x,px,rfl,hf,hk,hs⟩:=Z7 ht
  rw [PySem.assign_Name]
  exact wpAny_bind (wpAny_standAt (j2 hf I V hk hs hb' r fun s2 L2 I2=>k s2 (L2.weak fun _ h=>h.elim) I2 (V.le I L2)))
 | one i =>
  obtain ⟨fr',hb',rfl⟩:=yC hb
  exact Zc ht hb' hh I V r k
 | many is =>
  obtain ⟨fr',hb',rfl⟩:=yC hb
  exact Zc ht hb' hh I V r k
theorem Zi {x:Str} {px pos:Pos} {i:Nat} {value:Expr} {y:XE} {okf:Str→Str→Bool} (hi:xZ sc (.Name x px)=some (.cell i)) (hs:swapsWith value (some (.Name x px)) pos.line env=pure false) (hw:swappedStores [.Name x px] value env=pure none)
  (h:zw prog w X n cf sc env (eval value env) y):ym prog w X n cf sc env (exec (.Assign [.Name x px] value pos) env) (zA okf (.cell i) y):=by
 intro fr hp A l μ s Q E T R I V k
 refine wX rfl hs hw (h R I V (PS.bindS k I V fun a v' h1 μ1 s1 L1 I1 r k=>?_))
 have k:PS X l sc env μ1 s1 (match qG fr h1 i a with
  | some h₂=>OS.ok .next fr h₂
  | none=>.stuck) Q E:=k
 cases hb:qG fr h1 i a with
 | none=>rw [hb] at k;exact k.elim
 | some h2 =>
  rw [hb] at k
  rw [PySem.assign_Name]
  obtain ⟨x',px',e,hf,hk,hs⟩:=Z7 hi
  cases e
  exact wpAny_bind (wpAny_standAt (j2 hf I1 (V.le I L1) hk hs hb r fun s2 L2 I2=>k _ μ1 s2 L2.own I2 ((V.le I L1).le I1 L2) .next))
theorem xC {target value:Expr} {pos:Pos} {t:NTgt} {x:XE} {okf:Str→Str→Bool} (hn:(∀ x p,target≠.Name x p)→n≠0) (ht:xZ sc target=some t) (hs:swapsWith value (some target) pos.line env=pure false) (hw:swappedStores [target] value env=pure none)
  (h:zw prog w X n cf sc env (eval value env) x):ym prog w X n cf sc env (exec (.Assign [target] value pos) env) (zA okf (.names t) x):=by
 intro fr hp A l μ s Q E T R I V k
 refine wX (by cases target <;> first | rfl | cases ht) hs hw (h R I V (PS.bindS k I V fun a v' h1 μ1 s1 L1 I1 r k=>?_))
 have k:PS X l sc env μ1 s1 (match t.bind a fr with
  | some fr₁=>OS.ok .next fr₁ h1
  | none=>.stuck) Q E:=k
 cases hb:t.bind a fr with
 | none=>rw [hb] at k;exact k.elim
 | some fr₁ =>
  rw [hb] at k
  exact xd (cb:=true) ht hb (fun h=>R.handled (hn h)) (fun h=>by cases h) I1 (V.le I L1) r fun s2 L2 I2 V2=>k _ μ1 s2 (L2.weak fun _ h=>xr h) I2 V2 .next
theorem Zj {o value:Expr} {name:Str} {p pos:Pos} {x y:XE} (g:Gd X G) (hs:swapsWith value (some (.Attribute o name p)) pos.line env=pure false)
  (h:zw prog w X n cf sc env (eval value env) x) (ho:zw prog w X n cf sc env (eval o env) y):ym prog w X n cf sc env (exec (.Assign [.Attribute o name p] value pos) env) (zA G.okf (.attr y name) x):=by
 intro fr hp A l μ s Q E T R I V k
 refine wX rfl hs rfl (h R I V (PS.bindS k I V fun a v' h1 μ1 s1 L1 I1 r k=>?_))
 rw [assign_Attribute]
 have V1:=V.le I L1
 refine wpAny_bind (wpAny_holding (ho R I1 V1 (PS.bindS (o:=y cf fr h1) k I1 V1 fun ov ov' h2 μ2 s2 L2 I2 ro k=>wpAny_bind (wpAny_standAt (wpAny_bind (wpAny_holding ?_))))))
 cases ov with
 | ref a₀ =>
  have k:PS X l sc env μ2 s2 (match h2[a₀]? with
   | some (.inst c fs)=>if G.okf c name && decide (fs.length<100) then OS.ok .next fr (h2.set a₀ (.inst c (qY name a fs))) else .stuck
   | _=>.stuck) Q E:=k
  cases ha:h2[a₀]? with
  | none=>rw [ha] at k;exact k.elim
  | some o' =>
   rw [ha] at k
   cases o' with
   | inst c fs =>
    have k:PS X l sc env μ2 s2 (if (G.okf c name && decide (fs.length<100))=true then OS.ok .next fr (h2.set a₀ (.inst c (qY name a fs))) else .stuck) Q E:=k
    by_cases hok:(G.okf c name && decide (fs.length<100))=true
    ·rw [if_pos hok] at k
     obtain ⟨ok1,ok2⟩:=Bool.and_eq_true_iff.mp hok
     exact Ys g I2 (V1.le I1 L2) ro ha (r.le I1 L2) ok1 (of_decide_eq_true ok2) fun s3 L3 I3 V3=>jj (k _ μ2 s3 L3 I3 V3 .next)
    ·rw [if_neg hok] at k;exact k.elim
   | _=>exact k.elim
 | _=>exact k.elim
theorem Zg {o i value:Expr} {p pos:Pos} {x y z:XE} {okf:Str→Str→Bool} (hs:swapsWith value (some (.Subscript o i p)) pos.line env=pure false)
  (h:zw prog w X n cf sc env (eval value env) x) (ho:zw prog w X n cf sc env (eval o env) y) (hi:zw prog w X n cf sc env (eval i env) z):ym prog w X n cf sc env (exec (.Assign [.Subscript o i p] value pos) env) (zA okf (.item y z) x):=by
 intro fr hp A l μ s Q E T R I V k
 refine wX rfl hs rfl (h R I V (PS.bindS k I V fun a v' h1 μ1 s1 L1 I1 r k=>?_))
 rw [assign_Subscript]
 have V1:=V.le I L1
 refine wpAny_bind (wpAny_holding (ho R I1 V1 (PS.bindS (o:=y cf fr h1) k I1 V1 fun ov ov' h2 μ2 s2 L2 I2 ro k=>wpAny_bind (wpAny_holding (hi R I2 (V1.le I1 L2) (k.bindS I2 (V1.le I1 L2) fun iv iv' h3 μ3 s3 L3 I3 ri k=>wpAny_bind (wpAny_standAt (wpAny_bind (wpAny_holding ?_)))))))))
 have k:PS X l sc env μ3 s3 (match wF h3 ov iv a with
  | some h₄=>.ok .next fr h₄
  | none=>.stuck) Q E:=k
 cases hst:wF h3 ov iv a with
 | none=>rw [hst] at k;exact k.elim
 | some h4 =>
  rw [hst] at k
  exact Xh hst I3 (ro.le I2 L3) ri ((r.le I1 L2).le I2 L3) fun s4 L4 I4=>jj (k _ μ3 s4 L4.own I4 (((V1.le I1 L2).le I2 L3).le I3 L4) .next)
end
end Mine
end
end
section
noncomputable section
namespace Mine
open PySem PySem.W PySem.Calls PyProof.Rows
section
variable {X:Cx} {μ:Mu} {hp:Hp} {s:Shared} {l:List Env}
noncomputable abbrev frA (l:List Env):List Addr:=l.filterMap (·.frame)
theorem Frs.at {h:Heap} (F:Frs X l μ h) {b:Addr} (m:b∈frA l):X.base.get? b=none∧b∉zh μ∧∃ o,h.get? b=some o∧isD o=true:=by
 obtain ⟨v,hv,e⟩:=List.mem_filterMap.mp m
 obtain ⟨_,L,o,f1,f2,f3,f4,f5⟩:=F v hv
 rw [e] at f1;cases f1
 exact ⟨f2,f3,o,f4,f5⟩
theorem Frs.funs {h:Heap}:∀ {l:List Env},Frs X l μ h→∀ as,(∀ b∈frA l,b∈as)→h.FunFrames (hideAll h as) l
 | [],_,_,_=>trivial
 | v::r,F,as,hin=>by
  obtain ⟨k,L,o,f1,f2,f3,f4,f5⟩:=F v (.head _)
  refine ⟨k,⟨L,o,f1,hideAll_none _ (hin L (List.mem_filterMap.mpr ⟨v,.head _,f1⟩)),f4,fun vs q=>?_⟩,Frs.funs (fun v' hv=>F v' (.tail _ hv)) as fun b hb=>hin b ?_⟩
  ·unfold isD at f5;rw [q] at f5;exact nob f5
  ·obtain ⟨v',hv,e⟩:=List.mem_filterMap.mp hb
   exact List.mem_filterMap.mpr ⟨v',.tail _ hv,e⟩
theorem zGu (F:Frs X l μ s.heap) (I:Inv X μ hp s) {h6:Heap} {t:Nat} (hB:(hideAll s.heap (frA l)).StaysIn h6) (hU:s.heap.UpToSlots h6) :
  Le noS μ s μ { s with heap:=h6,toks:=t }∧Inv X μ hp { s with heap:=h6,toks:=t }:=by
 have kp:∀ b o,s.heap.get? b=some o→b∉frA l→h6.get? b=some o:=fun b o e n=>hB b o (hideAll_get _ e n)
 have near:∀ b o,s.heap.get? b=some o→Yp o (h6.get? b):=fun b o e=>by
  by_cases m:b∈frA l
  ·obtain ⟨_,_,o',e',d⟩:=F.at m
   rw [e] at e';cases e'
   exact .inr ⟨d,hU b o e fun vs q=>by unfold isD at d;rw [q] at d;cases d⟩
  ·exact .inl (kp b o e m)
 refine ⟨⟨List.prefix_refl _,fun _ h=>.inl h,fun b o e=>(near b o e).get.imp fun _ h=>h.1,fun b o _ _ e=>near b o e⟩,⟨I.len,I.nodup,I.above,fun i p o a b =>
  (I.rep i p o a b).mono (List.prefix_refl _) (fun b o e f=>(near b o e).exact f.notD) fun b hb o e=>kp b o e fun m=>(F.at m).2.1 (yX.mpr ⟨i,p,a,hb⟩),fun b o e=>kp b o (I.keep b o e) fun m=>?_,I.gens,I.os⟩⟩
 have:=(F.at m).1
 rw [e] at this;cases this
end
section
variable {prog:Program} {w:World} {X:Cx} {G:GTab} {n:Nat} {cf:CF} {sc:Sc} {env:Env}
theorem wo {x:Str} {pos:Pos} {A:Around} {l:List Env} {μ:Mu} {hp:Hp} {s:Shared} {fr:AFr} {c:Value} {Q:Value→Shared→Prop} {E:Value→Shared→Prop} (g:Gd X G) (hk:sc.kind x=some .globalImplicit) (e:nsIn X.K mainGlobals x=some (some c)) (I:Inv X μ hp s) (V:EnvR X l sc env fr μ s.heap)
  (hd:(x == ("__debug__" : Str))=false) (h:Q c s):wpAny (model prog w) A (eval (.Name x pos) env) Q E s:=by
 obtain ⟨mg,mb,ng,nb,hb⟩:=g.top
 exact Name_function_global V.fn ((V.kind x)▸hk) (loadGlobal_global (by rw [V.glob];exact ng.keeps I.keep) (mg_of g.K ng e) h) hd
theorem Js {x m:Str} {np ap cpos pos:Pos} {cn:Nat} (hn:n≠0) (g:Gd X G) (hx:G.exc x=true) (hk:sc.kind x=some .globalImplicit) (hd:(x == ("__debug__" : Str))=false) (z:m.length≤small) :
  ym prog w X n cf sc env (exec (.Raise (some (.Call (.Name x np) [.Constant (.str m) cn ap] [] cpos)) none pos) env) (yh x):=by
 intro fr hp A l μ s Q E T R I V k
 obtain ⟨C,mg,hC,O⟩:=g.exc x hx
 obtain ⟨tl,N,nm,q,bs,hdct,sn,sub,ab,col,dd,k0,k1,k2,k3,k5,mN,hCo,hN,hni,TL⟩:=(O.keeps I.keep).obj
 refine wpAny_Raise_call_subT (C:=C) (nm:=nm) (q:=q) (N:=N) (bs:=bs) (bm:=tl) (hdct:=hdct) (sn:=sn) (sub:=sub) (ab:=ab) (col:=col) (dd:=dd) (k0:=k0) (k1:=k1) (k2:=k2) (k3:=k3) (k5:=k5)
  PySem.F.excBase_ValueError (mN:=mN) (TL.hasType PySem.F.excBase_ValueError.hasBase) (R.handled hn) rfl hni (wo g hk hC I V hd ⟨rfl,?_⟩)
 refine yk (ts:=[eval (.Constant (.str m) cn ap) env]) (spliced_cons (wpAny_mkText (spliced_nil ⟨rfl,(show 1≤sizeLine by decide),hCo,hN,TL,fun h' e hx=>?_⟩)))
 have st:(hideAll s.heap (frA l)).StaysIn s.heap:=fun b o q=>of_hideAll _ q
 refine k e μ _ (hideAll s.heap (frA l)) C hC ⟨s.heap,_,hx,st,V.frs.funs _ fun _ h=>h⟩ fun h6 t g1 g2=>?_
 obtain ⟨L6,I6⟩:=zGu (t:=t) V.frs I g1 ((Heap.UpToSlots.of_keeps hx.keeps).trans g2)
 exact ⟨L6.own,I6,V.le I L6⟩
end
end Mine
end
end
section
noncomputable section
namespace Mine
open PySem PySem.W PySem.Calls
section
variable {prog:Program} {w:World} {X:Cx} {G:GTab} {n:Nat} {cf:CF} {sc:Sc} {env:Env}
theorem WF {target:Expr} {body:List Stmt} {t:NTgt} {bx:XS} {A:Around} {l:List Env} {s₁ s₂:Shared} {μ₁:Mu} {hp₁:Hp} {fr₁:AFr} {src:Src} {f:Nat} {it:Value} {its:List Addr} {St:Nat→Mu→Heap→Prop}
  {R':Result→Shared→Prop} {E:Value→Shared→Prop} (hn:n≠0) (ht:xZ sc target=some t) (hb:ym prog w X n cf sc env (execs body env) bx) (H:Hd1 env l) (R:Room n A l) (I:Inv X μ₁ hp₁ s₁) (V:EnvR X l sc env fr₁ μ₁ s₁.heap)
  (D:Drives prog w X target src it its St) (T:Its X s₁.heap μ₁ s₂.heap its) (st:St 0 μ₁ s₂.heap) (B:But [] s₁ s₂)
  (k:PS X l sc env μ₁ s₁ (yz t bx src f 0 cf fr₁ hp₁) (fun f s'=>R' (.ok f) s') E):codeAny (model prog w) A (.forLoop target it body [] env) R' s₂:=by
 have K:∀ b o,s₁.heap.get? b=some o→s₂.heap.get? b=some o:=fun b o q=>B.1 b o (by simp) q
 have I2:Inv X μ₁ hp₁ s₂:=⟨I.len,I.nodup,I.above,fun i p o a b=>(I.rep i p o a b).mono (List.prefix_refl _) (fun b o e _=>K b o e) fun b _ o e=>K b o e,fun b o q=>K b o (I.keep b o q),B.2.1.trans I.gens,B.2.2.trans I.os⟩
 have L2:Le noS μ₁ s₁ μ₁ s₂:=.ofKeep K
 refine codeAny_forLoop_any (fun m s=>∃ k fr hp μ,PS X l sc env μ₁ s₁ (yz t bx src m k cf fr hp) (fun f s'=>R' (.ok f) s') E∧Inv X μ hp s∧EnvR X l sc env fr μ s.heap∧Le (own sc env) μ₁ s₁ μ s∧Its X s₁.heap μ s.heap its∧St k μ s.heap) ?_ f ⟨0,fr₁,hp₁,μ₁,k,I2,V.le I L2,L2.own,T,st⟩
 rintro m s ⟨kk,fr,hp,μ,k,I,V,L,T,st⟩
 cases m with
 | zero=>exact k.elim
 | succ m =>
 have k:PS X l sc env μ₁ s₁ (match src.next? hp kk with
  | none=>OS.stuck
  | some none=>.ok .next fr hp
  | some (some x)=>(match jQ hp t x fr with
   | none=>.stuck
   | some p=>(match bx cf p.1 p.2 with
    | .ok .next fr₂ h₂=>yz t bx src m (kk+1) cf fr₂ h₂
    | .ok (.ret v) fr₂ h₂=>.ok (.ret v) fr₂ h₂
    | _=>.stuck))) (fun f s'=>R' (.ok f) s') E:=k
 cases hx:src.next? hp kk with
 | none=>rw [hx] at k;exact k.elim
 | some ox =>
 rw [hx] at k
 cases ox with
 | none =>
  refine D.done (R.handled hn) I st hx fun s' B'=>wpAny_execs_nil ?_
  exact k .next μ s' (T.leR B' L) (T.invR B' I) (T.envR B' V) .next
 | some x =>
  dsimp only at k
  cases hbd:jQ hp t x fr with
  | none=>rw [hbd] at k;exact k.elim
  | some pa =>
   rw [hbd] at k
   dsimp only at k
   refine D.item (R.handled hn) I T.out st hx (fun v s₁ h=>h) fun v s1 rv B1 st1=>?_
   have I1:=T.invR B1 I
   have V1:=T.envR B1 V
   have L1:=T.leR B1 L
   have T1:Its X s₁.heap μ s1.heap its:=⟨T.new,T.out,T.base,D.obj _ μ _ st1⟩
   refine WM ht hbd (R.handled hn) I1 V1 rv fun s2 L2 I2 V2=>?_
   have L2o:Le (own sc env) μ s1 μ s2:=L2.weak fun _ h=>xr h
   obtain ⟨T2,k2⟩:=T1.later (fun b o h q=>wk V1 h q) L2o
   have st2:St (kk+1) μ s2.heap:=D.frame _ μ μ s1.heap s2.heap st1 (List.prefix_refl _) (fun b hb o q=>(k2 b hb).trans q) (L2o.fixed I1 (yJ V1)) fun b o q=>⟨I1.keep b o q,I2.keep b o q⟩
   refine hb H R I2 V2 ?_
   cases eb:bx cf pa.1 pa.2 with
   | stuck=>rw [eb] at k;exact k.elim
   | exc nw c fr3 hp3=>rw [eb] at k;exact k.elim
   | ok fl3 fr3 hp3 =>
    rw [eb] at k
    intro fl4 μ3 s3 L3 I3 V3 r3
    have LL:=(L1.trans L2o).trans L3
    cases fl3 with
    | next =>
     rw [r3.next_]
     obtain ⟨T3,k3⟩:=T2.later (fun b o h q=>wk V2 h q) L3
     exact ⟨m,Nat.lt_succ_self _,kk+1,fr3,hp3,μ3,k,I3,V3,LL,T3,D.frame _ μ μ3 s2.heap s3.heap st2 L3.pre (fun b hb o q=>(k3 b hb).trans q) (L3.fixed I2 (yJ V2)) fun b o q=>⟨I2.keep b o q,I3.keep b o q⟩⟩
    | ret u =>
     obtain ⟨u',rfl,ru⟩:=r3.ret_
     exact k _ μ3 s3 LL I3 V3 (.ret ru)
theorem z4h {target iter:Expr} {body:List Stmt} {pos:Pos} {t:NTgt} {bx:XS} {itx:XE} (hn:n≠0) (ht:xZ sc target=some t) (hset:jq iter=true) (hit:zw prog w X n cf sc env (eval iter env) itx) (hb:ym prog w X n cf sc env (execs body env) bx) :
  ym prog w X n cf sc env (exec (.For target iter body [] pos) env) (xz t itx false bx):=by
 intro fr hp A l μ s Q E H R I V k
 refine wpAny_For (hit R I V (PS.bindS k I V fun iv iv' h1 μ1 s1 L1 I1 ri k=>?_)) (fun x=>qJ hset x)
 cases hsrc:yw h1 iv with
 | none=>rw [hsrc] at k;exact k.elim
 | some sn =>
  obtain ⟨src,nn⟩:=sn
  rw [hsrc] at k
  exact jZ (target:=target) hsrc I1 ri fun it its St s2 D T st B=>WF hn ht hb H R I1 (V.le I L1) D T st B k
theorem jg {t:Sem Flow} {c:Prop} [Decidable c] {x:XS} (h:c→ym prog w X n cf sc env t x):ym prog w X n cf sc env t (if c then x else yB):=by
 by_cases q:c
 ·rw [if_pos q];exact h q
 ·rw [if_neg q];exact y9 (cf:=cf)
theorem xk {t:Sem Flow} {okf:Str→Str→Bool} {x:XE}:ym prog w X n cf sc env t (zA okf .none x):=by
 exact fun _ _ _ _ k=>k.elim
theorem yx {t:Sem Flow} {okf:Str→Str→Bool} {tg:Tgt}:ym prog w X n cf sc env t (zA okf tg zk):=by
 cases tg <;> exact fun _ _ _ _ k=>k.elim
theorem Y5 {value:Expr} (h:ZD value=false) (t:Option Expr) (line:Nat):swapsWith value t line env=pure false:=by
 cases value <;> first | rfl | exact nob h.symm
theorem z46 (value:Expr) {o:Expr} {x:Str} {p:Pos} (line:Nat):swapsWith value (some (.Attribute o x p)) line env=pure false:=by cases value <;> rfl
theorem z45 (value:Expr) {o i:Expr} {p:Pos} (line:Nat):swapsWith value (some (.Subscript o i p)) line env=pure false:=by cases value <;> rfl
theorem JG (value:Expr) {es:List Expr} {k:Nat} {p:Pos} (line:Nat):swapsWith value (some (.Tuple es k p)) line env=pure false:=by cases value <;> rfl
theorem Y6 {value t:Expr} (ht:Xa t value=false):swappedStores [t] value env=pure none:=by
 cases t with
 | Tuple=>cases value <;> first | rfl | exact nob ht.symm
 | List=>exact nob ht.symm
 | _=>rfl
theorem z0f {it e':Expr} (h:xv sc G it=some e'):∃ x p pos,it=.Call (.Name x p) [e'] [] pos∧sc.kind x=some .globalImplicit∧G.glob x=some (.bi .enumerate)∧q9 e'=true∧(x == ("__debug__" : Str))=false:=by
 obtain ⟨c,h1,h⟩:=zf h
 obtain ⟨x,h2,h⟩:=zf h
 obtain ⟨a,h3,h⟩:=zf h
 obtain ⟨v,h4,h⟩:=zf h
 obtain ⟨b,h5,h⟩:=zf h
 obtain ⟨⟨q1,q2,q3,q4⟩,h⟩:=zr h
 cases h
 have hb:b=.enumerate:=by cases b <;> first | rfl | cases q1
 have hv:v=.bi b:=by cases v <;> first | (cases h5;rfl) | cases h5
 exact ⟨x.1,x.2,c.2.2,by rw [Yk h1,wp h2,jp h3],q2,by rw [h4,hv,hb],q3,q4⟩
theorem Jq {h:Hp} {v:AV} {a n:Nat} (e:yw h v=some (.ref a,n)):∃ xs,v=.ref a∧h[a]? = some (.list xs)∧n=xs.length:=by
 cases v with
 | ref b =>
  have e:(match h[b]? with | some (.list xs)=>some (Src.ref b,xs.length) | _=>none)=some (.ref a,n):=e
  cases q:h[b]? with
  | none=>rw [q] at e;exact nos e
  | some o =>
   rw [q] at e
   cases o with
   | inst=>exact nos e
   | dict=>exact nos e
   | cell=>exact nos e
   | tab=>exact nos e
   | list xs=>cases e;exact ⟨xs,rfl,q,rfl⟩
 | _=>cases e
theorem Xf {target it e':Expr} {body:List Stmt} {pos:Pos} {t:NTgt} {bx:XS} {itx:XE} (hn:n≠0) (g:Gd X G) (ht:xZ sc target=some t) (he:xv sc G it=some e')
  (hit:zw prog w X n cf sc env (eval e' env) itx) (hb:ym prog w X n cf sc env (execs body env) bx):ym prog w X n cf sc env (exec (.For target it body [] pos) env) (xz t itx true bx):=by
 intro fr hp A l μ s Q E H R I V k
 obtain ⟨x,p,cpos,rfl,hk,hg,hstar,hdb⟩:=z0f he
 clear he
 refine wpAny_For ?_ (fun x=>qJ rfl x)
 rw [Zy (fun o name p h=>by cases h),yK env (by simp [hstar]),yl]
 refine wpAny_bind (YY g hk hg I V hdb fun b' μ0 s0 L0 I0 r0=>?_)
 rw [r0.bi_]
 show wpAny _ _ (callWith cpos (jR .enumerate) [] ([eval e' env].map fun t=>(false,t)) []) _ _ _
 refine wz ?_
 have V0:=V.le I L0
 refine spliced_cons (hit R I0 V0 (PS.bindS (PS.le k L0.own) I0 V0 fun iv iv' h1 μ1 s1 L1 I1 ri k=>spliced_nil ?_))
 cases hsrc:yw h1 iv with
 | none=>rw [hsrc] at k;exact k.elim
 | some sn =>
 obtain ⟨src,nn⟩:=sn
 rw [hsrc] at k
 cases src with
 | imm=>exact k.elim
 | enum=>exact k.elim
 | ref a =>
 cases t with
 | one=>exact k.elim
 | cell=>exact k.elim
 | many is =>
 obtain ⟨xs,rfl,ho,rfl⟩:=Jq hsrc
 obtain ⟨es,kk,tp,rfl⟩:=X3 ht
 have V1:=V0.le I0 L1
 obtain ⟨c,items,nn',rfl,hm,hl,z,rr⟩:=I1.list_at ri ho
 refine call_enumerate_1 hl fun h' hE hIt hz hk'=>?_
 refine wpAny_pyIter_enum (s:={ s1 with heap:=h' }) hE ?_
 have fr1:∀ b,s1.heap.objs.size≤b→s1.heap.get? b=none:=fun b hb=>by
  cases q:s1.heap.get? b with
  | none=>rfl
  | some o=>exact absurd (Heap.lt_size q) (Nat.not_lt.mpr hb)
 have hne:s1.heap.objs.size+1≠s1.heap.objs.size:=by lia
 have frI:∀ b∈[s1.heap.objs.size+1,s1.heap.objs.size],s1.heap.get? b=none:=fun b hb=>fr1 b (by
  simp at hb
  rcases hb with rfl | rfl
  ·exact Nat.le_succ _
  ·exact Nat.le_refl _)
 have T:Its X s1.heap μ1 h' [s1.heap.objs.size+1,s1.heap.objs.size]:=by
  refine ⟨frI,fun b hb h=>?_,fun b hb=>?_,(Drives.enum (prog:=prog) (w:=w) (X:=X) (elts:=es) (x1:=kk) (pos:=tp) (a:=a) hne).obj 0 μ1 h' ⟨_,_,hm,hIt,hE⟩⟩
  ·obtain ⟨o,ho,_⟩:=I1.mut h
   rw [frI b hb] at ho;exact nos ho
  ·cases q:X.base.get? b with
   | none=>rfl
   | some o=>have:=I1.keep b o q;rw [frI b hb] at this;exact nos this
 exact WF (s₂:={ s1 with heap:=h' }) hn ht hb H R I1 V1 (Drives.enum hne) T ⟨_,_,hm,hIt,hE⟩ ⟨fun b o _ q=>hk' b o q,rfl,rfl⟩ k
theorem Wc {e:Expr} {p:Str×Str} (h:Zt e=some p):∃ np k0 ap cp,e=.Call (.Name p.1 np) [.Constant (.str p.2) k0 ap] [] cp:=by
 obtain ⟨c,h1,h⟩:=zf h
 obtain ⟨x,h2,h⟩:=zf h
 obtain ⟨a,h3,h⟩:=zf h
 obtain ⟨k,h4,h⟩:=zf h
 obtain ⟨m,h5,rfl⟩:=yC h
 exact ⟨x.2,k.2.1,k.2.2,c.2.2,by rw [Yk h1,wp h2,jp h3,XC h4,z47 h5]⟩
theorem z4p {s:Stmt} {t:Expr×Pos} (h:zI0 s=some t):s=.Return (some t.1) t.2:=Y7 (o:=zHz s) h
theorem z4q {s:Stmt} {p:Str×Str} (e:zI1 s=some p):∃ fp ap rp cp,s=.Return (some (.Call (.Name p.1 fp) [.Name p.2 ap] [] cp)) rp:=by
 obtain ⟨r,h5,e⟩:=zf e
 obtain ⟨c,h6,e⟩:=zf e
 obtain ⟨f,h7,e⟩:=zf e
 obtain ⟨y,h8,rfl⟩:=yC e
 obtain ⟨a,h8,h9⟩:=zf h8
 exact ⟨f.2,y.2,r.2,c.2.2,by conv=>lhs;rw [z4p h5,Yk h6,wp h7,jp h8,wp h9]⟩
theorem Jk {h:ExceptHandler} {p:Str×Str} (e:z3v G sc h=some p):∃ np nm fp ap rp cp hp,h=.ExceptHandler (some (.Name p.1 np)) (some nm) [.Return (some (.Call (.Name p.2 fp) [.Name nm ap] [] cp)) rp] hp∧sc.kind p.1=some .globalImplicit∧(p.1 == ("__debug__" : Str))=false∧sc.kind p.2=some .globalImplicit∧(p.2 == ("__debug__" : Str))=false ∧
  sc.kind nm=some .local∧(∃ i,sc.slot nm=some i)∧(nm == ("__classdict__" : Str))=false∧(nm == ("__debug__" : Str))=false∧G.lo=true∧sc.fl=false:=by
 obtain ⟨x,h1,e⟩:=zf e
 obtain ⟨nm,h3,e⟩:=zf e
 obtain ⟨q,h4,e⟩:=zf e
 obtain ⟨t,h1,h2⟩:=zf h1
 obtain ⟨s,h4,h5⟩:=zf h4
 obtain ⟨⟨c1,c2,c3,c4,c5,c6,c7,c8,c9,c10,c11⟩,rfl⟩:=zr e
 obtain ⟨fp,ap,rp,cp,hs⟩:=z4q h5
 exact ⟨x.2,nm,fp,ap,rp,cp,(ZX h).2.2.2,by conv=>lhs;rw [z2y h,h1,h3,wp h2,jp h4,hs,c1],c2,c3,c4,c5,c6,Option.isSome_iff_exists.mp c7,c8,c9,c10,c11⟩
theorem Qj {fr:AFr} {i:Nat} {v:AV} (h:(fr.map fun _=>(none:Option AV))[i]? = some (some v)):False:=by
 rw [List.getElem?_map] at h
 obtain ⟨o,_,e⟩:=yC h
 cases e
theorem Jr {b:List Stmt} {bx:XS} {h:ExceptHandler} {p:Str×Str} {pos:Pos} (hn:n≠0) (g:Gd X G) (hcf:SndCF prog w X n cf) (hm:z3v G sc h=some p) (hb:ym prog w X n cf sc env (execs b env) bx) :
  ym prog w X n cf sc env (exec (.Try b [h] [] [] pos) env) (YB (fun c=>G.exm c p.1) p.2 bx):=by
 intro fr hp A l μ s Q E T R I V k
 obtain ⟨np,nm,fp,ap,rp,cp,hpos,rfl,k1,k2,k3,k4,k5,⟨i,k6⟩,k7,k8,k9,fo⟩:=Jk hm
 replace k:PS X l sc env μ s (match bx cf fr hp with
  | .stuck=>.stuck
  | .ok fl fr' h'=>.ok fl fr' h'
  | .exc nw c fr' h'=>if nw=false∧G.exm c p.1=true then (match cf (.word p.2) [.exc c] h' with
   | .ok v h₂=>.ok (.ret v) (fr'.map fun _=>none) h₂
   | _=>.stuck) else .stuck) Q E:=k
 refine wpAny_Try_except (hb T R I V ?_)
 cases q:bx cf fr hp with
 | stuck=>rw [q] at k;exact k.elim
 | ok fl fr' h' =>
  rw [q] at k
  intro fl' μ' s' L' I' V' r
  cases fl with
  | next=>rw [r.next_];exact wpAny_execs_nil (k .next μ' s' L' I' V' .next)
  | ret u =>
   obtain ⟨u',rfl,ru⟩:=r.ret_
   exact k _ μ' s' L' I' V' (.ret ru)
 | exc nw c' fr' h' =>
  rw [q] at k
  dsimp only at k
  by_cases hq:nw=false∧G.exm c' p.1=true
  case neg=>rw [if_neg hq] at k;exact k.elim
  rw [if_pos hq] at k
  obtain ⟨rfl,hxm⟩:=hq
  cases eo:cf (.word p.2) [.exc c'] h' with
  | stuck=>rw [eo] at k;exact k.elim
  | exc=>rw [eo] at k;exact k.elim
  | ok v h2 =>
  rw [eo] at k
  rintro e μ' s' B C hC ⟨a0,hfl⟩ cl
  obtain ⟨outer,rfl,hf⟩:=T
  refine wpAny_looks_onW R.frames hf hfl fun h₄ hheld hsm₄=>wpAny_landsW hheld fun h₅ hfl₅ hsm₅=>?_
  have U5:=hsm₄.trans hsm₅
  obtain ⟨_,I5,V5⟩:=cl h₅ s'.toks hfl₅.1 U5
  obtain ⟨ob,hob,hobc⟩:=hfl₅.there
  obtain ⟨C',D,hC',hD,hx1⟩:=g.exm _ _ hxm
  rw [hC] at hC';cases hC'
  refine wpAny_handleBy_cons (codeAny_handlers_test (wo g k1 hD I5 V5 k2 ?_)) (by intro q;cases q)
  refine Looks.here (exm_one (I5.kin g.K) (hobc▸(Looks.ld hob).andThen .now) hx1) ?_
  refine codeAny_handlers_suite_as ?_
  refine PyProof.Rows.lands_againW hfl₅ fun h₆ hfl₆ hsm₆=>?_
  obtain ⟨L6,I6,V6⟩:=cl h₆ s'.toks hfl₆.1 (U5.trans hsm₆)
  have re:VR X μ' h₆ (.exc c') (.ref e):=by
   obtain ⟨_,_,_,oe,vs,T,oT,ts,he,⟨hc,_⟩,hd,_⟩:=hfl₆
   exact .exc hC he hc hd
  have hi:i<fr'.length:=by rw [V6.wid];exact V6.slt nm i k6
  refine ZO (cb:=true) (s:={ s' with heap:=h₆ }) I6 V6 (.inl k5) (fun _=>rfl) k6 hi re fun s7 L7 I7 V7=>?_
  refine wpAny_execs_cons (wpAny_Return_some ?_)
  obtain ⟨F,hF⟩:=hcf.wordAt (x:=p.2) (args:=[.exc c']) (hp:=h') (fun z=>by rw [eo] at z;cases z)
  rw [Zy (fun o name p h=>by cases h),yK env rfl,yl]
  refine wpAny_bind (wo g k3 hF I7 V7 k4 ?_)
  have hn1:1≤n:=Nat.pos_of_ne_zero hn
  have hd:=R.depth
  have hu:=R.units
  refine Za (K:=X.K) (ts:=[eval (.Name nm ap) env]) (hcf.keep (c:=.word p.2) (args:=[.exc c']) (hp:=h') (fun z=>by rw [eo] at z;cases z) hF) (spliced_cons (Yy (i:=i) (.inl k5) k6 (List.getElem?_set_self hi) I7 V7 k8 k7 fun e' μ8 s8 L8 I8 r8=>spliced_nil ⟨I8.kin g.K,?_⟩))
  have V8:=V7.le I7 L8
  refine hcf.word (A:=A.mark (some (.ref e))) R.frames (by show A.depth+3<_;lia) (by show A.units+303<_;lia) V8.frs I8 hF (.cons r8 .nil) ?_
  rw [eo]
  intro v' μ9 s9 L9 I9 r9
  have V9:=V8.le I8 L9
  obtain ⟨m9,ns9,_⟩:=V9.loc
  refine wpAny_nameGoes ((V9.kind nm)▸k5) ns9 (by rw [V9.fn];rfl) fun h10 m10 ns10 hsb=>?_
  have nsL:=ns10
  obtain ⟨I10,L10⟩:=I9.own (s':={ s9 with heap:=h10,toks:=s9.toks+1 }) (S:=fun b=>b=env.locals) (fun b h=>h▸⟨V9.nloc,V9.bloc⟩)
   (fun b o h e=>⟨fun f=>yJ V9 b o (.inl h) e f,by obtain ⟨o',es',ep',ho',_⟩:=nsL;exact ⟨o',h▸ho'⟩⟩) (fun b o n e=>(hsb.2 b n).trans e) rfl rfl
  have lc:∀ x c,env.cells.lookup x=some c→c≠env.locals:=fun x c h e=>by
   obtain ⟨_,cv,o,ho,hd⟩:=V9.ncel fo x c h
   obtain ⟨o',es,ep,ho',hd',_⟩:=ns9
   rw [e,ho'] at ho;cases ho;rw [hd] at hd';cases hd'
  have cellK:∀ {x:Str} {c:Addr} {cv:Option Value},env.cells.lookup x=some c→s9.heap.IsCell c cv→h10.IsCell c cv:=fun hx h=>by
   obtain ⟨o,ho,r⟩:=h;exact ⟨o,(hsb.2 _ (lc _ _ hx)).trans ho,r⟩
  have LL:Le (own sc env) μ s μ9 { s9 with heap:=h10,toks:=s9.toks+1 }:=(((L6.trans (L7.weak fun _ h=>xr h)).trans L8.own).trans L9.own).trans (L10.weak fun b h=>.inl h)
  refine k _ μ9 _ LL I10 ⟨V9.fn,V9.glob,V9.bltn,V9.kind,⟨m10,ns10,fun x i v _ _ h3=>(Qj h3).elim⟩,fun hf x i h1 h2=>?_,V9.nloc,V9.bloc,fun h=>(by rw [fo] at h;cases h),V9.cod,fun hf x c hc=>?_,V9.bcel,V9.apart,V9.inj,?_,V9.slt,
   V9.frs.but (fun b n=>hsb.2 b n) fun o _ _=>by obtain ⟨o',es',ep',ho',hd',_⟩:=nsL;exact ⟨o',ho',w9 hd'⟩⟩ (.ret ?_)
  ·obtain ⟨c,cv,q1,q2,_⟩:=V9.cel hf x i h1 h2
   exact ⟨c,cv,q1,cellK q1 q2,fun v hv=>(Qj hv).elim⟩
  ·obtain ⟨z,cv,h⟩:=V9.ncel hf x c hc
   exact ⟨z,cv,cellK hc h⟩
  ·rw [List.length_map,V6.wid]
  ·exact r9.mono (List.prefix_refl _) (L10.fixed I9 fun b o h e=>yJ V9 b o (.inl h) e)
theorem QY {x:Str} {px pos:Pos} {e₀:Expr} {f:Nat} (g:Gd X G) (hlo:G.lo=true→n≠0) (hcf:SndCF prog w X n cf) (hE:∀ sc env e,zw prog w X n cf sc env (eval e env) (dE G f sc e)) (hsb:Xa (.Name x px) e₀=false) (hcc:(ZD e₀ && QA sc (.Name x px))=false) :
  ym prog w X n cf sc env (exec (.Assign [.Name x px] e₀ pos) env) (zA G.okf (Wx sc (.Name x px)) (dE G f sc e₀)):=by
 have hw:=Y6 (env:=env) hsb
 show ym prog w X n cf sc env _ (zA G.okf (match xZ sc (.Name x px) with | some (.cell i)=>.cell i | some t=>.names t | none=>.none) (dE G f sc e₀))
 cases ht:xZ sc (.Name x px) with
 | none=>exact xk (cf:=cf)
 | some t' =>
  have nc:QA sc (.Name x px)=(match xZ sc (.Name x px) with | some (.cell _)=>true | _=>false):=rfl
  rw [ht] at nc
  cases t' with
  | many is=>obtain ⟨_,_,_,e⟩:=X3 ht;cases e
  | cell i =>
   rw [nc] at hcc
   cases hc:ZD e₀ with
   | true=>rw [hc] at hcc;cases hcc
   | false=>exact @Zi prog w X n cf sc env x px pos i e₀ (dE G f sc e₀) G.okf ht (Y5 hc _ _) hw (hE _ _ _)
  | one i =>
  show ym prog w X n cf sc env _ (zA G.okf (.names (.one i)) (dE G f sc e₀))
  have nn:(∀ y p,Expr.Name x px≠.Name y p)→n≠0:=fun h=>absurd rfl (h _ _)
  cases hc:ZD e₀ with
  | false=>exact @xC prog w X n cf sc env (.Name x px) e₀ pos (.one i) (dE G f sc e₀) G.okf nn ht (Y5 hc _ _) hw (hE _ _ _)
  | true =>
   cases e₀ with
   | ListComp elt gs sp lp =>
    obtain ⟨b,hb⟩:∃ b,swapsWith (.ListComp elt gs sp lp) (some (.Name x px)) pos.line env=pure b:=⟨_,rfl⟩
    cases b with
    | false=>exact @xC prog w X n cf sc env (.Name x px) _ pos (.one i) (dE G f sc _) G.okf nn ht hb hw (hE _ _ _)
    | true =>
    cases f with
    | zero=>exact @yx prog w X n cf sc env _ _ _
    | succ f =>
    obtain ⟨hE',hT',hO'⟩:=Q7 g hlo hcf f
    cases gs with
    | nil=>exact @yx prog w X n cf sc env _ _ _
    | cons gg gs =>
    cases gs with
    | cons _ _=>exact @yx prog w X n cf sc env _ _ _
    | nil =>
     obtain ⟨target,iter,ifs,as⟩:=gg
     show ym prog w X n cf sc env _ (zA G.okf (.names (.one i)) (if qZ sc sp=true∧as=0∧jq iter=true∧qR sp target=true∧G.lo=true then (match xZ (sc.inner sp) target with
      | some t=>xB (dE G f sc iter) (y6 sp).length t (y8 .And (ifs.map (dT G f (sc.inner sp)))) (dE G f (sc.inner sp) elt)
      | none=>zk) else zk))
     by_cases h:qZ sc sp=true∧as=0∧jq iter=true∧qR sp target=true∧G.lo=true
     ·rw [if_pos h]
      have h2:as=0:=h.2.1
      subst h2
      cases ht':xZ (sc.inner sp) target with
      | none=>exact yx (cf:=cf)
      | some t =>
       exact Zh (hlo h.2.2.2.2) h.1 ht' h.2.2.2.1 h.2.2.1 (fun env'=>wh (j6 (hT' _ _) _)) (fun env'=>hE' _ _ _) (hE' _ _ _) ht hb
     ·rw [if_neg h];exact yx (cf:=cf)
   | SetComp=>cases f <;> exact @yx prog w X n cf sc env _ _ _
   | DictComp=>cases f <;> exact @yx prog w X n cf sc env _ _ _
   | _=>cases hc
theorem WI (g:Gd X G) (hlo:G.lo=true→n≠0) (hcf:SndCF prog w X n cf) (f:Nat):(∀ sc env st,ym prog w X n cf sc env (exec st env) (dS G f sc st))∧(∀ sc env sts,ym prog w X n cf sc env (execs sts env) (dSs G f sc sts)):=by
 induction f with
 | zero=>exact ⟨fun _ _ _=>y9 (cf:=cf),fun _ _ _=>y9 (cf:=cf)⟩
 | succ f ih =>
  obtain ⟨hS,hSs⟩:=ih
  obtain ⟨hE,hT,hO⟩:=Q7 g hlo hcf f
  refine ⟨fun sc env st=>?_,fun sc env sts=>Jt (hS _ _) sts⟩
  cases st with
  | Return eo pos =>
   cases eo with
   | some e=>exact z4b (hE _ _ _)
   | none=>exact z17 (cf:=cf)
  | Expr e₀ pos=>exact jg fun h=>z1c (Y5 h _ _) (hE _ _ _)
  | Assign ts e₀ pos =>
   cases ts with
   | nil=>exact y9 (cf:=cf)
   | cons t ts =>
   cases ts with
   | cons _ _=>exact y9 (cf:=cf)
   | nil =>
    refine jg ?_
    rintro ⟨hsb,hcc⟩
    have hw:=Y6 (env:=env) hsb
    cases t with
    | Name x px =>
     exact @QY prog w X G n cf sc env x px pos e₀ f g hlo hcf hE hsb hcc
    | Attribute o name p =>
     show ym prog w X n cf sc env _ (zA G.okf (if qi o=false then .attr (dE G f sc o) name else .none) (dE G f sc e₀))
     by_cases h:qi o=false
     ·rw [if_pos h];exact Zj g (z46 e₀ _) (hE _ _ _) (hE _ _ _)
     ·rw [if_neg h];exact xk (cf:=cf)
    | Subscript o i p =>
     show ym prog w X n cf sc env _ (zA G.okf (match qc i with | some _=>.none | none=>.item (dE G f sc o) (dE G f sc i)) (dE G f sc e₀))
     cases qc i with
     | some _=>exact xk (cf:=cf)
     | none=>exact Zg (z45 e₀ _) (hE _ _ _) (hE _ _ _) (hE _ _ _)
    | Tuple es kk p =>
     show ym prog w X n cf sc env _ (zA G.okf (if G.lo=true then (match xZ sc (.Tuple es kk p) with | some (.cell i)=>.cell i | some t=>.names t | none=>.none) else .none) (dE G f sc e₀))
     by_cases hL:G.lo=true
     case neg=>rw [if_neg hL];exact xk (cf:=cf)
     rw [if_pos hL]
     cases ht:xZ sc (.Tuple es kk p) with
     | none=>exact xk (cf:=cf)
     | some t' =>
      cases t' with
      | cell i=>obtain ⟨_,_,e,_⟩:=Z7 ht;cases e
      | one i=>exact xC (fun _=>hlo hL) ht (JG e₀ _) hw (hE _ _ _)
      | many is=>exact xC (fun _=>hlo hL) ht (JG e₀ _) hw (hE _ _ _)
    | List=>cases hsb
    | _ =>
     show ym prog w X n cf sc env _ (zA G.okf .none (dE G f sc e₀))
     exact xk (cf:=cf)
  | Raise eo co pos =>
   cases co with
   | some _=>exact y9 (cf:=cf)
   | none =>
   cases eo with
   | none=>exact y9 (cf:=cf)
   | some e₀ =>
    show ym prog w X n cf sc env _ (match Zt e₀ with
     | some p=>if G.lo=true∧G.exc p.1=true∧sc.kind p.1=some .globalImplicit∧(p.1 == ("__debug__" : Str))=false∧p.2.length≤small then yh p.1 else yB
     | none=>yB)
    cases q:Zt e₀ with
    | none=>exact y9 (cf:=cf)
    | some p =>
     obtain ⟨np,k0,ap,cp,rfl⟩:=Wc q
     exact jg fun h=>Js (cf:=cf) (hlo h.1) g h.2.1 h.2.2.1 h.2.2.2.1 h.2.2.2.2
  | Try b hs el fi pos =>
   cases el with
   | cons _ _=>exact y9 (cf:=cf)
   | nil =>
   cases fi with
   | cons _ _=>exact y9 (cf:=cf)
   | nil =>
    show ym prog w X n cf sc env _ (match (Qh hs).bind (z3v G sc) with
     | some p=>YB (fun c=>G.exm c p.1) p.2 (dSs G f sc b)
     | none=>yB)
    cases q:(Qh hs).bind (z3v G sc) with
    | none=>exact y9 (cf:=cf)
    | some p =>
     obtain ⟨h,q1,q2⟩:=zf q
     rw [jp q1]
     obtain ⟨_,_,_,_,_,_,_,_,_,_,_,_,_,_,_,_,hL,_⟩:=Jk q2
     exact Jr (hlo hL) g hcf q2 (hSs _ _ _)
  | If t a b pos=>exact z4f (hT _ _ _) (hSs _ _ _) (hSs _ _ _)
  | For t it b els pos =>
   cases els with
   | cons _ _=>exact y9 (cf:=cf)
   | nil =>
    show ym prog w X n cf sc env _ (match xZ sc t with
     | some t=>if G.lo=false then yB else (match xv sc G it with
      | some e=>xz t (dE G f sc e) true (dSs G f sc b)
      | none=>if jq it=true then xz t (dE G f sc it) false (dSs G f sc b) else yB)
     | none=>yB)
    cases ht:xZ sc t with
    | none=>exact y9 (cf:=cf)
    | some t' =>
     dsimp only
     by_cases hL:G.lo=false
     case pos=>rw [if_pos hL];exact y9 (cf:=cf)
     rw [if_neg hL]
     have hL:=hlo ((Bool.not_eq_false _).mp hL)
     cases he:xv sc G it with
     | some e=>exact Xf hL g ht he (hE _ _ _) (hSs _ _ _)
     | none=>exact jg fun h=>z4h hL ht h (hE _ _ _) (hSs _ _ _)
  | _=>exact y9 (cf:=cf)
end
noncomputable def JZ:Value→Bool
 | .none=>true
 | _=>false
theorem Wq {v:Value} (h:JZ v=true):v=.none:=by
 cases v with
 | none=>rfl
 | _=>exact nob h
noncomputable def yF (s:Scope) (ps:List Str):List Str:=ps++((s.names.filter fun p=>p.2 == .local || p.2 == .cell).map (·.1)).filter fun x=>!ps.contains x
noncomputable def yV:List Str:=["law", "_law_rows", "_law_deeds", "_law_numbers", "_law_marks"]
noncomputable def Qz (fd:FuncData):Option (Str×Addr):=match fd.code with
 | .ref c=>if yV.contains fd.qualname=true then some (fd.qualname,c) else none
 | _=>none
noncomputable def Z4 (s:Scope) (ps:List Str) (lw:Option (Str×Addr)):Sc where
 kind:=fun x=>s.names.lookup x
 slot:=fun x=>xJ x (yF s ps) 0
 width:=(yF s ps).length
 fl:=lw.isSome
 law:=lw
noncomputable def yU (fd:FuncData):List Str:=fd.params.args.map (·.arg)
noncomputable def Q0 (K:Frag) (fd:FuncData):Bool :=
 fd.params.posonlyargs.isEmpty && fd.params.kwonlyargs.isEmpty && fd.params.vararg.isNone && fd.params.kwarg.isNone && JZ fd.defaults && fd.closure.isEmpty && codeIn K fd.code fd.qualname && fd.scope.kind == .function &&
 !fd.scope.isCoroutine && !fd.scope.isGenerator && fd.globals == mainGlobals && fd.builtins == builtinsNs && (yU fd).Nodup && (yU fd).all (fun x=>fd.scope.names.lookup x == some .local || fd.scope.names.lookup x == some .cell) &&
 fd.scope.names.all fun p=>p.2 == .local || p.2 == .cell || p.2 == .globalImplicit
noncomputable def zHf:Data→Option FuncData
 | .func fd=>some fd
 | _=>none
noncomputable def zHu:FuncBody→Option (List Stmt)
 | .stmts b=>some b
 | _=>none
theorem z5f {d:Data} {fd:FuncData} (h:zHf d=some fd):d=.func fd:=by
 cases d with
 | func=>cases h;rfl
 | _=>exact nos h
theorem z48 {d:FuncBody} {b:List Stmt} (h:zHu d=some b):d=.stmts b:=by
 cases d with
 | stmts=>cases h;rfl
 | _=>exact nos h
noncomputable def J0 (fd:FuncData):Option (List Nat):=yd (fun x=>xJ x (yF fd.scope (yU fd)) 0) ((fd.scope.names.filter fun p=>fd.scope.names.lookup p.1 == some .cell).map (·.1))
noncomputable def qo (G:GTab) (fd:FuncData) (body:List Stmt):XS:=match Qz fd with
 | none=>dSs G 60 (Z4 fd.scope (yU fd) none) body
 | some q=>(match J0 fd with
  | some is=>if is.Nodup then wG is (dSs G 60 (Z4 fd.scope (yU fd) (some q)) body) else yB
  | none=>yB)
noncomputable def z5g (G:GTab) (fd:FuncData) (body:List Stmt):Fn:=⟨(yU fd).length,(yF fd.scope (yU fd)).length,qo G fd body⟩
noncomputable def Yw (G:GTab) (K:Frag) (f:Addr):Option Fn:=(K.lookup f).bind fun o=>(zHf o.data).bind fun fd=>if Q0 K fd=true then (zHu fd.body).map (z5g G fd) else none
theorem Jc {G:GTab} {K:Frag} {f:Addr} {F:Fn} (h:Yw G K f=some F):∃ o fd b,K.lookup f=some o∧o.data=.func fd∧Q0 K fd=true∧fd.body=.stmts b∧F=z5g G fd b:=by
 obtain ⟨o,h1,h⟩:=zf h
 obtain ⟨fd,h2,h⟩:=zf h
 obtain ⟨h3,h⟩:=wM h
 obtain ⟨b,h4,h5⟩:=yC h
 exact ⟨o,fd,b,h1,z5f h2,h3,z48 h4,h5.symm⟩
theorem Yx:∀ (ps:List Str) (vals:List Value),ps.Nodup→vals.length=ps.length→ps.filterMap (fun n=>((ps.zip vals).lookup n).map (n,·))=ps.zip vals:=by
 intro ps vals nd hl
 have key:∀ (qs:List Str) (us:List Value) (pre:List (Str×Value)),us.length=qs.length→qs.Nodup→(∀ x∈qs,pre.lookup x=none)→qs.filterMap (fun n=>((pre++qs.zip us).lookup n).map (n,·))=qs.zip us:=by
  intro qs
  induction qs with
  | nil=>intro us pre h _ _;rw [List.zip_nil_left];rfl
  | cons q qs ih =>
   intro us pre h nd hp
   cases us with
   | nil=>cases h
   | cons u us =>
    have e:(pre++(q,u)::qs.zip us).lookup q=some u:=by
     rw [List.lookup_append,hp q (.head _)];exact List.lookup_cons_self
    rw [List.zip_cons_cons,List.filterMap_cons,e]
    refine congrArg ((q,u)::·) ?_
    have:=ih us (pre++[(q,u)]) (Nat.succ.inj h) (List.nodup_cons.mp nd).2 (fun x hx=>by
     rw [List.lookup_append,hp x (.tail _ hx)]
     show [(q,u)].lookup x=none
     rw [List.lookup_cons,beq_false_of_ne (fun e=>(List.nodup_cons.mp nd).1 (by rw [← e];exact hx))];rfl)
    rw [List.append_assoc] at this
    exact this
 exact key ps vals [] hl nd (fun _ _=>rfl)
theorem Zl {ps:List Str}:∀ {vals:List Value},vals.length=ps.length→∀ x∈ps,((ps.zip vals).lookup x).isNone=false:=by
 induction ps with
 | nil=>intro _ _ x h;exact absurd h List.not_mem_nil
 | cons p ps ih =>
  intro vals h x hx
  cases vals with
  | nil=>exact absurd h.symm (Nat.succ_ne_zero _)
  | cons v vals =>
   rw [List.zip_cons_cons,List.lookup_cons]
   cases e:x == p with
   | true=>rfl
   | false =>
    rcases List.mem_cons.mp hx with rfl | hx
    ·rw [beq_self_eq_true] at e;exact nob e.symm
    ·exact ih (Nat.succ.inj h) x hx
theorem j3 {fd:FuncData} {vals:List Value} (h1:fd.params.posonlyargs=[]) (h2:fd.params.kwonlyargs=[]) (h3:fd.params.vararg=none) (h4:fd.params.kwarg=none) (h5:fd.defaults=.none) (nd:(yU fd).Nodup)
  (hl:vals.length=(yU fd).length):bindArgs fd ⟨vals,[]⟩=pure ((yU fd).zip vals):=by
 have hz:=Yx (yU fd) vals nd hl
 have hm:(yU fd).filter (fun n=>(((yU fd).zip vals).lookup n).isNone)=[]:=List.filter_eq_nil_iff.mpr fun x hx=>by rw [Zl hl x hx];exact Bool.false_ne_true
 obtain ⟨nm,q,⟨po,ar,va,ko,kd,kw,df⟩,bd,sc,gl,cl,d,kdf,doc,pm,an,cd,ct,bl⟩:=fd
 dsimp only at h1 h2 h3 h4 h5
 subst h1 h2 h3 h4 h5
 have hm:(ar.map Arg.arg).filter (fun n=>(((ar.map Arg.arg).zip vals).lookup n).isNone)=[]:=hm
 have hz:(ar.map Arg.arg).filterMap (fun n=>(((ar.map Arg.arg).zip vals).lookup n).map (n,·))=(ar.map Arg.arg).zip vals:=hz
 have hl:vals.length=(ar.map Arg.arg).length:=hl
 show _=pure ((ar.map Arg.arg).zip vals)
 refine Eq.trans (b:=ite ((decide (vals.length > (([]:List Str)++ar.map Arg.arg).length) && (none:Option Arg).isNone)=true) _ _) rfl ?_
 refine (if_neg (by rw [hl];show ¬ (decide ((ar.map Arg.arg).length > (ar.map Arg.arg).length) && true)=true;rw [decide_eq_false (Nat.lt_irrefl _)];exact Bool.false_ne_true)).trans ?_
 have e0:List.drop (([]:List Value).length - (([]:List Str)++ar.map Arg.arg).length) ([]:List Value)=[]:=List.drop_nil
 refine Eq.trans (b:=ite ((!(((([]:List Str)++ar.map Arg.arg).take ((([]:List Str)++ar.map Arg.arg).length - (List.drop (([]:List Value).length - (([]:List Str)++ar.map Arg.arg).length) ([]:List Value)).length)).filter (fun n=>(((ar.map Arg.arg).zip vals).lookup n).isNone)).isEmpty)=true) _ _) rfl ?_
 refine (if_neg ?_).trans ?_
 ·rw [e0];show ¬ (!(List.filter _ (List.take (ar.map Arg.arg).length (ar.map Arg.arg))).isEmpty)=true
  rw [List.take_length,hm];exact Bool.false_ne_true
 refine Eq.trans (b:=(forIn (m:=Sem) ((List.drop ((([]:List Str)++ar.map Arg.arg).length - (List.drop (([]:List Value).length - (([]:List Str)++ar.map Arg.arg).length) ([]:List Value)).length) (([]:List Str)++ar.map Arg.arg)).zip (List.drop (([]:List Value).length - (([]:List Str)++ar.map Arg.arg).length) ([]:List Value))) ((ar.map Arg.arg).zip vals) _ >>= _)) rfl ?_
 rw [e0,List.zip_nil_right]
 refine Eq.trans (b:=(pure ((ar.map Arg.arg++[]).filterMap (fun n=>(((ar.map Arg.arg).zip vals).lookup n).map (n,·))):Sem _)) rfl ?_
 rw [List.append_nil,hz]
theorem XM {kd:Str→Option NameKind} {x:Str}:∀ {ps:List Str} {vals:List Value} {m:Str→Option Value},x∉ps→bindL kd (ps.zip vals) m x=m x
 | [],vals,m,_=>by rw [List.zip_nil_left];rfl
 | p::ps,[],m,_=>by rw [List.zip_nil_right];rfl
 | p::ps,v::vals,m,h=>by
  rw [List.zip_cons_cons,bindL,XM (fun q=>h (.tail _ q))]
  split
  ·exact if_neg (fun (q:x=p)=>h (q▸.head _))
  ·rfl
theorem WL {kd:Str→Option NameKind} {x:Str} (hk:kd x=some .local):∀ {ps:List Str} {vals:List Value} {m:Str→Option Value} {i:Nat} {v:Value},ps.Nodup→ps[i]? = some x→vals[i]? = some v→bindL kd (ps.zip vals) m x=some v
 | [],_,_,_,_,_,h,_=>by cases h
 | p::ps,[],_,_,_,_,_,h=>by cases h
 | p::ps,u::vals,m,0,v,nd,h1,h2=>by
  cases h1;cases h2
  rw [List.zip_cons_cons,bindL,XM (List.nodup_cons.mp nd).1,if_pos hk];exact if_pos rfl
 | p::ps,u::vals,m,i+1,v,nd,h1,h2=>by
  rw [List.zip_cons_cons,bindL]
  exact WL hk (List.nodup_cons.mp nd).2 (i:=i) h1 h2
theorem XO {kd:Str→Option NameKind} {x:Str}:∀ {ps:List Str} {vals:List Value} {m:Str→Option Value},x∉ps→bindC kd (ps.zip vals) m x=m x
 | [],vals,m,_=>by rw [List.zip_nil_left];rfl
 | p::ps,[],m,_=>by rw [List.zip_nil_right];rfl
 | p::ps,v::vals,m,h=>by
  rw [List.zip_cons_cons,bindC,XO (fun q=>h (.tail _ q))]
  split
  ·rfl
  ·exact if_neg (fun (q:x=p)=>h (q▸.head _))
theorem WN {kd:Str→Option NameKind} {x:Str} (hk:kd x≠some .local):∀ {ps:List Str} {vals:List Value} {m:Str→Option Value} {i:Nat} {v:Value},ps.Nodup→ps[i]? = some x→vals[i]? = some v→bindC kd (ps.zip vals) m x=some v
 | [],_,_,_,_,_,h,_=>by cases h
 | p::ps,[],_,_,_,_,_,h=>by cases h
 | p::ps,u::vals,m,0,v,nd,h1,h2=>by
  cases h1;cases h2
  rw [List.zip_cons_cons,bindC,XO (List.nodup_cons.mp nd).1,if_neg hk];exact if_pos rfl
 | p::ps,u::vals,m,i+1,v,nd,h1,h2=>by
  rw [List.zip_cons_cons,bindC]
  exact WN hk (List.nodup_cons.mp nd).2 (i:=i) h1 h2
theorem xp {x:Str}:∀ {names:List (Str×NameKind)} {k:Nat} {acc:List (Str×Addr)},((x,NameKind.cell)∈names∨∃ c,acc.lookup x=some c)→∃ c,(cellsFrom k names acc).lookup x=some c
 | [],k,acc,h=>by
  rcases h with h | h
  ·cases h
  ·exact h
 | (n,kd)::r,k,acc,h=>by
  unfold cellsFrom
  split
  ·refine xp ?_
   rcases h with h | ⟨c,h⟩
   ·cases h with
    | head=>exact .inr ⟨k,List.lookup_cons_self⟩
    | tail _ h=>exact .inl h
   ·refine .inr ?_
    rw [List.lookup_cons]
    split
    ·exact ⟨_,rfl⟩
    ·exact ⟨c,h⟩
  ·rename_i hk
   refine xp ?_
   rcases h with h | h
   ·cases h with
    | head=>exact absurd rfl hk
    | tail _ h=>exact .inl h
   ·exact .inr h
structure FnGood (K:Frag) (fd:FuncData):Prop where
 p1:fd.params.posonlyargs=[]
 p2:fd.params.kwonlyargs=[]
 p3:fd.params.vararg=none
 p4:fd.params.kwarg=none
 p5:fd.defaults=.none
 clo:fd.closure=[]
 code:codeIn K fd.code fd.qualname=true
 kind:fd.scope.kind=.function
 co:fd.scope.isCoroutine=false
 gen:fd.scope.isGenerator=false
 glob:fd.globals=mainGlobals
 bltn:fd.builtins=builtinsNs
 nd:(yU fd).Nodup
 par:∀ x∈yU fd,fd.scope.names.lookup x=some .local∨fd.scope.names.lookup x=some .cell
 names:∀ p∈fd.scope.names,p.2=.local∨p.2=.cell∨p.2=.globalImplicit
theorem z0j {K:Frag} {fd:FuncData} (h:Q0 K fd=true):FnGood K fd:=by
 unfold Q0 at h
 obtain ⟨h,h15⟩:=xf h
 obtain ⟨h,h14⟩:=xf h
 obtain ⟨h,h13⟩:=xf h
 obtain ⟨h,h12⟩:=xf h
 obtain ⟨h,h11⟩:=xf h
 obtain ⟨h,h10⟩:=xf h
 obtain ⟨h,h9⟩:=xf h
 obtain ⟨h,h8⟩:=xf h
 obtain ⟨h,h7⟩:=xf h
 obtain ⟨h,h6⟩:=xf h
 obtain ⟨h,h5⟩:=xf h
 obtain ⟨h,h4⟩:=xf h
 obtain ⟨h,h3⟩:=xf h
 obtain ⟨h1,h2⟩:=xf h
 refine ⟨List.isEmpty_iff.mp h1,List.isEmpty_iff.mp h2,Option.isNone_iff_eq_none.mp h3,Option.isNone_iff_eq_none.mp h4,Wq h5,List.isEmpty_iff.mp h6,h7,eq_of_beq h8,zIz h9,zIz h10,eq_of_beq h11,eq_of_beq h12,of_decide_eq_true h13,
  fun x hx=>(orT (List.all_eq_true.mp h14 x hx)).imp eq_of_beq eq_of_beq,fun p hp=>?_⟩
 rcases orT (List.all_eq_true.mp h15 p hp) with h | h
 ·rcases orT h with h | h
  ·exact .inl (eq_of_beq h)
  ·exact .inr (.inl (eq_of_beq h))
 ·exact .inr (.inr (eq_of_beq h))
section
variable {prog:Program} {w:World} {X:Cx} {G:GTab} {n:Nat} {cf:CF} {A:Around} {E:Value→Shared→Prop} {s s':Shared} {μ:Mu} {hp hp':Hp} {Q:Value→Shared→Prop} {l:List Env}
theorem z5j {K:Frag} {fd:FuncData} {f:Addr} {args:List AV} {args':List Value} (H:FnGood K fd) (I:Inv X μ hp s) (ra:VRs X μ s.heap args args') (hl:args.length=(yU fd).length) (F:Frs X l μ s.heap)
  (x:InCallC s (callEnvC fd s.heap.objs.size f).locals (bindL (callEnvC fd s.heap.objs.size f).kindOf ((yU fd).zip args') fun _=>none) (callEnvC fd s.heap.objs.size f).cells
    (bindC (callEnvC fd s.heap.objs.size f).kindOf ((yU fd).zip args') fun _=>none) s') :
  EnvR X (callEnvC fd s.heap.objs.size f::l) (Z4 fd.scope (yU fd) none) (callEnvC fd s.heap.objs.size f) (args.map some++List.replicate ((yF fd.scope (yU fd)).length - (yU fd).length) none) μ s'.heap∧(∀ b,own (Z4 fd.scope (yU fd) none) (callEnvC fd s.heap.objs.size f) b→s.heap.get? b=none) ∧
   Inv X μ hp s'∧Le noS μ s μ s':=by
 obtain ⟨⟨⟨h₁,tk,e₁⟩,ns,kp,fr⟩,cel,ap,ab⟩:=x
 have eL:(callEnvC fd s.heap.objs.size f).locals=s.heap.objs.size:=rfl
 have eC:(callEnvC fd s.heap.objs.size f).cells=cellsFrom (s.heap.objs.size+1) fd.scope.names []:=rfl
 have fresh:∀ b,s.heap.objs.size≤b→s.heap.get? b=none:=fun b hb=>by
  cases q:s.heap.get? b with
  | none=>rfl
  | some o=>exact absurd (Heap.lt_size q) (Nat.not_lt.mpr hb)
 have fown:∀ b,own (Z4 fd.scope (yU fd) none) (callEnvC fd s.heap.objs.size f) b→s.heap.get? b=none:=fun b h=>by
  rcases h with rfl | ⟨_,x,hx⟩
  ·exact fresh _ (Nat.le_refl _)
  ·exact fresh _ (Nat.le_of_lt (ab x b (mem_of_lookup hx)))
 have nin:∀ b,s.heap.get? b=none→b∉zh μ:=fun b h q=>by
  obtain ⟨o,ho,_⟩:=I.mut q;rw [h] at ho;exact nos ho
 have bas:∀ b,s.heap.get? b=none→X.base.get? b=none:=fun b h=>by
  cases q:X.base.get? b with
  | none=>rfl
  | some o=>have:=I.keep b o q;rw [h] at this;exact nos this
 have I':Inv X μ hp s':=by rw [e₁] at kp ⊢;exact I.grow kp
 have L':Le noS μ s μ s':=.ofKeep kp
 have rl:∀ {x:AV} {v:Value},VR X μ s.heap x v→VR X μ s'.heap x v:=fun r=>r.le I L'
 have lens:=ra.length
 have sl:∀ x i,(Z4 fd.scope (yU fd) none).slot x=some i→i<(yF fd.scope (yU fd)).length∧(yF fd.scope (yU fd))[i]? = some x:=fun x i h=>by
  obtain ⟨_,b,c⟩:=ww (show xJ x (yF fd.scope (yU fd)) 0=some i from h)
  exact ⟨by rwa [Nat.zero_add] at b,c⟩
 have val:∀ {i:Nat} {v:AV},(args.map some++List.replicate ((yF fd.scope (yU fd)).length - (yU fd).length) none)[i]? = some (some v)→∃ v',args'[i]? = some v'∧VR X μ s.heap v v'∧i<(yU fd).length:=by
  intro i v h
  by_cases hi:i<args.length
  ·rw [List.getElem?_append_left (by rw [List.length_map];exact hi),List.getElem?_map] at h
   obtain ⟨a,h1,h2⟩:=yC h
   cases h2
   obtain ⟨v',e,r⟩:=ra.get h1
   exact ⟨v',e,r,hl▸hi⟩
  ·rw [List.getElem?_append_right (by rw [List.length_map];exact Nat.not_lt.mp hi)] at h
   exact nos (List.eq_of_mem_replicate (yq h)).symm
 have nam:∀ {i:Nat} {x:Str},i<(yU fd).length→(yF fd.scope (yU fd))[i]? = some x→(yU fd)[i]? = some x:=by
  intro i x hi h
  unfold yF at h
  rwa [List.getElem?_append_left hi] at h
 refine ⟨⟨H.kind,H.glob,H.bltn,fun x=>rfl,⟨_,ns,fun x i v h1 h2 h3=>?_⟩,fun _ x i h1 h2=>?_,nin _ (fresh _ (Nat.le_refl _)),bas _ (fresh _ (Nat.le_refl _)),fun h=>nob h,fun q h=>(nomatch h),fun _ x c hc=>⟨nin _ (fown _ (.inr ⟨rfl,x,hc⟩)),_,cel x c hc⟩,fun _ x c hc=>bas _ (fown _ (.inr ⟨rfl,x,hc⟩)),
  fun _ x y c h1 h2=>name_of_addr ap (mem_of_lookup h1) (mem_of_lookup h2),fun x y i h1 h2=>?_,?_,fun x i h=>(sl x i h).1,fun v hv=>?_⟩,fown,I',L'⟩
 rotate_right
 ·cases hv with
  | head =>
   obtain ⟨o,es,ep,ho,hd,_⟩:=ns
   exact ⟨by show fd.scope.kind≠.module;rw [H.kind];decide,_,o,rfl,bas _ (fresh _ (Nat.le_refl _)),nin _ (fresh _ (Nat.le_refl _)),ho,w9 hd⟩
  | tail _ hv=>exact F.le L' v hv
 ·obtain ⟨v',e,r,hi⟩:=val h3
  exact ⟨v',WL (show (callEnvC fd s.heap.objs.size f).kindOf x=some .local from h1) H.nd (nam hi (sl x i h2).2) e,rl r⟩
 ·have hcell:fd.scope.names.lookup x=some .cell:=by
   rcases h1 with h | h
   ·exact h
   ·have:=H.names _ (mem_of_lookup h)
    rcases this with q | q | q <;> cases q
  obtain ⟨c,hc⟩:=xp (k:=s.heap.objs.size+1) (acc:=[]) (.inl (mem_of_lookup hcell))
  refine ⟨c,_,hc,cel x c hc,fun v hv=>?_⟩
  obtain ⟨v',e,r,hi⟩:=val hv
  exact ⟨v',WN (show (callEnvC fd s.heap.objs.size f).kindOf x≠some .local from fun q=>by rw [show (callEnvC fd s.heap.objs.size f).kindOf x=some .cell from hcell] at q;cases q) H.nd (nam hi (sl x i h2).2) e,rl r⟩
 ·have a:=(sl x i h1).2
  have b:=(sl y i h2).2
  rw [a] at b;cases b;rfl
 ·show _=(yF fd.scope (yU fd)).length
  have:(yU fd).length≤(yF fd.scope (yU fd)).length:=by unfold yF;rw [zX];exact Nat.le_add_right _ _
  rw [zX,List.length_map,List.length_replicate,hl,Nat.add_sub_cancel' this]
theorem z2h {α β:Type} {f:α→Option β} {xs:List α}:∀ {ys:List β},yd f xs=some ys→∀ {y:β},y∈ys→∃ x,x∈xs∧f x=some y:=by
 induction xs with
 | nil=>intro ys h y hy;cases h;cases hy
 | cons a xs ih =>
  intro ys h y hy
  obtain ⟨z,ys',h1,h2,rfl⟩:=wq h
  rcases List.mem_cons.mp hy with rfl | hy
  ·exact ⟨a,.head _,h1⟩
  ·obtain ⟨x,h3,h4⟩:=ih h2 hy
   exact ⟨x,.tail _ h3,h4⟩
theorem Ze {env:Env} (sl:Str→Option Nat) (ap:∀ x y c,env.cells.lookup x=some c→env.cells.lookup y=some c→x=y):∀ (is:List Nat) (fr:AFr) (μ:Mu) (hp:Hp),Inv X μ hp s→is.Nodup→(∀ i∈is,i<fr.length) →
  (∀ i∈is,∃ x c cv,sl x=some i∧env.cells.lookup x=some c∧c∉zh μ∧X.base.get? c=none∧s.heap.IsCell c cv∧∀ v,fr[i]? = some (some v)→∃ v',cv=some v'∧VR X μ s.heap v v') →
  ∃ μ',μ <+: μ'∧Inv X μ' (yu is fr hp).2 s∧(∀ a∈zh μ',a∈zh μ∨∃ x cv,env.cells.lookup x=some a∧s.heap.IsCell a cv)∧(yu is fr hp).1.length=fr.length∧(∀ j,j∉is→(yu is fr hp).1[j]? = fr[j]?) ∧
   ∀ i∈is,∃ x c a,sl x=some i∧env.cells.lookup x=some c∧(yu is fr hp).1[i]? = some (some (.ref a))∧μ'[a]? = some (c,none)
 | [],fr,μ,hp,I,_,_,_=>⟨μ,List.prefix_refl _,I,fun _ h=>.inl h,rfl,fun _ _=>rfl,fun _ h=>nomatch h⟩
 | i::is,fr,μ,hp,I,nd,lt,H=>by
  obtain ⟨nd1,nd2⟩:=List.nodup_cons.mp nd
  obtain ⟨x,c,cv,e1,e2,e3,e4,e5,e6⟩:=H i (.head _)
  have I1:Inv X (μ++[(c,none)]) (hp++[.cell (fr[i]?).join]) s:=I.adopt e3 e4 (.cell e5 fun u hu=>by
   have hu:fr[i]? = some (some u):=by
    cases q:fr[i]? with
    | none=>rw [q] at hu;exact nos hu
    | some o=>rw [q] at hu;exact congrArg some hu
   obtain ⟨v',q1,q2⟩:=e6 u hu
   exact ⟨v',q1,q2.mono (List.prefix_append _ _) fun _ _ e _=>e⟩)
  have ad:∀ a,a∈zh (μ++[(c,none)])→a∈zh μ∨a=c:=fun a h=>by
   rw [xe,List.mem_append] at h
   exact h.imp id fun h=>qV (show a∈[c] from h)
  obtain ⟨μ',p1,p2,p3,p4,p5,p6⟩:=Ze sl ap is (fr.set i (some (.ref hp.length))) (μ++[(c,none)]) (hp++[.cell (fr[i]?).join]) I1 nd2 (fun j hj=>by rw [List.length_set];exact lt j (.tail _ hj)) fun j hj=>by
   obtain ⟨y,c',cv',f1,f2,f3,f4,f5,f6⟩:=H j (.tail _ hj)
   have hne:i≠j:=fun h=>nd1 (h▸hj)
   refine ⟨y,c',cv',f1,f2,fun h=>?_,f4,f5,fun v hv=>?_⟩
   ·rcases ad _ h with h | rfl
    ·exact f3 h
    ·have:=ap x y c' e2 f2
     subst this
     rw [e1] at f1;cases f1;exact hne rfl
   ·rw [List.getElem?_set_ne hne] at hv
    obtain ⟨v',q1,q2⟩:=f6 v hv
    exact ⟨v',q1,q2.mono (List.prefix_append _ _) fun _ _ e _=>e⟩
  refine ⟨μ',(List.prefix_append _ _).trans p1,p2,fun a ha=>?_,by show (yu is _ _).1.length=_;rw [p4,List.length_set],fun j hj=>?_,fun j hj=>?_⟩
  ·rcases p3 a ha with h | h
   ·rcases ad _ h with h | rfl
    ·exact .inl h
    ·exact .inr ⟨x,cv,e2,e5⟩
   ·exact .inr h
  ·show (yu is _ _).1[j]? = _
   rw [p5 j (fun h=>hj (.tail _ h)),List.getElem?_set_ne (fun (h:i=j)=>hj (by rw [h];exact .head _))]
  ·rcases List.mem_cons.mp hj with rfl | hj
   ·refine ⟨x,c,hp.length,e1,e2,?_,?_⟩
    ·show (yu is _ _).1[j]? = _
     rw [p5 j nd1,List.getElem?_set_self (lt j (.head _))]
    ·obtain ⟨r,rfl⟩:=p1
     rw [List.getElem?_append_left (by rw [zX,I.len];exact Nat.lt_succ_self _)]
     exact jt μ _ I.len
   ·exact p6 j hj
theorem z58 {fd:FuncData} {k f:Addr} {q:Str×Addr} (h:Qz fd=some q):(callEnvC fd k f).code=.ref q.2∧(callEnvC fd k f).qual=q.1 ++ ".<locals>." := by
 unfold Qz at h
 split at h
 ·rename_i c hc
  obtain ⟨_,rfl⟩:=zr h
  exact ⟨hc,rfl⟩
 ·exact nos h
theorem z36 {fd:FuncData} {f L:Addr} {fr:AFr} {q:Str×Addr} {is:List Nat} {s:Shared} {K:Frag} (H:FnGood K fd) (hq:Qz fd=some q) (hc:J0 fd=some is) (nd:is.Nodup) (I:Inv X μ hp s) (V:EnvR X l (Z4 fd.scope (yU fd) none) (callEnvC fd L f) fr μ s.heap) :
  ∃ μ',μ <+: μ'∧Inv X μ' (yu is fr hp).2 s∧(∀ a∈zh μ',a∈zh μ∨∃ x,(callEnvC fd L f).cells.lookup x=some a)∧EnvR X l (Z4 fd.scope (yU fd) (some q)) (callEnvC fd L f) (yu is fr hp).1 μ' s.heap:=by
 have nam:∀ i∈is,∃ x,(Z4 fd.scope (yU fd) none).slot x=some i∧fd.scope.names.lookup x=some .cell:=fun i hi=>by
  obtain ⟨x,h1,h2⟩:=z2h hc hi
  obtain ⟨p,h3,rfl⟩:=List.mem_map.mp h1
  exact ⟨p.1,h2,eq_of_beq (List.mem_filter.mp h3).2⟩
 have slt:∀ i∈is,i<fr.length:=fun i hi=>by
  obtain ⟨x,h1,_⟩:=nam i hi
  rw [V.wid];exact V.slt x i h1
 obtain ⟨μ',p1,p2,p3,p4,p5,p6⟩:=Ze (env:=callEnvC fd L f) (Z4 fd.scope (yU fd) none).slot (V.apart rfl) is fr μ hp I nd slt fun i hi=>by
  obtain ⟨x,h1,h2⟩:=nam i hi
  obtain ⟨c,cv,q1,q2,q3⟩:=V.cel rfl x i (.inl h2) h1
  exact ⟨x,c,cv,h1,q1,(V.ncel rfl x c q1).1,V.bcel rfl x c q1,q2,q3⟩
 have out:∀ {b:Addr} {o:Obj},b∉zh μ→s.heap.get? b=some o→isD o=true→b∉zh μ':=fun {b o} n e d h=>by
  rcases p3 b h with h | ⟨x,cv,_,o',ho',hd'⟩
  ·exact n h
  ·rw [e] at ho';cases ho';unfold isD at d;rw [hd'] at d;cases d
 have sub:∀ x,fd.scope.names.lookup x=some .cell→∀ i,(Z4 fd.scope (yU fd) none).slot x=some i→i∈is:=fun x hx i hi=>by
  obtain ⟨j,hj⟩:=List.getElem?_of_mem (List.mem_map.mpr ⟨(x,.cell),List.mem_filter.mpr ⟨xU hx,by rw [hx];rfl⟩,rfl⟩:x∈(fd.scope.names.filter fun p=>fd.scope.names.lookup p.1 == some .cell).map (·.1))
  obtain ⟨i',h1,h2⟩:=YK hc hj
  rw [show xJ x (yF fd.scope (yU fd)) 0=some i from hi] at h2;cases h2
  exact yq h1
 refine ⟨μ',p1,p2,fun a ha=>(p3 a ha).imp id fun ⟨x,_,h,_⟩=>⟨x,h⟩,V.fn,V.glob,V.bltn,V.kind,?_,fun h=>nob h.symm,?_,V.bloc,fun _ x i h1 h2=>?_,fun q' h=>by cases h;exact z58 hq,fun h=>nob h.symm,fun h=>nob h.symm,fun h=>nob h.symm,V.inj,p4.trans V.wid,V.slt,
  V.frs.mono fun b o n e d=>⟨out n e d,o,e,d⟩⟩
 ·obtain ⟨m,ns,hm⟩:=V.loc
  refine ⟨m,ns,fun x i v h1 h2 h3=>?_⟩
  rw [p5 i (fun hi=>by
   obtain ⟨y,y1,y2⟩:=nam i hi
   have:=V.inj x y i h2 y1
   subst this
   rw [show fd.scope.names.lookup x=some .local from h1] at y2;cases y2)] at h3
  obtain ⟨v',e,r⟩:=hm x i v h1 h2 h3
  exact ⟨v',e,r.mono p1 fun _ _ e _=>e⟩
 ·obtain ⟨m,⟨o,es,ep,ho,hd,_⟩,_⟩:=V.loc
  exact out V.nloc ho (w9 hd)
 ·have hx:fd.scope.names.lookup x=some .cell:=by
   rcases h1 with h | h
   ·exact h
   ·rcases H.names _ (mem_of_lookup h) with q | q | q <;> cases q
  obtain ⟨y,c,a,y1,y2,y3,y4⟩:=p6 i (sub x hx i h2)
  have:=V.inj x y i h2 y1
  subst this
  exact ⟨c,a,y2,y3,y4⟩
theorem z2r {l':List Env} {sc:Sc} {env:Env} {μ μ1:Mu} {s s1:Shared} {o:OS} {A:Around} {R:Result→Shared→Prop} {L:Addr} (hl:l'=env::l) (hfr:A.frames=some l') (hf:env.frame=some L) (fin:∀ {μ':Mu} {s':Shared},Le (own sc env) μ1 s1 μ' s'→Le noS μ s μ' s')
  (k:PO X l μ s (match o with
   | .ok (.ret v) _ h'=>.ok v h'
   | .ok .next _ h'=>.ok .none h'
   | .exc _ c _ h'=>.exc c h'
   | .stuck=>.stuck) (fun v s'=>R (.ok (.ret v)) s') (fun e s'=>R (.error e) s')) :
  PS X l' sc env μ1 s1 o (fun fl s'=>R (.ok (.ret (match fl with | .ret v=>v | _=>.none))) s') (fun e s'=>wpAny (model prog w) A (leaving env e) (fun _ s''=>R (.error e) s'') (fun e' s''=>R (.error e') s'') s'):=by
 subst hl
 cases o with
 | stuck=>exact k.elim
 | ok fl fr2 hp2 =>
  intro fl' μ' s' L' I' V' r'
  cases fl with
  | ret u =>
   obtain ⟨u',rfl,ru⟩:=r'.ret_
   exact k _ μ' s' (fin L') I' ru
  | next =>
   rw [r'.next_]
   exact k _ μ' s' (fin L') I' .none
 | exc nw c fr2 hp2 =>
  have k:PC X l μ s c hp2 (fun e s'=>R (.error e) s'):=k
  intro e μ' s' B C hC hfl cl
  have out:∀ {h':Heap} {a0:Value},Heap.FlyingW B l e (.ref C) a0 h'→s'.heap.UpToSlots h'→R (.error (.ref e)) { s' with heap:=h' }:=fun hfl' U =>
   k e μ' _ B C _ hC hfl' fun h6 t g1 g2=>⟨fin (cl h6 t g1 (U.trans g2)).1,(cl h6 t g1 (U.trans g2)).2.1⟩
  cases nw with
  | false =>
   obtain ⟨a0,hfl⟩:=hfl
   exact wpAny_leaves_onW hfr hf hfl fun h' x1 x2=>out x1 x2
  | true =>
   obtain ⟨h0,as,hm,hB,hf'⟩:=hfl
   exact wpAny_leaves_madeW hfr hf hB hf' hm fun h' t x1 _ _ x2=>out x1 x2
theorem jy {f:Addr} {F:Fn} {args:List AV} {args':List Value} (g:Gd X G) (hlo:G.lo=true→n≠0) (hcf:SndCF prog w X n cf) (hF:Yw G X.K f=some F) (hd:A.depth+2 * n+3<recursionLimit) (hu:A.units+100 * n+303<cLine) (hh:n≠0→A.handled=none) (hfr:A.frames=some l) (Fr:Frs X l μ s.heap)
  (I:Inv X μ hp s) (ra:VRs X μ s.heap args args') {R:Result→Shared→Prop} (k:PO X l μ s (yW F cf args hp) (fun v s'=>R (.ok (.ret v)) s') (fun e s'=>R (.error e) s')):codeAny (model prog w) A (.call (.ref f) ⟨args',[]⟩) R s:=by
 obtain ⟨o,fd,body,ho,hdt,hg,hbody,rfl⟩:=Jc hF
 have H:=z0j hg
 by_cases hl:args.length=(yU fd).length
 ·rw [show yW (z5g G fd body) cf args hp=_ from if_pos hl] at k
  have lens:=ra.length
  have hbind:=j3 (vals:=args') H.p1 H.p2 H.p3 H.p4 H.p5 H.nd (by rw [← hl];exact lens)
  have hk:∀ y∈(yU fd).zip args',fd.scope.names.lookup y.1=some .local∨(fd.scope.names.lookup y.1=some .cell∧((cellsFrom (s.heap.objs.size+1) fd.scope.names []).lookup y.1).isSome=true):=fun y hy=>by
   rcases H.par y.1 (List.of_mem_zip hy).1 with q | q
   ·exact .inl q
   ·obtain ⟨c,hc⟩:=xp (k:=s.heap.objs.size+1) (acc:=[]) (.inl (mem_of_lookup q))
    exact .inr ⟨q,by rw [hc];rfl⟩
  refine codeAny_call_cells (Nat.lt_of_le_of_lt (Nat.le_trans (Nat.le_add_right _ _) (Nat.le_add_right _ 3)) hd) (I.kin g.K _ _ ho) hdt (g.lim.keeps I.keep) (codeRec_of (I.kin g.K) H.code) hbody hbind H.clo hk (fun s₁ x=>?_) H.co H.gen H.kind
  obtain ⟨V1,fo,I1,L1⟩:=z5j H I ra hl Fr x
  have R1:Room n (A.deeper (callEnvC fd s.heap.objs.size f)) (callEnvC fd s.heap.objs.size f::l):=⟨Around.frames_deeper hfr,by show A.depth+1+2 * n+2<_;rw [Nat.add_right_comm A.depth];exact hd,by show A.units+3+100 * n+300<_;rw [Nat.add_right_comm A.units];exact hu,hh⟩
  have k:PO X l μ s (match qo G fd body cf (args.map some++List.replicate ((yF fd.scope (yU fd)).length - (yU fd).length) none) hp with
   | .ok (.ret v) _ h'=>.ok v h'
   | .ok .next _ h'=>.ok .none h'
   | .exc _ c _ h'=>.exc c h'
   | .stuck=>.stuck) (fun v s'=>R (.ok (.ret v)) s') (fun e s'=>R (.error e) s'):=k
  cases hw:Qz fd with
  | none =>
   rw [show qo G fd body=dSs G 60 (Z4 fd.scope (yU fd) none) body from by unfold qo;rw [hw]] at k
   exact (WI g hlo hcf 60).2 _ _ _ ⟨l,rfl,rfl⟩ R1 I1 V1 (z2r rfl R1.frames rfl (fun L=>L1.fresh1 L fo) k)
  | some q =>
   cases hc:J0 fd with
   | none=>rw [show qo G fd body=yB from by unfold qo;rw [hw];dsimp only;rw [hc]] at k;exact k.elim
   | some is =>
   by_cases nd:is.Nodup
   case neg=>rw [show qo G fd body=yB from by unfold qo;rw [hw];dsimp only;rw [hc];exact if_neg nd] at k;exact k.elim
   rw [show qo G fd body=wG is (dSs G 60 (Z4 fd.scope (yU fd) (some q)) body) from by unfold qo;rw [hw];dsimp only;rw [hc];exact if_pos nd] at k
   obtain ⟨μ2,p1,I2,p3,V2⟩:=z36 H hw hc nd I1 V1
   have L2:Le noS μ s μ2 s₁:=⟨L1.pre.trans p1,fun a ha=>by
    rcases p3 a ha with h | ⟨x,h⟩
    ·exact L1.fresh a h
    ·exact .inr (fo a (.inr ⟨rfl,x,h⟩)),L1.exist,L1.keep⟩
   refine (WI g hlo hcf 60).2 _ _ _ ⟨l,rfl,rfl⟩ R1 I2 V2 (z2r rfl R1.frames rfl (fun L=>L2.fresh1 L fun b hb=>?_) k)
   rcases hb with h | ⟨h,_⟩
   ·exact fo b (.inl h)
   ·exact nob h.symm
 ·rw [show yW (z5g G fd body) cf args hp=_ from if_neg hl] at k;exact k.elim
end
end Mine
end
end
section
noncomputable section
namespace Mine
open PySem PySem.W PySem.Calls PyProof.Rows
noncomputable def W2 (sp:Scope):Sc where
 kind:=fun x=>sp.names.lookup x
 slot:=fun x=>match sp.names.lookup x with
  | some .free=>xJ x (zv sp) 0
  | _=>none
 width:=(zv sp).length
 fl:=true
 law:=none
noncomputable def JX (l:LamS):Bool:=l.sp.kind == .function && !l.sp.isCoroutine && !l.sp.isGenerator && l.sp.names.all (fun p=>!(p.2 == .cell)) && jD l.ar && l.ar.args.all fun a=>l.sp.names.lookup a.arg == some .local
noncomputable def zGc (G:GTab) (l:LamS):Option XE:=if JX l=true then some (yL (zv l.sp).length (dE G 60 (W2 l.sp) l.body)) else none
theorem z3o {s:Shared} {fd:FuncData} {a:Arg} {T:Addr} {v:Value} (h1:fd.params.posonlyargs=[]) (h2:fd.params.kwonlyargs=[]) (h3:fd.params.vararg=none) (h4:fd.params.kwarg=none) (h5:fd.params.args=[a]) (hd:fd.defaults=.ref T) (ho:s.heap.get? T=some (kdv_tup [v])):BindsTo s fd ⟨[],[]⟩ [(a.arg,v)]:=by
 obtain ⟨nm,q,⟨po,ar,va,ko,kd,kw,df⟩,bd,sc,gl,cl,d,kdf,doc,pm,an,cd,ct,bl⟩:=fd
 dsimp only at h1 h2 h3 h4 h5 hd
 subst h1 h2 h3 h4 h5 hd
 refine BindsTo.of_defaults rfl ho rfl rfl ?_
 simp
section
variable {prog:Program} {w:World} {X:Cx} {G:GTab} {n:Nat} {cf:CF} {μ:Mu} {hp:Hp} {s:Shared} {l:List Env} {A:Around}
theorem z59 {lm:LamS} {cs:List Nat} {cl:List (Str×Addr)} {L f:Addr} {cv:Value} {q:Str} {m:Str→Option Value} {h:Heap} (hk:lm.sp.kind=.function) (hlen:cs.length=(zv lm.sp).length)
  (clo:∀ (j:Nat) (x:Str),(zv lm.sp)[j]? = some x→∃ (c:Addr) (a:Nat),cl.lookup x=some c∧cs[j]? = some a∧μ[a]? = some (c,none)) (F:Frs X l μ h) (ns:h.Ns L m) (hL:L∉zh μ) (hB:X.base.get? L=none) :
  EnvR X (newEnv lm.sp L mainGlobals cl q (some f) cv none builtinsNs::l) (W2 lm.sp) (newEnv lm.sp L mainGlobals cl q (some f) cv none builtinsNs) ((cs.map AV.ref).map some) μ h:=by
 have slF:∀ x i,(W2 lm.sp).slot x=some i→lm.sp.names.lookup x=some .free∧(zv lm.sp)[i]? = some x∧i<(zv lm.sp).length:=fun x i e=>by
  have e:(match lm.sp.names.lookup x with
   | some .free=>xJ x (zv lm.sp) 0
   | _=>none)=some i:=e
  cases q:lm.sp.names.lookup x with
  | none=>rw [q] at e;exact nos e
  | some k =>
   rw [q] at e
   cases k with
   | free =>
    obtain ⟨_,b,c⟩:=ww (show xJ x (zv lm.sp) 0=some i from e)
    exact ⟨rfl,c,by rwa [Nat.zero_add] at b⟩
   | _=>exact nos e
 refine ⟨hk,rfl,rfl,fun x=>rfl,⟨m,ns,fun x i v e1 e2 _=>?_⟩,fun h=>nob h.symm,hL,hB,fun _ x i e1 e2=>?_,fun q e=>(nomatch e),fun h=>nob h.symm,fun h=>nob h.symm,fun h=>nob h.symm,fun x y i h1 h2=>?_,by rw [List.length_map,List.length_map];exact hlen,fun x i e=>(slF x i e).2.2,fun v hv=>?_⟩
 ·have:=(slF x i e2).1
  rw [show lm.sp.names.lookup x=some .local from e1] at this;cases this
 ·obtain ⟨f1,f2,_⟩:=slF x i e2
  obtain ⟨c,a,q1,q2,q3⟩:=clo i x f2
  exact ⟨c,a,q1,by rw [List.getElem?_map,List.getElem?_map,q2];rfl,q3⟩
 ·have a:=(slF x i h1).2.1
  have b:=(slF y i h2).2.1
  rw [a] at b;cases b;rfl
 ·cases hv with
  | head =>
   obtain ⟨o,es,ep,ho,hd,_⟩:=ns
   exact ⟨by show lm.sp.kind≠.module;rw [hk];decide,L,o,rfl,hB,hL,ho,w9 hd⟩
  | tail _ hv=>exact F v hv
theorem z2s {lm:LamS} {cs:List Nat} {f:Addr} {x:XE} {R:Result→Shared→Prop} (g:Gd X G) (hlo:G.lo=true→n≠0) (hcf:SndCF prog w X n cf) (hx:zGc G lm=some x) (r:WQ μ s.heap lm cs f) (I:Inv X μ hp s) (F:Frs X l μ s.heap)
  (hd:A.depth+2 * n+3<recursionLimit) (hu:A.units+100 * n+303<cLine) (hh:n≠0→A.handled=none) (hfr:A.frames=some l)
  (k:PO X l μ s (x cf ((cs.map AV.ref).map some) hp) (fun v s'=>R (.ok (.ret v)) s') (fun e s'=>R (.error e) s')):codeAny (model prog w) A (.call (.ref f) ⟨[],[]⟩) R s:=by
 obtain ⟨hg,rfl⟩:=zr hx
 have k:PO X l μ s (if ((cs.map AV.ref).map some).length=(zv lm.sp).length then dE G 60 (W2 lm.sp) lm.body cf ((cs.map AV.ref).map some) hp else .stuck) (fun v s'=>R (.ok (.ret v)) s') (fun e s'=>R (.error e) s'):=k
 by_cases hlen:((cs.map AV.ref).map some).length=(zv lm.sp).length
 case neg=>rw [if_neg hlen] at k;exact k.elim
 rw [if_pos hlen] at k
 rw [List.length_map,List.length_map] at hlen
 unfold JX at hg
 simp only [Bool.and_eq_true,beq_iff_eq,Bool.not_eq_true',List.all_eq_true] at hg
 obtain ⟨⟨⟨⟨⟨o1,o2⟩,o3⟩,o4⟩,o5⟩,o6⟩:=hg
 obtain ⟨a1,a2,a3,a4,a5,a6⟩:=YU o5
 obtain ⟨cl,dv,doc,pm,cv,ctv,ho,hcd,hdf,clo⟩:=r
 have bd:∃ binds:List (Str×Value),BindsTo s (kdv_fn "<lambda>" (ZC lm.q) lm.ar (.expr lm.body) lm.sp cl dv doc pm cv ctv) ⟨[],[]⟩ binds∧∀ y∈binds,lm.sp.names.lookup y.1=some .local:=by
  rcases hdf with ⟨d1,rfl⟩ | ⟨T,v,d1,rfl,d2⟩
  ·have e1:lm.ar.args=[]:=by
    rcases a6 with ⟨e,_⟩ | ⟨p,i,kk,ps,_,e⟩
    ·exact e
    ·rw [d1] at e;cases e
   refine ⟨[],.of_eq ?_,fun y hy=>nomatch hy⟩
   rw [j3 (vals:=[]) a1 a2 a4 a5 rfl (by unfold yU;rw [show (kdv_fn "<lambda>" (ZC lm.q) lm.ar (.expr lm.body) lm.sp cl .none doc pm cv ctv).params.args=[] from e1];exact List.nodup_nil) (by unfold yU;rw [show (kdv_fn "<lambda>" (ZC lm.q) lm.ar (.expr lm.body) lm.sp cl .none doc pm cv ctv).params.args=[] from e1];rfl),List.zip_nil_right]
  ·rcases a6 with ⟨_,e⟩ | ⟨p,i,kk,ps,e,_⟩
   ·rw [e] at d1;cases d1
   ·refine ⟨[(p.arg,v)],z3o a1 a2 a4 a5 e rfl d2,fun y hy=>?_⟩
    rw [qV hy]
    exact o6 p (by rw [e];exact .head _)
 obtain ⟨binds,hb,hl⟩:=bd
 refine kla_callFunE (by lia) ho rfl o2 o3 rfl hcd.rec_ (hb _ _ _ _ ?_)
 refine wpAny_newFunctionEnv (fun x hx e=>by have:=o4 x hx;rw [e] at this;exact nob this.symm) hl (fun h₁ hns hsb=>⟨(g.lim.keeps I.keep).fresh _ hsb,?_⟩) o1
 have hk₁:∀ b o,s.heap.get? b=some o→h₁.get? b=some o:=fun b o e=>hsb.extBut b o (Nat.ne_of_lt (Heap.lt_size e)) (Heap.get?_push_of_some _ e)
 have fresh:=xm s.heap
 have nin:s.heap.objs.size∉zh μ:=fun q=>by
  obtain ⟨o,ho,_⟩:=I.mut q;rw [fresh] at ho;cases ho
 have bas:X.base.get? s.heap.objs.size=none:=by
  cases q:X.base.get? s.heap.objs.size with
  | none=>rfl
  | some o=>have:=I.keep _ o q;rw [fresh] at this;cases this
 have L1:Le noS μ s μ { s with heap:=h₁,toks:=s.toks+binds.length }:=.grow hk₁
 have I1:Inv X μ hp { s with heap:=h₁,toks:=s.toks+binds.length }:=I.grow hk₁
 have VL:=z59 (f:=f) (cv:=cv) (q:=ZC lm.q ++ ".<locals>.") o1 hlen clo (F.le L1) hns nin bas
 have R1:Room n (A.deeper (newEnv lm.sp s.heap.objs.size mainGlobals cl (ZC lm.q ++ ".<locals>.") (some f) cv none builtinsNs)) (newEnv lm.sp s.heap.objs.size mainGlobals cl (ZC lm.q ++ ".<locals>.") (some f) cv none builtinsNs::l) :=
  ⟨Around.frames_deeper hfr,by show A.depth+1+2 * n+2<_;lia,by show A.units+3+100 * n+300<_;lia,hh⟩
 refine kla_codeExpr ((Q7 g hlo hcf 60).1 _ _ _ R1 I1 VL ?_)
 cases q:dE G 60 (W2 lm.sp) lm.body cf ((cs.map AV.ref).map some) hp with
 | stuck=>rw [q] at k;exact k.elim
 | ok v h2=>rw [q] at k;exact fun v' μ' s' L' I' r'=>k v' μ' s' (L1.trans L') I' r'
 | exc c h2 =>
  rw [q] at k
  have k:PC X l μ s c h2 (fun e s'=>R (.error e) s'):=k
  intro e μ' s' B C a0 hC hfl cl'
  refine wpAny_leaves_onW R1.frames rfl hfl fun h' x1 x2=>k e μ' _ B C _ hC x1 fun h6 t g1 g2=>?_
  obtain ⟨q1,q2⟩:=cl' h6 t g1 (x2.trans g2)
  exact ⟨L1.trans q1,q2⟩
end
end Mine
end
end
section
noncomputable section
namespace Mine
open PySem PySem.W PySem.Calls
noncomputable def z3u:List (Str×Bi):=[("len",.len),("isinstance",.isinstance),("int",.int),("bool",.bool),("str",.str),("list",.list),("range",.range),("min",.min),("max",.max),("any",.any),("all",.all),("enumerate",.enumerate),("sorted",.sorted),("ValueError",.valErr)]
theorem z3t:∀ p∈z3u,bootBuiltins p.1=some (jR p.2)∧p.1 ≠ "__name__" := by
 have h:z3u.all (fun p=>bootBuiltins p.1 == some (jR p.2) && p.1 != "__name__")=true:=by decide +kernel
 intro p hp
 have:=List.all_eq_true.mp h p hp
 simp only [Bool.and_eq_true,beq_iff_eq,bne_iff_ne] at this
 exact this
noncomputable def zHk:Data→Option Bool
 | .func _=>some true
 | .cls _=>some false
 | _=>none
noncomputable def zGf (K:Frag) (x:Str):Value→Option AV
 | .ref f=>(K.lookup f).bind fun o=>(zHk o.data).map fun b=>if b=true then .fn x else .cls x
 | .int i _=>some (.int i)
 | .str s _=>if s.length≤small then some (.str s) else none
 | _=>none
noncomputable def Ws (K:Frag) (x:Str):Option AV:=match nsIn K mainGlobals x with
 | some o=>(match o with
  | some v=>zGf K x v
  | none=>(z3u.lookup x).map .bi)
 | none=>none
noncomputable def zI5 (K:Frag) (c name:Str):Bool:=match nsR K c with
 | some C=>xo K C && jG K C name
 | none=>false
noncomputable def zJx (K:Frag) (x:Str):Bool:=match nsR K x with
 | some C=>excIn K C [.type "ValueError",.type "Exception",.type "BaseException",.type "object"] "ValueError.__new__"
 | none=>false
noncomputable def zJf (K:Frag) (x y:Str):Bool:=((nsR K x).bind fun C=>(nsR K y).bind fun D=>exmOne K (.ref C) (.ref D)) == some true
noncomputable def qa (K:Frag) (q:Str):Option Addr:=(nsR K q).bind fun f=>(K.lookup f).bind fun o=>(zHf o.data).bind fun fd=>z4r fd.code
noncomputable def gAt (K:Frag) (lo:Bool):GTab:=⟨Ws K,zI5 K,zJx K,zJf K,zGe K,lo,fun q=>if yV.contains q=true then qa K q else none,fun q=>xJ q yV 0⟩
noncomputable abbrev gOf (K:Frag):GTab:=gAt K true
noncomputable def y5 (K:Frag):Tab where
 what:=fun x=>(nsR K x).bind fun f=>(K.lookup f).bind fun o=>(zHk o.data).bind fun b=>match b with
  | true=>(Yw (gOf K) K f).map .fn
  | false=>if (makesIn K f && xo K f)=true then some .cls else none
 meth:=fun c x=>(nsR K c).bind fun C=>(findIn K (.ref C) x).bind fun o=>o.bind fun v=>(z4r v).bind fun f=>if (typeIn K (.ref f) == some (.type "function"))=true then Yw (gOf K) K f else none
 lam:=zGc (gOf K)
 word:=fun x=>(nsR K x).bind fun f=>Yw (gAt K false) K f
theorem zJa {X:Cx} (hK:X.K.In X.base) (top:∃ mg mb,X.base.Ns mainGlobals mg∧X.base.Ns builtinsNs mb∧∀ x:Str,x ≠ "__name__" → mb x=bootBuiltins x) (lim:X.base.NoLimit)
  (ex:∀ x C,nsIn X.K mainGlobals x=some (some (.ref C))→excIn X.K C [.type "ValueError",.type "Exception",.type "BaseException",.type "object"] "ValueError.__new__" = true→∃ mg,PyProof.Rows.OwnCls x C [.type "ValueError",.type "Exception",.type "BaseException",.type "object"] "ValueError.__new__" mg X.base)
  (tb:∀ q c,yV.contains q=true→qa X.K q=some c→CodeHd X.base c (X.tabP q)∧∃ mg,X.base.Ns mainGlobals mg∧X.base.BuiltinsAt mg (X.tabP q)) (lo:Bool):Gd X (gAt X.K lo) where
 isx:=fun _ _ _ h=>h
 code:=fun q c h=>let ⟨a,b⟩:=wM (show (if yV.contains q=true then qa X.K q else none)=some c from h);tb q c a b
 K:=hK
 top:=top
 lim:=lim
 glob:=by
  intro x v h
  have h:Ws X.K x=some v:=h
  unfold Ws at h
  cases hn:nsIn X.K mainGlobals x with
  | none=>rw [hn] at h;exact nos h
  | some o =>
   rw [hn] at h
   cases o with
   | none =>
    obtain ⟨b,hb,rfl⟩:=yC h
    obtain ⟨q1,q2⟩:=z3t _ (xU hb)
    exact ⟨jR b,.inr ⟨rfl,q1,q2⟩,fun μ h=>.bi b⟩
   | some c =>
    refine ⟨c,.inl rfl,?_⟩
    have h:zGf X.K x c=some v:=h
    cases c with
    | int i t=>cases h;exact fun μ h=>.int _ _
    | str y t =>
     obtain ⟨z,rfl⟩:=zr (show (if y.length≤small then some (AV.str y) else none)=some v from h)
     exact fun μ h=>.str _ z
    | ref f =>
     obtain ⟨o,ho,h⟩:=zf (show ((X.K.lookup f).bind fun o=>(zHk o.data).map fun b=>if b=true then AV.fn x else .cls x)=some v from h)
     obtain ⟨b,hb,rfl⟩:=yC h
     cases b with
     | true=>exact fun μ h=>.fn hn
     | false=>exact fun μ h=>.cls hn
    | _=>exact nos h
 exc:=by
  intro x h
  have h:(match nsR X.K x with
   | some C=>excIn X.K C [.type "ValueError",.type "Exception",.type "BaseException",.type "object"] "ValueError.__new__"
   | none=>false)=true:=h
  cases q:nsR X.K x with
  | none=>rw [q] at h;exact nob h
  | some C =>
   rw [q] at h
   obtain ⟨mg,O⟩:=ex x C (qm q) h
   exact ⟨C,mg,qm q,O⟩
 exm:=by
  intro x y h
  obtain ⟨C,h1,h⟩:=zf (beq_iff_eq.mp (show (((nsR X.K x).bind fun C=>(nsR X.K y).bind fun D=>exmOne X.K (.ref C) (.ref D)) == some true)=true from h))
  obtain ⟨D,h2,h⟩:=zf h
  exact ⟨C,D,qm h1,qm h2,h⟩
 okf:=by
  intro c name h
  have h:(match nsR X.K c with
   | some C=>xo X.K C && jG X.K C name
   | none=>false)=true:=h
  cases q:nsR X.K c with
  | none=>rw [q] at h;exact nob h
  | some C=>rw [q] at h;exact ⟨C,qm q,Bool.and_eq_true_iff.mp h⟩
theorem ZF {G:GTab} {K:Frag} {f:Addr} {F:Fn} (h:Yw G K f=some F):keepIn K (.ref f)=true:=by
 obtain ⟨⟨oc,od,dd,sl⟩,fd,b,h1,h2,_⟩:=Jc h
 cases h2
 unfold keepIn
 dsimp only
 rw [h1]
theorem JC {K:Frag} {x:Str} {wt:What} (h:(y5 K).what x=some wt):∃ f,nsIn K mainGlobals x=some (some (.ref f))∧((∃ F,Yw (gOf K) K f=some F∧wt=.fn F)∨(makesIn K f=true∧xo K f=true∧wt=.cls)):=by
 obtain ⟨f,h1,h⟩:=zf h
 obtain ⟨o,h2,h⟩:=zf h
 obtain ⟨b,h3,h⟩:=zf h
 refine ⟨f,qm h1,?_⟩
 cases b with
 | true=>obtain ⟨F,h4,rfl⟩:=yC h;exact .inl ⟨F,h4,rfl⟩
 | false=>obtain ⟨h4,rfl⟩:=zr h;obtain ⟨a,b⟩:=Bool.and_eq_true_iff.mp h4;exact .inr ⟨a,b,rfl⟩
theorem JB {K:Frag} {x:Str} {f:Addr} {F:Fn} (h:(y5 K).what x=some (.fn F)) (hf:nsIn K mainGlobals x=some (some (.ref f))):Yw (gOf K) K f=some F:=by
 obtain ⟨f',q,⟨F',a,b⟩ | ⟨_,_,b⟩⟩:=JC h
 ·rw [hf] at q;cases q;cases b;exact a
 ·cases b
theorem QI {K:Frag} {x:Str} {f:Addr} (h:(y5 K).what x=some .cls) (hf:nsIn K mainGlobals x=some (some (.ref f))):makesIn K f=true∧xo K f=true:=by
 obtain ⟨f',q,⟨F',a,b⟩ | ⟨a,b,_⟩⟩:=JC h
 ·cases b
 ·rw [hf] at q;cases q;exact ⟨a,b⟩
theorem jr {K:Frag} {c x:Str} {F:Fn} (h:(y5 K).meth c x=some F):∃ C f,nsIn K mainGlobals c=some (some (.ref C))∧findIn K (.ref C) x=some (some (.ref f))∧typeIn K (.ref f)=some (.type "function")∧Yw (gOf K) K f=some F:=by
 obtain ⟨C,h1,h⟩:=zf h
 obtain ⟨o,h2,h⟩:=zf h
 obtain ⟨v,h3,h⟩:=zf h
 obtain ⟨f,h4,h⟩:=zf h
 obtain ⟨h5,h⟩:=wM h
 exact ⟨C,f,qm h1,by rw [h2,h3,JN h4],eq_of_beq h5,h⟩
theorem Wm {K:Frag} {C:Addr} (h:makesIn K C=true):keepIn K (.ref C)=true:=by
 unfold makesIn at h
 cases ho:K.lookup C with
 | none=>rw [ho] at h;exact nob h
 | some o =>
  rw [ho] at h
  obtain ⟨oc,od,dd,sl⟩:=o
  cases dd with
  | cls cd =>
   have h:=(Bool.and_eq_true_iff.mp (Bool.and_eq_true_iff.mp h).1).2
   unfold keepIn
   dsimp only
   rw [ho]
   exact h
  | _=>exact nob h
theorem cf0 {prog:Program} {w:World} {X:Cx} {n:Nat}:SndCF prog w X n (fun _ _ _=>.stuck):=⟨fun _ _ _ _ _ k=>k.elim,fun _ _ _ _ k=>k.elim,fun _ _ _ _ _ _ _ k=>k.elim,fun h=>absurd rfl h,fun h=>absurd rfl h,fun h=>absurd rfl h,fun h=>absurd rfl h⟩
theorem XW {K:Frag} {x:Str} {F:Fn} (h:(y5 K).word x=some F):∃ f,nsIn K mainGlobals x=some (some (.ref f))∧Yw (gAt K false) K f=some F:=by
 obtain ⟨f,h1,h2⟩:=zf h
 exact ⟨f,qm h1,h2⟩
theorem X2 {prog:Program} {w:World} {X:Cx} (gg:∀ lo,Gd X (gAt X.K lo)):∀ n,SndCF prog w X (n+1) (run (y5 X.K) n)
 | 0=>cf0
 | n+1=>by
  have ih:=X2 (prog:=prog) (w:=w) gg n
  have g:=gg true
  have hlo:(gOf X.K).lo=true→n+1≠0:=fun _=>Nat.succ_ne_zero _
  have wd:∀ {x:Str} {args:List AV} {hp:Hp} {A:Around} {l:List Env} {μ:Mu} {s:Shared} {Q:Value→Shared→Prop} {E:Value→Shared→Prop} {f:Addr} {args':List Value},
    A.frames=some l→A.depth+3<recursionLimit→A.units+303<cLine→Frs X l μ s.heap→Inv X μ hp s→nsIn X.K mainGlobals x=some (some (.ref f))→VRs X μ s.heap args args'→PO X l μ s (run (y5 X.K) (n+1) (.word x) args hp) Q E→wpAny (model prog w) A (call (.ref f) args') Q E s:=by
   intro x args hp A l μ s Q E f args' Rf Rd Ru F I hc ra k
   have k:PO X l μ s (match (y5 X.K).word x with
    | some f=>yW f (fun _ _ _=>.stuck) args hp
    | none=>.stuck) Q E:=k
   cases hF:(y5 X.K).word x with
   | none=>rw [hF] at k;exact k.elim
   | some F' =>
    rw [hF] at k
    obtain ⟨f',h1,h2⟩:=XW hF
    rw [hc] at h1;cases h1
    exact wpAny_call (jy (n:=0) (gg false) (fun h=>nob h) cf0 h2 (by lia) (by lia) (fun h=>absurd rfl h) Rf F I ra k)
  refine ⟨?_,?_,wd,?_,?_,?_,?_⟩
  ·intro c args hp A l μ s Q E f args' R F I hc ra k
   have hd:=R.depth
   have hu:=R.units
   have hh:n+1≠0→A.handled=none:=fun _=>R.handled (Nat.succ_ne_zero _)
   cases c with
   | fn x =>
    have k:PO X l μ s (match (y5 X.K).what x with
     | some (.fn f)=>yW f (run (y5 X.K) n) args hp
     | _=>.stuck) Q E:=k
    cases hF:(y5 X.K).what x with
    | none=>rw [hF] at k;exact k.elim
    | some wt =>
    rw [hF] at k
    cases wt with
    | cls=>exact k.elim
    | fn F' =>
     exact wpAny_call (jy g hlo ih (JB hF hc) (by lia) (by lia) hh R.frames F I ra k)
   | meth c x =>
    have k:PO X l μ s (match (y5 X.K).meth c x with
     | some f=>yW f (run (y5 X.K) n) args hp
     | none=>.stuck) Q E:=k
    cases hF:(y5 X.K).meth c x with
    | none=>rw [hF] at k;exact k.elim
    | some F' =>
     rw [hF] at k
     obtain ⟨C,f',h1,h2,h3,h4⟩:=jr hF
     obtain ⟨C',q1,q2,q3⟩:=hc
     rw [h1] at q1;cases q1
     rw [h2] at q2;cases q2
     exact wpAny_call (jy g hlo ih h4 (by lia) (by lia) hh R.frames F I ra k)
   | has=>exact hc.elim
   | lam=>exact hc.elim
   | word x=>exact wd R.frames (by lia) (by lia) F I hc ra k
   | cls x =>
    have k:PO X l μ s (match (y5 X.K).what x with
     | some .cls=>(match (y5 X.K).meth x "__init__" with
      | some f=>(yW f (run (y5 X.K) n) (.ref hp.length::args) (hp++[AO.inst x []])).bind fun v h'=>(match v with
       | .none=>.ok (AV.ref hp.length) h'
       | _=>.stuck)
      | none=>.stuck)
     | _=>.stuck) Q E:=k
    cases hw:(y5 X.K).what x with
    | none=>rw [hw] at k;exact k.elim
    | some wt =>
    rw [hw] at k
    cases wt with
    | fn _=>exact k.elim
    | cls =>
     dsimp only at k
     cases hF:(y5 X.K).meth x "__init__" with
     | none=>rw [hF] at k;exact k.elim
     | some F' =>
      rw [hF] at k
      obtain ⟨C,fI,k1,k2,k3,k4⟩:=jr hF
      have hc:nsIn X.K mainGlobals x=some (some (.ref f)):=hc
      rw [hc] at k1;cases k1
      obtain ⟨m1,m2⟩:=QI hw hc
      have KI:=I.kin g.K
      obtain ⟨hh',gg,dd,tt,oo⟩:=s
      refine wpAny_call (make_core (makes_of KI m1) (looks_findIn KI k2) (fun self=>bind_fn KI self k3) (.inl rfl) ?_)
      have kp:∀ b o,hh'.get? b=some o→((hh'.push emptyDict).push (instObj f hh'.objs.size)).get? b=some o:=fun b o e=>Heap.get?_push_of_some _ (Heap.get?_push_of_some _ e)
      have fr:∀ b,hh'.objs.size≤b→hh'.get? b=none:=fun b hb=>by
       cases q:hh'.get? b with
       | none=>rfl
       | some o=>exact absurd (Heap.lt_size q) (Nat.not_lt.mpr hb)
      have gx:((hh'.push emptyDict).push (instObj f hh'.objs.size)).get? (hh'.objs.size+1)=some (instObj f hh'.objs.size):=by
       have:=Heap.get?_push_size (hh'.push emptyDict) (o:=instObj f hh'.objs.size) rfl
       rwa [Heap.size_push] at this
      have gd:((hh'.push emptyDict).push (instObj f hh'.objs.size)).get? hh'.objs.size=some emptyDict:=Heap.get?_push_of_some _ (Heap.get?_push_size _ rfl)
      have hp0:OR X (μ++[(hh'.objs.size+1,some hh'.objs.size)]) ((hh'.push emptyDict).push (instObj f hh'.objs.size)) (.inst x []) (hh'.objs.size+1,some hh'.objs.size) :=
       .inst hc gx (show _=some (dictOf [] 0) from gd) .nil m2 (fun p hp=>by cases hp) (by simp)
      obtain ⟨I1,L1⟩:=I.new (s:=⟨hh',gg,dd,tt,oo⟩) (t:=tt) (h':=(hh'.push emptyDict).push (instObj f hh'.objs.size)) kp (fun b hb=>by
       cases hb with
       | head=>exact fr _ (Nat.le_succ _)
       | tail _ hb=>cases hb with
        | head=>exact fr _ (Nat.le_refl _)
        | tail _ hb=>cases hb) (by simp [ads]) hp0
      have rs:VR X (μ++[(hh'.objs.size+1,some hh'.objs.size)]) ((hh'.push emptyDict).push (instObj f hh'.objs.size)) (.ref hp.length) (.ref (hh'.objs.size+1)):=.ref (p:=(hh'.objs.size+1,some hh'.objs.size)) (by rw [← I.len];simp)
      refine jy (A:=A.under (.builtin "type.__call__" ⟨.ref f::args',[]⟩)) (s:=⟨(hh'.push emptyDict).push (instObj f hh'.objs.size),gg,dd,tt,oo⟩) g hlo ih k4 ?_ ?_ hh (show A.frames=_ from R.frames) (F.le L1) I1 (.cons rs (ra.mono (List.prefix_append _ _) fun b o e _=>kp b o e))
       (PG.bind (PG.le k L1) fun v v' h1 μ' s' L' I' r' k=>?_)
      ·show A.depth+1+2 * (n+1)+3<_;lia
      ·show A.units+1+100 * (n+1)+303<_;lia
      ·cases v with
       | none =>
        rw [r'.none_]
        exact ⟨rfl,k _ μ' s' .refl I' (rs.mono L'.pre (L'.fixed I1 fun _ _ h=>h.elim))⟩
       | _=>exact k.elim
  ·intro lm cs hp A l μ s Q E f R F I r k
   have hd:=R.depth
   have hu:=R.units
   have k:PO X l μ s (match (y5 X.K).lam lm with
    | some x=>x (run (y5 X.K) n) ((cs.map AV.ref).map some) hp
    | none=>.stuck) Q E:=k
   cases hx:(y5 X.K).lam lm with
   | none=>rw [hx] at k;exact k.elim
   | some x =>
    rw [hx] at k
    exact wpAny_call (z2s g hlo ih hx r I F (by lia) (by lia) (fun _=>R.handled (Nat.succ_ne_zero _)) R.frames k)
  ·intro x args hp e
   have e:(match (y5 X.K).word x with
    | some f=>yW f (fun _ _ _=>.stuck) args hp
    | none=>.stuck)≠.stuck:=e
   cases hF:(y5 X.K).word x with
   | none=>rw [hF] at e;exact absurd rfl e
   | some F=>obtain ⟨f,h,_⟩:=XW hF;exact ⟨f,h⟩
  ·intro c args hp f e hc
   cases c with
   | fn x =>
    have e:(match (y5 X.K).what x with
     | some (.fn f)=>yW f (run (y5 X.K) n) args hp
     | _=>.stuck)≠.stuck:=e
    cases hF:(y5 X.K).what x with
    | none=>rw [hF] at e;exact absurd rfl e
    | some wt =>
     rw [hF] at e
     cases wt with
     | cls=>exact absurd rfl e
     | fn F=>exact ZF (JB hF hc)
   | meth c x =>
    have e:(match (y5 X.K).meth c x with
     | some f=>yW f (run (y5 X.K) n) args hp
     | none=>.stuck)≠.stuck:=e
    cases hF:(y5 X.K).meth c x with
    | none=>rw [hF] at e;exact absurd rfl e
    | some F =>
     obtain ⟨C,f',h1,h2,h3,h4⟩:=jr hF
     obtain ⟨C',q1,q2,q3⟩:=hc
     rw [h1] at q1;cases q1
     rw [h2] at q2;cases q2
     exact ZF h4
   | has=>exact hc.elim
   | lam=>exact hc.elim
   | word x =>
    have e:(match (y5 X.K).word x with
     | some f=>yW f (fun _ _ _=>.stuck) args hp
     | none=>.stuck)≠.stuck:=e
    cases hF:(y5 X.K).word x with
    | none=>rw [hF] at e;exact absurd rfl e
    | some F =>
     obtain ⟨f',h1,h2⟩:=XW hF
     have hc:nsIn X.K mainGlobals x=some (some (.ref f)):=hc
     rw [hc] at h1;cases h1
     exact ZF h2
   | cls x =>
    have e:(match (y5 X.K).what x with
     | some .cls=>(match (y5 X.K).meth x "__init__" with
      | some f=>(yW f (run (y5 X.K) n) (.ref hp.length::args) (hp++[AO.inst x []])).bind fun v h'=>(match v with
       | .none=>.ok (AV.ref hp.length) h'
       | _=>.stuck)
      | none=>.stuck)
     | _=>.stuck)≠.stuck:=e
    cases hw:(y5 X.K).what x with
    | none=>rw [hw] at e;exact absurd rfl e
    | some wt =>
     rw [hw] at e
     cases wt with
     | fn _=>exact absurd rfl e
     | cls=>exact Wm (QI hw hc).1
  ·intro c x args hp e
   have e:(match (y5 X.K).meth c x with
    | some f=>yW f (run (y5 X.K) n) args hp
    | none=>.stuck)≠.stuck:=e
   cases hF:(y5 X.K).meth c x with
   | none=>rw [hF] at e;exact absurd rfl e
   | some F =>
    obtain ⟨C,f',h1,h2,h3,h4⟩:=jr hF
    exact ⟨f',C,h1,h2,h3⟩
  ·intro c x args hp e
   have e:(match (y5 X.K).meth c x with
    | some _=>Out.ok AV.none hp
    | none=>.stuck)≠.stuck:=e
   cases hF:(y5 X.K).meth c x with
   | none=>rw [hF] at e;exact absurd rfl e
   | some F =>
    obtain ⟨C,f',h1,h2,h3,h4⟩:=jr hF
    exact ⟨f',C,h1,h2,h3⟩
end Mine
end
end
section
noncomputable section
namespace Mine
open PySem PySem.W PySem.Calls PyProof.Rows
theorem W6 {X:Cx} {μ:Mu} {h:Heap}:∀ {vs:List Value} {is:List Int},IntsAre vs is→VRs X μ h (is.map AV.int) vs
 | _,_,.nil=>.nil
 | _,_,.cons n t r=>.cons (.int n t) (W6 r)
theorem z03 {h:Heap} {a:Addr} {m:Str→Option Value} (ns:h.Ns a m) {K:Frag} (hK:K.In h) {x:Str} {r:Option Value} (e:nsIn K a x=some r):m x=r:=by
 obtain ⟨o,es,ep,ho,hd,hk,hm⟩:=ns
 unfold nsIn at e
 cases hl:K.lookup a with
 | none=>rw [hl] at e;exact nos e
 | some o' =>
  have:=hK _ _ hl
  rw [ho] at this;cases this
  rw [hl] at e
  obtain ⟨oc,od,dd,sl⟩:=o
  cases hd
  have hf:nsFind es x=m x:=hm x
  unfold nsFind findBy at hf
  rw [← Array.find?_toList] at hf
  dsimp only at e
  cases hq:es.toList.find? (·.key.isStr x) with
  | some q=>rw [hq] at hf e;cases e;exact hf.symm
  | none =>
   rw [hq] at hf e
   by_cases z:es.toList.any (·.refKey)=true
   ·rw [show (if es.toList.any (·.refKey)=true then (none:Option (Option Value)) else some none)=_ from if_pos z] at e;exact nos e
   ·rw [show (if es.toList.any (·.refKey)=true then (none:Option (Option Value)) else some none)=_ from if_neg z] at e;cases e;exact hf.symm
noncomputable def X0:Hp:=yV.map AO.tab
noncomputable def WR (K:Frag) (Ps:List Addr):Bool:=(yV.zip Ps).all (fun p=>((qa K p.1).map fun c=>codeHdIn K c p.2) == some true) && noTabs K && decide Ps.Nodup && Nat.beq Ps.length 5
theorem Jp {i:Nat} {q:Str} (h:yV[i]? = some q):X0[i]? = some (.tab q):=by unfold X0;rw [List.getElem?_map,h];rfl
theorem zHg (l:List Addr):l.flatMap (fun a=>a::(none:Option Addr).toList)=l:=by
 induction l with
 | nil=>rfl
 | cons a l ih=>rw [List.flatMap_cons,ih];rfl
theorem zGl {α β:Type} {l:List α} {r:List β} {i:Nat} {a:α} {b:β} (h1:l[i]? = some a) (h2:r[i]? = some b):(a,b)∈l.zip r:=by
 refine yq (i:=i) ?_
 rw [List.getElem?_zip_eq_some];exact ⟨h1,h2⟩
theorem zH7:yV.all (fun q=>(xJ q yV 0).isSome)=true:=by decide +kernel
theorem zH8:(List.range 5).all (fun i=>yV[i]?.all fun f=>xJ f yV 0 == some i)=true:=by decide +kernel
theorem law_true {prog:Program} {w:World} {K:Frag} {s₁:Shared} {p:Program} {loose:List Str} {mean mean':ExcName→Option Value} {mg mb:Str→Option Value} {c:ClaimW} {cl:Str→Option Addr} {args:List WData} {fa L:Addr} {vs:List Value} {is:List Int} {x:Str}
  (T:Top p loose mean mg mb s₁.heap) (KX:K.In s₁.heap) (Ps:List Addr) (hP:∀ P∈Ps,s₁.heap.get? P=some (tabObj #[])) (hok:WR K Ps=true) (hg:s₁.gens=#[]) (hmg:mg x=some (.ref fa)) (fa':Addr) (hfa:nsIn K mainGlobals x=some (some (.ref fa'))) (hL:s₁.heap.IsList L vs.toArray) (hI:IntsAre vs is) (hlen:¬ (63:Int)<is.length)
  (hrun:∃ r,run (y5 K) 20 (.fn x) [.lst (is.map AV.int)] X0=.ok (.bool true) (X0++r)) (hn:∀ cls,c.raises args cls=false) (hp:c.post args (.bool true) args=true) :
  wpAny (model prog w) callerA (call (.ref fa) [.ref L]) (fun v s'=>GoodWG c cl mean' args s₁ (.ok (.ret v)) s') (fun e s'=>GoodWG c cl mean' args s₁ (.error e) s') s₁:=by
 have e:=z03 T.g KX hfa
 rw [hmg] at e;cases e
 obtain ⟨rest,hrun⟩:=hrun
 unfold WR at hok
 obtain ⟨hok,h5⟩:=xf hok
 obtain ⟨hok,nd⟩:=xf hok
 obtain ⟨h1,hno⟩:=xf hok
 have nd:=of_decide_eq_true nd
 have h5:=Nat.eq_of_beq_eq_true h5
 have lenF:yV.length=5:=rfl
 have cdP:∀ {i:Nat} {q:Str} {P:Addr},yV[i]? = some q→Ps[i]? = some P→∃ c,qa K q=some c∧codeHdIn K c P=true:=fun {i q P} e1 e2=>by
  obtain ⟨c,h2,h3⟩:=yC (eq_of_beq (List.all_eq_true.mp h1 _ (zGl e1 e2)))
  exact ⟨c,h2,h3⟩
 let tabs:List (Addr×Addr):=(yV.zip Ps).map fun p=>((qa K p.1).getD 0,p.2)
 have tm:∀ {b:Addr},b∈tabs.map (·.2)↔b∈Ps:=fun {b}=>by
  rw [List.map_map,show ((fun (q:Addr×Addr)=>q.2) ∘ fun (p:Str×Addr)=>((qa K p.1).getD 0,p.2))=Prod.snd from rfl,List.map_snd_zip (by rw [h5,lenF];exact Nat.le_refl _)]
 have hT:TabsAt tabs s₁.heap:=fun q hq=>by
  obtain ⟨⟨f,P⟩,hz,rfl⟩:=List.mem_map.mp hq
  obtain ⟨c,h2,h3⟩:=yC (eq_of_beq (List.all_eq_true.mp h1 _ hz))
  have h2:qa K f=some c:=h2
  refine ⟨?_,hP P (List.of_mem_zip hz).2⟩
  show CodeHd s₁.heap ((qa K f).getD 0) P
  rw [h2];exact codeHd_of_K KX h3
 have TG:=ghost_top hT T
 have KG:=ghost_K hT KX hno
 have nP:∀ {P:Addr},P∈Ps→(ghostOf s₁.heap tabs).get? P=none:=fun h=>hideAll_none _ (tm.mpr h)
 let X:Cx:=⟨K,ghostOf s₁.heap tabs,s₁.os,fun q=>match xJ q yV 0 with
  | some i=>Ps.getD i 0
  | none=>0⟩
 have tabP:∀ {i:Nat} {q:Str},xJ q yV 0=some i→X.tabP q=Ps.getD i 0:=fun {i q} h=>by
  show (match xJ q yV 0 with | some i=>Ps.getD i 0 | none=>0)=_
  rw [h]
 have get5:∀ {i:Nat},i<5→Ps[i]? = some (Ps.getD i 0):=fun {i} h=>by rw [List.getD_eq_getElem?_getD,yO (by rw [h5];exact h)];rfl
 have tb:∀ q c,yV.contains q=true→qa X.K q=some c→CodeHd X.base c (X.tabP q)∧∃ mg,X.base.Ns mainGlobals mg∧X.base.BuiltinsAt mg (X.tabP q):=fun q c hq hc=>by
  obtain ⟨i,hi⟩:∃ i,xJ q yV 0=some i:=by
   exact Option.isSome_iff_exists.mp (List.all_eq_true.mp zH7 q (List.contains_iff_mem.mp hq))
  obtain ⟨_,i1,i2⟩:=ww hi
  have i1:i<5:=by rw [lenF] at i1;exact i1
  obtain ⟨c',c1,c2⟩:=cdP i2 (get5 i1)
  rw [show qa K q=some c from hc] at c1;cases c1
  rw [tabP hi]
  have hmem:Ps.getD i 0∈Ps:=yq (get5 i1)
  obtain ⟨bm,ob,b1,b2,b3,b4,b5,b6⟩:=TG.bmain
  refine ⟨codeHd_of_K KG c2,mg,TG.g,bm,ob,b1,b2,fun r=>?_,fun r=>?_,b3,b4,b5,b6⟩
  ·obtain ⟨o,es,ep,e,hd,_⟩:=TG.g
   rw [r,e] at b3;cases b3;rw [hd] at b6;cases b6
  ·have b3:(ghostOf s₁.heap tabs).get? bm=some ob:=b3
   rw [r,nP hmem] at b3;cases b3
 have gg:∀ lo,Gd X (gAt X.K lo):=zJa KG ⟨mg,mb,TG.g,TG.b,TG.builtins⟩ TG.nolimit (fun x C h1 h2=>⟨mg,own_of_in KG (topRead_of TG) h1 h2⟩) tb
 have adr:zh (Ps.map fun P=>(P,none))=Ps:=by
  unfold zh
  rw [List.flatMap_map]
  exact zHg Ps
 have I:Inv X (Ps.map fun P=>(P,none)) X0 s₁:=by
  refine ⟨by rw [List.length_map,h5];rfl,by rw [adr];exact nd,fun a ha=>nP (by rwa [adr] at ha),fun i q o e1 e2=>?_,fun b o e=>of_hideAll _ e,hg,rfl⟩
  rw [List.getElem?_map] at e1
  obtain ⟨P,e3,rfl⟩:=yC e1
  have e2:(yV.map AO.tab)[i]? = some o:=e2
  rw [List.getElem?_map] at e2
  obtain ⟨f,e4,rfl⟩:=yC e2
  have hi:xJ f yV 0=some i:=by
   have hi:i<5:=by rw [← lenF];exact (yj e4).1
   have:=List.all_eq_true.mp zH8 i (List.mem_range.mpr hi)
   rw [e4] at this
   exact eq_of_beq this
  have:X.tabP f=P:=by
   rw [tabP hi,List.getD_eq_getElem?_getD,e3];rfl
  rw [← this]
  exact .tab ⟨#[],by rw [this];exact hP P (yq e3),trivial,fun pos cv e=>nomatch e⟩
 have R:Room 21 callerA []:=⟨rfl,by decide,by decide,fun _=>rfl⟩
 refine (X2 (prog:=prog) (w:=w) gg 20).run R (fun _ h=>nomatch h) I (show z0s X (.fn x) fa from hfa) (.cons (.lst (items:=vs.toArray) (ghost_list hT hL) ?_ ?_) .nil) (PG.okE hrun fun v' μ' s' L' I' r'=>?_)
 ·rw [List.length_map,z1m];exact Nat.le_trans (Int.ofNat_le.mp (Int.not_lt.mp hlen)) (by decide)
 ·exact W6 hI
 ·rw [r'.bool_]
  refine ⟨.inl ⟨_,.bool true,[],rfl,hn,.bool true,hp,fun _=>⟨.nil,fun _ h=>by cases h⟩⟩,?_,I'.os,.of_eq I'.gens⟩
  have kp:∀ b o,b∉Ps→s₁.heap.get? b=some o→s'.heap.get? b=some o:=fun b o n e=>I'.keep b o (ghost_ne e (fun h=>n (tm.mp h)))
  have tP:∀ P∈Ps,∃ ps,s'.heap.get? P=some (tabObj ps):=fun P hm=>by
   obtain ⟨i,hi⟩:=List.getElem?_of_mem hm
   have hi5:i<5:=by rw [← h5];exact (yj hi).1
   obtain ⟨q,hq⟩:∃ q,yV[i]? = some q:=⟨_,yO (by rw [lenF];exact hi5)⟩
   have e0:μ'[i]? = some (P,none):=by
    obtain ⟨r,e⟩:=L'.pre
    rw [← e,List.getElem?_append_left (by rw [List.length_map,h5];exact hi5),List.getElem?_map,hi];rfl
   have e1:(X0++rest)[i]? = some (.tab q):=by
    rw [List.getElem?_append_left (by show i<5;exact hi5)];exact Jp hq
   obtain ⟨e2,ps,eP,_⟩:=(I'.rep i _ _ e0 e1).tab_
   cases e2
   exact ⟨ps,eP⟩
  refine ⟨fun b o e=>?_,fun b o e=>?_⟩
  ·by_cases hb:b∈Ps
   ·obtain ⟨ps,eP⟩:=tP b hb
    rw [hP b hb] at e;cases e
    obtain ⟨i,hi⟩:=List.getElem?_of_mem hb
    have hi5:i<5:=by rw [← h5];exact (yj hi).1
    obtain ⟨c,_,c2⟩:=cdP (q:=yV[i]'(by rw [lenF];exact hi5)) (yO _) hi
    exact .inr (.inl ⟨((codeHd_of_K KX c2).tab (hP b hb)).isCodeTable,rfl,#[],ps,rfl,by rw [eP];simp⟩)
   ·exact .inl (kp b o hb e)
  ·by_cases hb:b∈Ps
   ·obtain ⟨ps,eP⟩:=tP b hb;exact ⟨_,eP⟩
   ·exact ⟨o,kp b o hb e⟩
end Mine
end
end
section
namespace Mine
open PySem
section
variable {h:Hp} {v w:AV} {a:Nat} {i j:Int} {b c:Bool} {cf:CF} {fr:AFr}
theorem Xq {α:Type} {o:Option α} {f:α→AV}:ofP (o.map fun x=>(f x,h))=Out.of (o.map f) h:=by cases o <;> rfl
theorem Zu {p:Prop} [Decidable p] {x:AV} {h':Hp}:ofP (if p then some (x,h') else none)=if p then .ok x h' else .stuck:=by split <;> rfl
theorem Out.of_ite {p:Prop} [Decidable p] {x:AV}:Out.of (if p then some x else none) h=if p then .ok x h else .stuck:=by split <;> rfl
theorem qp:qC .len [v] h=Out.of ((z2q h v).map fun (n:Nat)=>AV.int (n:Int)) h:=Xq
theorem QD {t:Bi}:qC .isinstance [v,.bi t] h=Out.of ((z2v h v t).map .bool) h:=Xq
theorem zHm:qC .min [.int i,.int j] h=.ok (.int (if j<i then j else i)) h:=rfl
theorem zHn:qC .max [.int i,.int j] h=.ok (.int (if i<j then j else i)) h:=rfl
theorem Z1:qC .range [.int i] h=if i.natAbs<2 ^ 62 then .ok (.range 0 i) h else .stuck:=Zu
theorem qy {β:Type} {f:List AV→Option β}:(y7 h a).bind f=(match h[a]? with
  | some (.list xs)=>f xs
  | _=>none):=by
 unfold y7
 cases h[a]? with
 | none=>rfl
 | some o=>cases o <;> rfl
theorem Ji:qC .list [.ref a] h=(match h[a]? with
  | some (.list xs)=>if xs.length≤small then .ok (.ref h.length) (h++[.list xs]) else .stuck
  | _=>.stuck):=by
 show ofP ((y7 h a).bind fun xs=>if xs.length≤small then some (.ref h.length,h++[.list xs]) else none)=_
 rw [qy]
 cases h[a]? with
 | none=>rfl
 | some o =>
  cases o with
  | list xs=>exact Zu
  | _=>rfl
theorem JS {m:Me} {args:List AV}:yQ m (.ref a) args h=(match h[a]? with
  | some (.list xs)=>ofP (meO m a xs args h)
  | _=>.stuck):=by
 show ofP ((y7 h a).bind _)=_
 rw [qy]
 cases h[a]? with
 | none=>rfl
 | some o=>cases o <;> rfl
theorem xD:yQ .append (.ref a) [v] h=(match h[a]? with
  | some (.list xs)=>if xs.length<small then .ok .none (h.set a (.list (xs++[v]))) else .stuck
  | _=>.stuck):=by
 rw [JS]
 cases h[a]? with
 | none=>rfl
 | some o =>
  cases o with
  | inst c fs=>rfl
  | dict _=>rfl
  | cell _=>rfl
  | tab _=>rfl
  | list xs=>exact Zu
theorem X7:yQ .insert (.ref a) [.int i,v] h=(match h[a]? with
  | some (.list xs)=>if xs.length<small∧okI i=true then .ok .none (h.set a (.list (xw xs i.toNat v))) else .stuck
  | _=>.stuck):=by
 rw [JS]
 cases h[a]? with
 | none=>rfl
 | some o =>
  cases o with
  | inst c fs=>rfl
  | dict _=>rfl
  | cell _=>rfl
  | tab _=>rfl
  | list xs=>exact Zu
theorem Qt:yQ .index (.ref a) [v] h=(match h[a]? with
  | some (.list _)=>(match jP h (.ref a) v with
   | some k=>.ok (.int k) h
   | none=>.stuck)
  | _=>.stuck):=by
 rw [JS]
 cases h[a]? with
 | none=>rfl
 | some o =>
  cases o with
  | inst c fs=>rfl
  | dict _=>rfl
  | cell _=>rfl
  | tab _=>rfl
  | list xs =>
   show ofP ((jP h (.ref a) v).map _)=_
   cases jP h (.ref a) v <;> rfl
theorem YJ:yQ .count (.ref a) [v] h=(match h[a]? with
  | some (.list _)=>Out.of ((wQ h (.ref a) v).map fun (n:Nat)=>AV.int (n:Int)) h
  | _=>.stuck):=by
 rw [JS]
 cases h[a]? with
 | none=>rfl
 | some o =>
  cases o with
  | inst c fs=>rfl
  | dict _=>rfl
  | cell _=>rfl
  | tab _=>rfl
  | list xs=>exact Xq
theorem Y2:QC .Add (.int i) (.int j) h=.ok (.int (i+j)) h:=rfl
theorem Zz:QC .Sub (.int i) (.int j) h=.ok (.int (i - j)) h:=rfl
theorem Y0:QC .Mult (.int i) (.int j) h=if i.natAbs<2 ^ 63∨j.natAbs<2 ^ 63 then .ok (.int (i * j)) h else .stuck:=by
 show Out.of ((if i.natAbs<2 ^ 63∨j.natAbs<2 ^ 63 then some (i * j) else none).map AV.int) h=_
 split <;> rfl
theorem z3q:QC .FloorDiv (.int i) (.int j) h=if j≠0∧j.natAbs<1073741824 then .ok (.int (i.fdiv j)) h else .stuck:=by
 show Out.of ((if j≠0∧j.natAbs<1073741824 then some (i.fdiv j) else none).map AV.int) h=_
 split <;> rfl
theorem Y1:QC .Mod (.int i) (.int j) h=if j=0 then .stuck else .ok (.int (i.fmod j)) h:=by
 show Out.of ((if j=0 then none else some (i.fmod j)).map AV.int) h=_
 split <;> rfl
theorem xN:xQ .Eq v w h=aEq h v w:=rfl
theorem wS:xQ .NotEq v w h=(aEq h v w).map (!·):=rfl
theorem yS:xQ .Lt (.int i) (.int j) h=some (decide (i<j)):=rfl
theorem xV:xQ .LtE (.int i) (.int j) h=some (decide (i≤j)):=rfl
theorem Wy:xQ .Gt (.int i) (.int j) h=some (decide (j<i)):=rfl
theorem z3j:xQ .GtE (.int i) (.int j) h=some (decide (j≤i)):=rfl
theorem XG {op:CmpOp} {r:XE}:wY v [op] [r] cf fr h=(r cf fr h).bind fun v' h₁=>Out.of (xQ op v v' h₁) h₁:=rfl
theorem XF {op op':CmpOp} {ops:List CmpOp} {r:XE} {rs:List XE}:wY v (op::op'::ops) (r::rs) cf fr h=(r cf fr h).bind fun v' h₁=>(match xQ op v v' h₁ with
  | some true=>wY v' (op'::ops) rs cf fr h₁
  | some false=>.ok false h₁
  | none=>.stuck):=by
 show (r cf fr h).bind _=_
 congr 1
 funext v' h₁
 cases xQ op v v' h₁ with
 | none=>rfl
 | some b=>cases b <;> rfl
theorem JD:qE h (.bool b)=some b:=rfl
theorem z55 {xs:List AV}:z2q h (.lst xs)=some xs.length:=rfl
theorem qI:z2q h (.ref a)=(match h[a]? with
  | some (.list xs)=>some xs.length
  | _=>none):=by
 show (y7 h a).map List.length=_
 unfold y7
 cases h[a]? with
 | none=>rfl
 | some o=>cases o <;> rfl
theorem Zr:wF h (.ref a) (.int i) v=(match h[a]? with
  | some (.list xs)=>if 0≤i∧i<xs.length∧xs.length≤small then some (h.set a (.list (xs.set i.toNat v))) else none
  | some (.dict kvs)=>if kvs.length<small then some (h.set a (.dict (Q8 kvs i v))) else none
  | _=>none):=by
 show (match xy h a with
  | some kvs=>if kvs.length<small then some (h.set a (.dict (Q8 kvs i v))) else none
  | none=>(y7 h a).bind fun xs=>if 0≤i∧i<xs.length∧xs.length≤small then some (h.set a (.list (xs.set i.toNat v))) else none)=_
 unfold xy y7
 cases h[a]? with
 | none=>rfl
 | some o=>cases o <;> rfl
theorem wW {op:BoolOp} {x y:XE} {r:List XE}:wa op (x::y::r) cf fr h=(x cf fr h).bind fun v h₁=>(match qE h₁ v with
  | some t=>(match op,t with
   | .And,false=>.ok v h₁
   | .Or,true=>.ok v h₁
   | _,_=>wa op (y::r) cf fr h₁)
  | none=>.stuck):=rfl
theorem z5e {xs:List AV} (ho:okI i=true):we h (.lst xs) (.int i)=xs[i.toNat]? := if_pos ho
theorem xn (ho:okI i=true):we h (.ref a) (.int i)=(match h[a]? with
  | some (.list xs)=>xs[i.toNat]?
  | _=>none):=by
 show (if okI i=true then (y7 h a).bind (fun xs=>xs[i.toNat]?) else none)=_
 rw [if_pos ho]
 unfold y7
 cases h[a]? with
 | none=>rfl
 | some o=>cases o <;> rfl
theorem z5d {s:Str} (ho:okI i=true):we h (.str s) (.int i)=(s.cps[i.toNat]?).map fun c=>.str ⟨#[c]⟩:=if_pos ho
theorem z3i {x y:Str}:xQ .In (.str x) (.str y) h=some (Txt.contains y x):=rfl
theorem Jh {x y:Str}:QC .Add (.str x) (.str y) h=if x.length+y.length≤small then .ok (.str (x++y)) h else .stuck:=Out.of_ite
theorem len_str {x:Str}:z2q h (.str x)=some x.length:=rfl
theorem Qs {sep:Str} {xs:List AV} {ss:List Str} (e:h[a]? = some (.list xs)) (e':ZN xs=some ss) (z:(ss.map (·.length)).sum+ss.length * sep.length≤small):yQ .join (.str sep) [.ref a] h=.ok (.str (Str.join sep ss)) h:=by
 show ofP ((y7 h a).bind fun xs=>(ZN xs).bind fun ss=>if (ss.map (·.length)).sum+ss.length * sep.length≤small then some (.str (Str.join sep ss),h) else none)=_
 rw [qy,e]
 show ofP ((ZN xs).bind _)=_
 rw [e']
 show ofP (if _ then _ else _)=_
 rw [if_pos z];rfl
theorem z3s {xs:List AV} {bs:List Bool} (e:h[a]? = some (.list xs)) (e':qB xs=some bs):qC .all [.ref a] h=.ok (.bool (bs.all id)) h:=by
 show ofP ((y7 h a).bind fun xs=>(qB xs).map fun bs=>(AV.bool (bs.all id),h))=_
 rw [qy,e]
 show ofP ((qB xs).map _)=_
 rw [e'];rfl
theorem zHo {xs:List AV} {bs:List Bool} (e:h[a]? = some (.list xs)) (e':qB xs=some bs):qC .any [.ref a] h=.ok (.bool (bs.any id)) h:=by
 show ofP ((y7 h a).bind fun xs=>(qB xs).map fun bs=>(AV.bool (bs.any id),h))=_
 rw [qy,e]
 show ofP ((qB xs).map _)=_
 rw [e'];rfl
theorem ZI {α:Type} {f:α→Bool} {l:List α}:qB (l.map fun x=>AV.bool (f x))=some (l.map f):=by
 induction l with
 | nil=>rfl
 | cons x l ih =>
  show (qB (l.map fun x=>AV.bool (f x))).map _=_
  rw [ih];rfl
theorem QR {α:Type} {f:α→Str} {l:List α}:ZN (l.map fun x=>AV.str (f x))=some (l.map f):=by
 induction l with
 | nil=>rfl
 | cons x l ih =>
  show (ZN (l.map fun x=>AV.str (f x))).map _=_
  rw [ih];rfl
theorem z5m {xs:List AV} {l u:AV} {lo hi:Option Nat} (e:qA l=some lo) (e':qA u=some hi) (z:xs.length≤small):z3f h (.lst xs) l u=.ok (.ref h.length) (h++[.list (Zn xs (lo.getD 0) hi)]):=by
 show ofP ((qA l).bind fun lo=>(qA u).bind fun hi=>if xs.length≤small then some (AV.ref h.length,h++[.list (Zn xs (lo.getD 0) hi)]) else none)=_
 rw [e,e']
 show ofP (if _ then _ else _)=_
 rw [if_pos z];rfl
theorem z5l {xs:List AV} {l u:AV} {lo hi:Option Nat} (ea:h[a]? = some (.list xs)) (e:qA l=some lo) (e':qA u=some hi) (z:xs.length≤small):z3f h (.ref a) l u=.ok (.ref h.length) (h++[.list (Zn xs (lo.getD 0) hi)]):=by
 show ofP ((qA l).bind fun lo=>(qA u).bind fun hi=>(y7 h a).bind fun xs=>if xs.length≤small then some (AV.ref h.length,h++[.list (Zn xs (lo.getD 0) hi)]) else none)=_
 rw [e,e']
 show ofP ((y7 h a).bind _)=_
 rw [qy,ea]
 show ofP (if _ then _ else _)=_
 rw [if_pos z];rfl
theorem jK (h:okI i=true):qA (.int i)=some (some i.toNat):=if_pos h
end
end Mine
end
section
namespace Mine
open PySem
theorem yc {T:Tab} {n:Nat} {x:Str} {F:Fn} {args:List AV} {h:Hp} (e:T.what x=some (.fn F)):run T (n+1) (.fn x) args h=yW F (run T n) args h:=by
 show (match T.what x with | some (.fn f)=>yW f (run T n) args h | _=>.stuck)=_
 rw [e]
theorem zG {T:Tab} {n:Nat} {c x:Str} {F:Fn} {args:List AV} {h:Hp} (e:T.meth c x=some F):run T (n+1) (.meth c x) args h=yW F (run T n) args h:=by
 show (match T.meth c x with | some f=>yW f (run T n) args h | none=>.stuck)=_
 rw [e]
theorem j8 {T:Tab} {n:Nat} {x:Str} {F:Fn} {args:List AV} {h:Hp} (e:T.what x=some .cls) (e':T.meth x "__init__" = some F) :
  run T (n+1) (.cls x) args h=(yW F (run T n) (.ref h.length::args) (h++[.inst x []])).bind fun v h'=>(match v with | .none=>.ok (.ref h.length) h' | _=>.stuck):=by
 show (match T.what x with
  | some .cls=>(match T.meth x "__init__" with
   | some f=>(yW f (run T n) (.ref h.length::args) (h++[AO.inst x []])).bind fun v h'=>(match v with | .none=>.ok (AV.ref h.length) h' | _=>.stuck)
   | none=>.stuck)
  | _=>.stuck)=_
 rw [e,e']
theorem XY (h:Hp) (n:Nat) (i:Int):toD h n (.int i)=some (.int i):=by cases n <;> rfl
theorem z0y (h:Hp) (n:Nat) (b:Bool):toD h n (.bool b)=some (.bool b):=by cases n <;> rfl
theorem xE {α β:Type} {f:α→Option β} {x:α} {xs:List α} {y:β} {ys:List β} (e:f x=some y) (e':yd f xs=some ys):yd f (x::xs)=some (y::ys):=by
 show (match f x,yd f xs with | some y,some ys=>some (y::ys) | _,_=>none)=_
 rw [e,e']
theorem jB (h:Hp) (n:Nat) (l:List Int):yd (toD h n) (l.map AV.int)=some (l.map PyData.int):=by
 induction l with
 | nil=>rfl
 | cons i l ih=>exact xE (XY h n i) ih
theorem YL (h:Hp) (n:Nat) (l:List Bool):yd (toD h n) (l.map AV.bool)=some (l.map PyData.bool):=by
 induction l with
 | nil=>rfl
 | cons i l ih=>exact xE (z0y h n i) ih
theorem z5p {α:Type} [DecidableEq α] (i j:α):(i == j)=decide (i=j):=by
 by_cases h:i=j
 ·rw [decide_eq_true h];exact beq_iff_eq.mpr h
 ·rw [decide_eq_false h];exact beq_eq_false_iff_ne.mpr h
theorem YR {h:Hp} {a:Nat} {xs:List AV} (e:h[a]? = some (.list xs)):y7 h a=some xs:=by unfold y7;rw [e]
theorem jf {h:Hp} {a:Nat} {xs:List AV} {ds:List PyData} (e:h[a]? = some (.list xs)) (e':yd (toD h 7) xs=some ds):toD h 8 (.ref a)=some (.list ds):=by
 show (match y7 h a with | some xs=>(yd (toD h 7) xs).map PyData.list | none=>none)=_
 rw [YR e]
 exact congrArg (Option.map PyData.list) e'
theorem ZJ {h:Hp} {v w:AV} {x y:PyData} (e:toD h 8 v=some x) (e':toD h 8 w=some y):aEq h v w=some (PyData.eqv x y):=by
 unfold aEq;rw [e,e'];rfl
theorem qK (h:Hp) (i j:Int):aEq h (.int i) (.int j)=some (decide (i=j)):=(ZJ (h:=h) (v:=.int i) (w:=.int j) rfl rfl).trans (congrArg some (z5p i j))
theorem YA {h:Hp} {a:Nat} {xs:List AV} (e:h[a]? = some (.list xs)):z4m h (.ref a)=yd (toD h 7) xs:=by
 show (y7 h a).bind _=_
 rw [YR e];rfl
theorem z0i {h:Hp} {a:Nat} {l:List Int} {i:Int} (e:h[a]? = some (.list (l.map AV.int))):jP h (.ref a) (.int i)=l.findIdx? (· == i):=by
 unfold jP;rw [YA e,jB]
 show (l.map PyData.int).findIdx? (fun y=>PyData.eqv y (.int i))=_
 rw [List.findIdx?_map]
 rfl
theorem wP {h:Hp} {a:Nat} {l:List Bool} (e:h[a]? = some (.list (l.map AV.bool))):wQ h (.ref a) (.bool true)=some (l.countP id):=by
 unfold wQ;rw [YA e,YL]
 show some ((l.map PyData.bool).countP (fun y=>PyData.eqv y (.bool true)))=_
 rw [List.countP_map]
 have:((fun y=>PyData.eqv y (.bool true)) ∘ PyData.bool)=id:=by funext b;cases b <;> rfl
 rw [this]
theorem zQ {α:Type} (g:List α) (x:α) (r:List α):(g++x::r)[g.length]? = some x:=by rw [List.getElem?_append_right (Nat.le_refl _),Nat.sub_self];rfl
theorem zD {α:Type} (g l:List α) (k:Nat):(g++l)[g.length+k]? = l[k]? := by
 rw [List.getElem?_append_right (Nat.le_add_right _ _),Nat.add_sub_cancel_left]
theorem zB {α:Type} {g l:List α} {k:Nat} {x:α} (e:g[k]? = some x):(g++l)[k]? = some x:=by
 rw [List.getElem?_append_left (yj e).1];exact e
theorem jI {t:NTgt} {test:XT} {elt:XE} {src:Src} {f k:Nat} {acc:List AV} {cf:CF} {fr:AFr} {h:Hp}:yt t test elt src (f+1) k acc cf fr h=(match src.next? h k with
  | none=>.stuck
  | some none=>.ok acc h
  | some (some x)=>(match t.bind x fr with
   | none=>.stuck
   | some fr₁=>(test cf fr₁ h).bind0 fun b h₁ =>
     if b then (elt cf fr₁ h₁).bind0 fun v h₂=>if acc.length<small then yt t test elt src f (k+1) (acc++[v]) cf fr₁ h₂ else .stuck
     else yt t test elt src f (k+1) acc cf fr₁ h₁)):=rfl
theorem Yi {α:Type} (g:α→AV) {test:XT} {elt:XE} {cf:CF} {fr:AFr} {i:Nat} (hi:i<fr.length) {h:Hp} {src:Src} {l:List α} {p:α→Bool} {f:α→AV} (hsrc:∀ k,src.next? h k=some ((l.map g)[k]?)) (hsm:l.length<small)
  (ht:∀ fr',fr'.length=fr.length→(∀ j,j≠i→fr'[j]? = fr[j]?)→∀ x∈l,fr'[i]? = some (some (g x))→test cf fr' h=.ok (p x) h)
  (he:∀ fr',fr'.length=fr.length→(∀ j,j≠i→fr'[j]? = fr[j]?)→∀ x∈l,fr'[i]? = some (some (g x))→elt cf fr' h=.ok (f x) h) :
  yt (.one i) test elt src (l.length+1) 0 [] cf fr h=.ok ((l.filter p).map f) h:=by
 have key:∀ (m k:Nat) (acc:List AV) (fr':AFr),k+m=l.length→fr'.length=fr.length→(∀ j,j≠i→fr'[j]? = fr[j]?)→acc.length≤k →
   yt (.one i) test elt src (m+1) k acc cf fr' h=.ok (acc++((l.drop k).filter p).map f) h:=by
  intro m
  induction m with
  | zero =>
   intro k acc fr' hk hl hj ha
   have hk:l.length≤k:=Nat.le_of_eq hk.symm
   rw [jI,hsrc,List.getElem?_eq_none (by rw [List.length_map];exact hk),List.drop_eq_nil_of_le hk]
   show Out.ok acc h=.ok (acc++[]) h
   rw [List.append_nil]
  | succ m ih =>
   intro k acc fr' hk hl hj ha
   have hk':k<l.length:=by rw [← hk];exact Nat.lt_add_of_pos_right (Nat.succ_pos m)
   have hk2:k+1+m=l.length:=by rw [← hk,Nat.add_assoc,Nat.add_comm 1]
   have hm:l[k]∈l:=List.getElem_mem hk'
   have hi':i<fr'.length:=by rw [hl];exact hi
   have g1:(fr'.set i (some (g l[k]))).length=fr.length:=by rw [List.length_set];exact hl
   have g2:∀ j,j≠i→(fr'.set i (some (g l[k])))[j]? = fr[j]? := fun j hne=>by rw [List.getElem?_set_ne (Ne.symm hne)];exact hj j hne
   have g3:(fr'.set i (some (g l[k])))[i]? = some (some (g l[k])):=by rw [List.getElem?_set_self hi']
   rw [List.drop_eq_getElem_cons hk',jI,hsrc,List.getElem?_map,yO hk']
   show (match NTgt.bind (.one i) (g l[k]) fr' with | none=>Out.stuck | some fr₁=>_)=_
   rw [show NTgt.bind (.one i) (g l[k]) fr'=some (fr'.set i (some (g l[k]))) from if_pos hi']
   dsimp only
   rw [ht _ g1 g2 _ hm g3,Out.bind0_ok]
   cases hp:p l[k] with
   | true =>
    rw [if_pos rfl,he _ g1 g2 _ hm g3,Out.bind0_ok,if_pos (Nat.lt_of_le_of_lt ha (Nat.lt_trans hk' hsm)),ih (k+1) _ _ hk2 g1 g2 (by rw [zX];exact Nat.succ_le_succ ha),List.filter_cons_of_pos hp,List.map_cons,List.append_assoc];rfl
   | false =>
    rw [if_neg (by decide),ih (k+1) _ _ hk2 g1 g2 (Nat.le_succ_of_le ha),List.filter_cons_of_neg (by rw [hp];decide)]
 exact key l.length 0 [] fr (Nat.zero_add _) rfl (fun _ _=>rfl) (Nat.le_refl _)
theorem qP {α:Type} (g:α→AV) {it:XE} {own i a:Nat} {test:XT} {elt:XE} {cf:CF} {fr:AFr} {h h1:Hp} {l:List α} {p:α→Bool} {f:α→AV} (e1:it cf fr h=.ok (.ref a) h1) (e2:h1[a]? = some (.list (l.map g))) (hi:i<fr.length+own) (hsm:l.length<small)
  (ht:∀ fr',fr'.length=fr.length+own→(∀ j,j≠i→fr'[j]? = (fr++List.replicate own none)[j]?)→∀ x∈l,fr'[i]? = some (some (g x))→test cf fr' h1=.ok (p x) h1)
  (he:∀ fr',fr'.length=fr.length+own→(∀ j,j≠i→fr'[j]? = (fr++List.replicate own none)[j]?)→∀ x∈l,fr'[i]? = some (some (g x))→elt cf fr' h1=.ok (f x) h1) :
  xB it own (.one i) test elt cf fr h=.ok (.ref h1.length) (h1++[.list ((l.filter p).map f)]):=by
 have hl:(fr++List.replicate own (none:Option AV)).length=fr.length+own:=by rw [zX,List.length_replicate]
 have es:yw h1 (.ref a)=some (.ref a,(l.map g).length):=by
  show (match h1[a]? with | some (.list xs)=>some (Src.ref a,xs.length) | _=>none)=_
  rw [e2]
 unfold xB
 rw [e1]
 simp only [Out.bind_ok]
 rw [es]
 dsimp only
 rw [List.length_map,Yi g (fr:=fr++List.replicate own none) (l:=l) (p:=p) (f:=f) (by rw [hl];exact hi) (fun k=>by
  show (match h1[a]? with | some (.list ys)=>some ys[k]? | _=>none)=_
  rw [e2]) hsm (fun fr' a b=>ht fr' (by rw [a,hl]) b) (fun fr' a b=>he fr' (by rw [a,hl]) b)]
 rfl
theorem z5 {i:Nat} {cf:CF} {fr:AFr} {h:Hp} {v:AV} (e:fr[i]? = some (some v)):z6 i cf fr h=.ok v h:=by unfold z6;rw [e]
theorem ZH {α:Type} (g:α→AV) {it:XE} {own i:Nat} {v:AV} {test:XT} {elt:XE} {cf:CF} {fr:AFr} {h h1:Hp} {l:List α} {p:α→Bool} {f:α→AV} (e1:it cf fr h=.ok v h1) (e2:yw h1 v=some (.imm (l.map g),l.length)) (hi:i<fr.length+own) (hsm:l.length<small)
  (ht:∀ fr',fr'.length=fr.length+own→(∀ j,j≠i→fr'[j]? = (fr++List.replicate own none)[j]?)→∀ x∈l,fr'[i]? = some (some (g x))→test cf fr' h1=.ok (p x) h1)
  (he:∀ fr',fr'.length=fr.length+own→(∀ j,j≠i→fr'[j]? = (fr++List.replicate own none)[j]?)→∀ x∈l,fr'[i]? = some (some (g x))→elt cf fr' h1=.ok (f x) h1) :
  xB it own (.one i) test elt cf fr h=.ok (.ref h1.length) (h1++[.list ((l.filter p).map f)]):=by
 have hl:(fr++List.replicate own (none:Option AV)).length=fr.length+own:=by rw [zX,List.length_replicate]
 unfold xB
 rw [e1]
 simp only [Out.bind_ok]
 rw [e2]
 dsimp only
 rw [Yi g (fr:=fr++List.replicate own none) (l:=l) (p:=p) (f:=f) (by rw [hl];exact hi) (fun k=>rfl) hsm (fun fr' a b=>ht fr' (by rw [a,hl]) b) (fun fr' a b=>he fr' (by rw [a,hl]) b)]
 rfl
theorem z7 {s:XS} {r:List XS} {cf:CF} {fr fr1:AFr} {h h1:Hp} (e:s cf fr h=.ok .next fr1 h1):zJ (s::r) cf fr h=zJ r cf fr1 h1:=by
 show (match s cf fr h with
  | .ok .next fr₁ h₁=>zJ r cf fr₁ h₁
  | o=>o)=_
 rw [e]
theorem zP {s:XS} {r:List XS} {cf:CF} {fr fr1:AFr} {h h1:Hp} {v:AV} (e:s cf fr h=.ok (.ret v) fr1 h1):zJ (s::r) cf fr h=.ok (.ret v) fr1 h1:=by
 show (match s cf fr h with
  | .ok .next fr₁ h₁=>zJ r cf fr₁ h₁
  | o=>o)=_
 rw [e]
theorem zL {cf:CF} {fr:AFr} {h:Hp}:zJ [] cf fr h=.ok .next fr h:=rfl
theorem z3p {h:Hp} {t:NTgt} {x:AV} {fr fr1:AFr} (e:XN h t x fr=some fr1):jQ h t x fr=some (fr1,h):=by
 cases t with
 | cell i=>exact nos e
 | one i=>show (XN h (.one i) x fr).map _=_;rw [e];rfl
 | many is=>show (XN h (.many is) x fr).map _=_;rw [e];rfl
theorem wO {t:NTgt} {body:XS} {src:Src} {cf:CF} {xs:List AV} (P:Nat→AFr→Hp→Prop) (hsrc:∀ k fr h,P k fr h→src.next? h k=some xs[k]?)
  (step:∀ k x fr h,P k fr h→xs[k]? = some x→∃ fr1 fr2 h2,XN h t x fr=some fr1∧body cf fr1 h=.ok .next fr2 h2∧P (k+1) fr2 h2) {fr:AFr} {h:Hp} (p0:P 0 fr h) :
  ∃ fr' h',yz t body src (xs.length+1) 0 cf fr h=.ok .next fr' h'∧P xs.length fr' h':=by
 have key:∀ (m k:Nat) (fr:AFr) (h:Hp),k+m=xs.length→P k fr h→∃ fr' h',yz t body src (m+1) k cf fr h=.ok .next fr' h'∧P xs.length fr' h':=by
  intro m
  induction m with
  | zero =>
   intro k fr h hk p
   have:k=xs.length:=hk
   subst this
   refine ⟨fr,h,?_,p⟩
   show (match src.next? h xs.length with
    | none=>OS.stuck
    | some none=>.ok .next fr h
    | some (some x)=>_)=_
   rw [hsrc _ _ _ p,List.getElem?_eq_none (Nat.le_refl _)]
  | succ m ih =>
   intro k fr h hk p
   have hlt:k<xs.length:=by rw [← hk];exact Nat.lt_add_of_pos_right (Nat.succ_pos m)
   have hx:=yO hlt
   obtain ⟨fr1,fr2,h2,e1,e2,p2⟩:=step k _ fr h p hx
   obtain ⟨fr',h',e3,p3⟩:=ih (k+1) fr2 h2 (by rw [← hk,Nat.add_assoc,Nat.add_comm 1]) p2
   refine ⟨fr',h',?_,p3⟩
   show (match src.next? h k with
    | none=>OS.stuck
    | some none=>.ok .next fr h
    | some (some x)=>(match jQ h t x fr with
     | none=>.stuck
     | some p=>(match body cf p.1 p.2 with
      | .ok .next fr₂ h₂=>yz t body src (m+1) (k+1) cf fr₂ h₂
      | .ok (.ret v) fr₂ h₂=>.ok (.ret v) fr₂ h₂
      | _=>.stuck)))=_
   rw [hsrc _ _ _ p,hx]
   show (match jQ h t xs[k] fr with
     | none=>OS.stuck
     | some p=>(match body cf p.1 p.2 with
      | .ok .next fr₂ h₂=>yz t body src (m+1) (k+1) cf fr₂ h₂
      | .ok (.ret v) fr₂ h₂=>.ok (.ret v) fr₂ h₂
      | _=>.stuck))=_
   rw [z3p e1]
   show (match body cf fr1 h with
      | .ok .next fr₂ h₂=>yz t body src (m+1) (k+1) cf fr₂ h₂
      | .ok (.ret v) fr₂ h₂=>.ok (.ret v) fr₂ h₂
      | _=>.stuck)=_
   rw [e2]
   exact e3
 exact key xs.length 0 fr h (Nat.zero_add _) p0
theorem zO {F:Fn} {cf:CF} {args:List AV} {h h':Hp} {fr fr':AFr} {v:AV} (hn:args.length=F.np) (hf:args.map some++List.replicate (F.nl - F.np) none=fr) (e:F.body cf fr h=.ok (.ret v) fr' h'):yW F cf args h=.ok v h':=by
 unfold yW;rw [if_pos hn,hf,e]
theorem yI {F:Fn} {cf:CF} {args:List AV} {h h':Hp} {fr fr':AFr} (hn:args.length=F.np) (hf:args.map some++List.replicate (F.nl - F.np) none=fr) (e:F.body cf fr h=.ok .next fr' h'):yW F cf args h=.ok .none h':=by
 unfold yW;rw [if_pos hn,hf,e]
theorem yM {t:XT} {a b:XS} {cf:CF} {fr:AFr} {h h1:Hp} (e:t cf fr h=.ok true h1):sIf t a b cf fr h=a cf fr h1:=by unfold sIf;rw [e];rfl
theorem zN {t:XT} {a b:XS} {cf:CF} {fr:AFr} {h h1:Hp} (e:t cf fr h=.ok false h1):sIf t a b cf fr h=b cf fr h1:=by unfold sIf;rw [e];rfl
section
variable {cf:CF} {fr:AFr} {h h1 h2 h3:Hp} {x y o i f l u:XE} {xs:List XE} {v w k a' b':AV} {vs:List AV} {a j:Nat} {okf:Str→Str→Bool} {name:Str} {c:Str} {fs:List (Str×AV)} {res:Out AV} {resS:OS}
theorem zo (e:x cf fr h=.ok v h1):zi x cf fr h=.ok (.ret v) fr h1:=by unfold zi;rw [e];rfl
theorem zZ (e:x cf fr h=.ok v h1):zM x cf fr h=.ok .next fr h1:=by unfold zM;rw [e];rfl
theorem zd (e:x cf fr h=.ok v h1) (hi:j<fr.length):zA okf (.names (.one j)) x cf fr h=.ok .next (fr.set j (some v)) h1:=by
 unfold zA
 rw [e]
 show (match NTgt.bind (.one j) v fr with | some fr₁=>OS.ok .next fr₁ h1 | none=>.stuck)=_
 rw [show NTgt.bind (.one j) v fr=some (fr.set j (some v)) from if_pos hi]
theorem Xl {is:List Nat} {fr1:AFr} (e:x cf fr h=.ok (.tup vs) h1) (hb:qS is vs fr=some fr1):zA okf (.names (.many is)) x cf fr h=.ok .next fr1 h1:=by
 unfold zA
 rw [e]
 show (match qS is vs fr with | some fr₁=>OS.ok .next fr₁ h1 | none=>.stuck)=_
 rw [hb]
theorem zR (e:o cf fr h=.ok (.ref a) h1) (ha:h1[a]? = some (.inst c fs)) (hl:fs.lookup name=some v):zH o name cf fr h=.ok v h1:=by
 unfold zH
 rw [e]
 show (match h1[a]? with | some (.inst _ fs)=>Out.of (fs.lookup name) h1 | _=>.stuck)=_
 rw [ha]
 show Out.of (fs.lookup name) h1=_
 rw [hl];rfl
theorem zC {me:Option Me} (e:o cf fr h=.ok (.ref a) h1) (ha:h1[a]? = some (.inst c fs)) (hl:fs.lookup name=none) (ev:evs xs cf fr h1=.ok vs h2) (ec:cf (.meth c name) (.ref a::vs) h2=res):z9 o name me xs cf fr h=res:=by
 unfold z9
 rw [e]
 show (match h1[a]? with
  | some (.inst c fs)=>(match fs.lookup name with
   | some _=>Out.stuck
   | none=>jO cf c name (.ref a) (evs xs cf fr h1))
  | some (.list _)=>(match me with
   | some m=>(evs xs cf fr h1).bind0 fun vs h₂=>yQ m (.ref a) vs h₂
   | none=>.stuck)
  | _=>.stuck)=_
 rw [ha]
 show (match fs.lookup name with
   | some _=>Out.stuck
   | none=>jO cf c name (.ref a) (evs xs cf fr h1))=_
 rw [hl]
 show jO cf c name (.ref a) (evs xs cf fr h1)=_
 rw [ev];exact ec
theorem z4t {me:Option Me} (e:o cf fr h=.ok (.ref a) h1) (ha:h1[a]? = some (.inst c fs)) (hl:fs.lookup name=none) {c':Str} {u:AV} {h3:Hp} (ev:evs xs cf fr h1=.exc c' h2) (ec:cf (.has c name) [] h2=.ok u h3):z9 o name me xs cf fr h=.exc c' h2:=by
 unfold z9
 rw [e]
 show (match h1[a]? with
  | some (.inst c fs)=>(match fs.lookup name with
   | some _=>Out.stuck
   | none=>jO cf c name (.ref a) (evs xs cf fr h1))
  | some (.list _)=>(match me with
   | some m=>(evs xs cf fr h1).bind0 fun vs h₂=>yQ m (.ref a) vs h₂
   | none=>.stuck)
  | _=>.stuck)=_
 rw [ha]
 show (match fs.lookup name with
   | some _=>Out.stuck
   | none=>jO cf c name (.ref a) (evs xs cf fr h1))=_
 rw [hl]
 show jO cf c name (.ref a) (evs xs cf fr h1)=_
 rw [ev]
 show (match cf (.has c name) [] h2 with
  | .ok _ _=>Out.exc c' h2
  | _=>.stuck)=_
 rw [ec]
theorem jM {m:Me} {ys:List AV} (e:o cf fr h=.ok (.ref a) h1) (ha:h1[a]? = some (.list ys)) (ev:evs xs cf fr h1=.ok vs h2) (ec:yQ m (.ref a) vs h2=res):z9 o name (some m) xs cf fr h=res:=by
 unfold z9
 rw [e]
 show (match h1[a]? with
  | some (.inst c fs)=>(match fs.lookup name with
   | some _=>Out.stuck
   | none=>jO cf c name (.ref a) (evs xs cf fr h1))
  | some (.list _)=>(evs xs cf fr h1).bind0 fun vs h₂=>yQ m (.ref a) vs h₂
  | _=>.stuck)=_
 rw [ha]
 show (evs xs cf fr h1).bind0 _=_
 rw [ev];exact ec
theorem z5v {m:Me} {s:Str} (e:o cf fr h=.ok (.str s) h1) (ev:evs xs cf fr h1=.ok vs h2) (ec:yQ m (.str s) vs h2=res):z9 o name (some m) xs cf fr h=res:=by
 unfold z9
 rw [e]
 show (evs xs cf fr h1).bind0 _=_
 rw [ev];exact ec
theorem zc {n:Str} (ev:evs xs cf fr h=.ok vs h2) (ec:cf (.fn n) vs h2=res):zK (zI (some (.fn n))) xs cf fr h=res:=by
 unfold zK
 show (evs xs cf fr h).bind0 _=_
 rw [ev];exact ec
theorem ZR {n:Str} (ev:evs xs cf fr h=.ok vs h2) (ec:cf (.cls n) vs h2=res):zK (zI (some (.cls n))) xs cf fr h=res:=by
 unfold zK
 show (evs xs cf fr h).bind0 _=_
 rw [ev];exact ec
theorem xl {b:Bi} (ev:evs xs cf fr h=.ok vs h2) (ec:qC b vs h2=res):zK (zI (some (.bi b))) xs cf fr h=res:=by
 unfold zK
 show (evs xs cf fr h).bind0 _=_
 rw [ev];exact ec
theorem ev0:evs [] cf fr h=.ok [] h:=rfl
theorem ev1 (e:x cf fr h=.ok v h1) (e':evs xs cf fr h1=.ok vs h2):evs (x::xs) cf fr h=.ok (v::vs) h2:=by
 show Out.bind (x cf fr h) _=_
 rw [e]
 show Out.bind (evs xs cf fr h1) _=_
 rw [e'];rfl
theorem xI {op:Operator} (e:x cf fr h=.ok v h1) (e':y cf fr h1=.ok w h2) (eb:QC op v w h2=res):zV op x y cf fr h=res:=by
 unfold zV
 rw [e]
 show Out.bind (y cf fr h1) _=_
 rw [e'];exact eb
theorem ya (e:o cf fr h=.ok v h1) (e':i cf fr h1=.ok w h2) (eb:we h2 v w=some k):zn o i cf fr h=.ok k h2:=by
 unfold zn
 rw [e]
 show Out.bind (i cf fr h1) _=_
 rw [e']
 show Out.of (we h2 v w) h2=_
 rw [eb];rfl
theorem z5w (e:o cf fr h=.ok v h1) (e':l cf fr h1=.ok a' h2) (e'':u cf fr h2=.ok b' h3) (eb:z3f h3 v a' b'=res):Ym o l u cf fr h=res:=by
 unfold Ym
 rw [e]
 show Out.bind (l cf fr h1) _=_
 rw [e']
 show Out.bind (u cf fr h2) _=_
 rw [e''];exact eb
theorem wj {t:NTgt} {en:Bool} {body:XS} {src:Src} {m:Nat} (e:x cf fr h=.ok v h1) (es:yw h1 v=some (src,m)) (ef:yz t body src (m+1) 0 cf fr h1=resS):xz t x false body cf fr h=resS:=by
 unfold xz
 rw [e]
 show (match yw h1 v with | none=>OS.stuck | some (src,n)=>yz t body src (n+1) 0 cf fr h1)=_
 rw [es];exact ef
theorem zGy {is:List Nat} {body:XS} {m:Nat} (e:x cf fr h=.ok v h1) (es:yw h1 v=some (.ref a,m)) (ef:yz (.many is) body (.enum a) (m+1) 0 cf fr h1=resS):xz (.many is) x true body cf fr h=resS:=by
 unfold xz
 rw [e]
 show (match yw h1 v with | none=>OS.stuck | some (src,n)=>(match src with
   | .ref a=>yz (.many is) body (.enum a) (n+1) 0 cf fr h1
   | _=>.stuck))=_
 rw [es];exact ef
theorem yD (ev:evs xs cf fr h=.ok vs h1):zT xs cf fr h=.ok (.ref h1.length) (h1++[.list vs]):=by
 unfold zT;rw [ev];rfl
theorem xi (ev:evs xs cf fr h=.ok vs h1):xG xs cf fr h=.ok (.tup vs) h1:=by
 unfold xG;rw [ev];rfl
theorem yZ (e:x cf fr h=.ok v h1) {b:Bool} (eb:qE h1 v=some b):yT x cf fr h=.ok b h1:=by
 unfold yT;rw [e]
 show Out.of (qE h1 v) h1=_
 rw [eb];rfl
theorem zx {t:XT} {b:Bool} (e:t cf fr h=.ok b h1):yn t cf fr h=.ok (!b) h1:=by
 unfold yn;rw [e];rfl
theorem Xn (e:x cf fr h=.ok v h1) (eo:o cf fr h1=.ok w h2) (ei:i cf fr h2=.ok k h3) {h4:Hp} (es:wF h3 w k v=some h4):zA okf (.item o i) x cf fr h=.ok .next fr h4:=by
 unfold zA
 rw [e]
 show Out.bindS (o cf fr h1) fr _=_
 rw [eo]
 show Out.bindS (i cf fr h2) fr _=_
 rw [ei]
 show (match wF h3 w k v with | some h₄=>OS.ok .next fr h₄ | none=>.stuck)=_
 rw [es]
theorem zb {op:CmpOp} {b:Bool} (e:x cf fr h=.ok v h1) (e':y cf fr h1=.ok w h2) (eb:xQ op v w h2=some b):zj x [op] [y] cf fr h=.ok b h2:=by
 unfold zj
 rw [e]
 show wY v [op] [y] cf fr h1=_
 rw [XG,e']
 show Out.of (xQ op v w h2) h2=_
 rw [eb];rfl
theorem yv {t:XT} {ts:List XT} {b:Bool} (e:t cf fr h=.ok false h1) (e':y8 .Or ts cf fr h1=.ok b h2):y8 .Or (t::ts) cf fr h=.ok b h2:=by
 show (t cf fr h).bind _=_
 rw [e];exact e'
theorem jk {t:XT} {ts:List XT} (e:t cf fr h=.ok true h1):y8 .Or (t::ts) cf fr h=.ok true h1:=by
 show (t cf fr h).bind _=_
 rw [e];rfl
theorem qU:y8 .Or [] cf fr h=.ok false h:=rfl
theorem Qf {t:XT} {ts:List XT} {b:Bool} (e:t cf fr h=.ok true h1) (e':y8 .And ts cf fr h1=.ok b h2):y8 .And (t::ts) cf fr h=.ok b h2:=by
 show (t cf fr h).bind _=_
 rw [e];exact e'
theorem Z6 {t:XT} {ts:List XT} (e:t cf fr h=.ok false h1):y8 .And (t::ts) cf fr h=.ok false h1:=by
 show (t cf fr h).bind _=_
 rw [e];rfl
theorem Xp:y8 .And [] cf fr h=.ok true h:=rfl
end
theorem Xo {cf:CF} {fr:AFr} {h h1 h2:Hp} {x y:XE} {zs:List XE} {v w:AV} {op op':CmpOp} {ops:List CmpOp} (e:x cf fr h=.ok v h1) (e':y cf fr h1=.ok w h2) (eb:xQ op v w h2=some false):zj x (op::op'::ops) (y::zs) cf fr h=.ok false h2:=by
 unfold zj
 rw [e]
 show wY v (op::op'::ops) (y::zs) cf fr h1=_
 rw [XF,e']
 show (match xQ op v w h2 with | some true=>_ | some false=>_ | none=>_)=_
 rw [eb]
theorem yi {cf:CF} {fr:AFr} {h h1 h2 h3:Hp} {x y z:XE} {v w u:AV} {b:Bool} {op op':CmpOp} (e:x cf fr h=.ok v h1) (e':y cf fr h1=.ok w h2) (eb:xQ op v w h2=some true) (ez:z cf fr h2=.ok u h3) (ec:xQ op' w u h3=some b):zj x [op,op'] [y,z] cf fr h=.ok b h3:=by
 unfold zj
 rw [e]
 show wY v [op,op'] [y,z] cf fr h1=_
 rw [XF,e']
 show (match xQ op v w h2 with | some true=>wY w [op'] [z] cf fr h2 | some false=>_ | none=>_)=_
 rw [eb]
 show wY w [op'] [z] cf fr h2=_
 rw [XG,ez]
 show Out.of (xQ op' w u h3) h3=_
 rw [ec];rfl
theorem qb {x:Int} {n:Nat} (h0:0≤x) (h1:x<n):x.toNat<n:=(Int.toNat_lt h0).mpr h1
theorem XR {x:Int} {n k:Nat} (h0:0≤x) (h1:x<((n+k:Nat):Int)) (h2:¬ x<n):x.toNat - n<k:=Nat.sub_lt_left_of_lt_add (Int.ofNat_le.mp (by rw [Int.toNat_of_nonneg h0];exact Int.not_lt.mp h2)) ((Int.toNat_lt h0).mpr h1)
theorem XU {x:Int} {n:Nat} (h0:0≤x) (h2:¬ x<n):((n+(x.toNat - n):Nat):Int)=x:=by
 rw [Nat.add_sub_cancel' (Int.ofNat_le.mp (by rw [Int.toNat_of_nonneg h0];exact Int.not_lt.mp h2)),Int.toNat_of_nonneg h0]
theorem QG {x:Int} {n:Nat} (k:Nat) (h:x<n):x<((n+k:Nat):Int):=Int.lt_of_lt_of_le h (Int.ofNat_le.mpr (Nat.le_add_right _ _))
theorem zGj {i j:Int} {m:Nat} (h0:0≤i) (h1:i<j) (h5:j≤i+5):min j.toNat m - i.toNat≤5:=by
 have h:=Int.toNat_le_toNat h5
 rw [show i+5=i+((5:Nat):Int) from rfl,Int.toNat_add_nat h0 5,Nat.add_comm] at h
 exact Nat.sub_le_of_le_add (Nat.le_trans (Nat.min_le_left _ _) h)
theorem WP {a b m:Nat} (h:a+m<200) (h':b≤m):a+b<200:=Nat.lt_of_le_of_lt (Nat.add_le_add_left h' a) h
end Mine
end
section
namespace Mine.LS
open PySem Mine
set_option maxRecDepth 100000
noncomputable def kB1 (okf:Str→Str→Bool):Fn:=⟨1,1,(zJ [(zi (wa .And [(zK (zI (some (.bi .isinstance))) [(z6 0),(zI (some (.bi .int)))]),(z0o (zK (zI (some (.bi .isinstance))) [(z6 0),(zI (some (.bi .bool)))]))]))])⟩
noncomputable def kB6 (okf:Str→Str→Bool):Fn:=⟨1,1,(zJ [(zA okf (.attr (z6 0) "line") (zT [])),(zA okf (.attr (z6 0) "flags") (zT []))])⟩
noncomputable def kAu (okf:Str→Str→Bool):Fn:=⟨2,2,(zJ [(sIf (y8 .Or [(yn (yT (zK (zI (some (.fn "is_whole"))) [(z6 1)]))),(yn (zj (z8 (.int 0)) [.LtE,.Lt] [(z6 1),(zK (zI (some (.bi .len))) [(zH (z6 0) "flags")])]))]) (zJ [(yh "NoSeat")]) (zJ []))])⟩
noncomputable def kCf (okf:Str→Str→Bool):Fn:=⟨2,4,(zJ [(zA okf (.names (.one 2)) (z8 (.int 0))),(sIf (zj (z6 1) [.IsNot] [(z8 .none)]) (zJ [(zM (z9 (z6 0) "need_seat" none [(z6 1)])),(zA okf (.names (.one 2)) (zV .Add (z9 (zH (z6 0) "line") "index" (some .index) [(z6 1)]) (z8 (.int 1))))]) (zJ [])),(zA okf (.names (.one 3)) (zK (zI (some (.bi .len))) [(zH (z6 0) "flags")])),(zM (z9 (zH (z6 0) "line") "insert" (some .insert) [(z6 2),(z6 3)])),(zM (z9 (zH (z6 0) "flags") "append" (some .append) [(z8 (.bool false))])),(zi (z6 3))])⟩
noncomputable def kB9 (okf:Str→Str→Bool):Fn:=⟨3,3,(zJ [(zM (z9 (z6 0) "need_seat" none [(z6 1)])),(zA okf (.item (zH (z6 0) "flags") (z6 1)) (z6 2))])⟩
noncomputable def kAw (okf:Str→Str→Bool):Fn:=⟨2,2,(zJ [(zM (z9 (z6 0) "need_seat" none [(z6 1)])),(zi (zn (zH (z6 0) "flags") (z6 1)))])⟩
noncomputable def kAs (okf:Str→Str→Bool):Fn:=⟨1,1,(zJ [(zi (z9 (zH (z6 0) "flags") "count" (some .count) [(z8 (.bool true))]))])⟩
noncomputable def kBx (okf:Str→Str→Bool):Fn:=⟨2,3,(zJ [(zM (z9 (z6 0) "need_seat" none [(z6 1)])),(zA okf (.names (.one 2)) (Ym (zH (z6 0) "line") (z8 .none) (z9 (zH (z6 0) "line") "index" (some .index) [(z6 1)]))),(zi (zK (zI (some (.bi .len))) [(xB (z6 2) 1 (.one 3) (y8 .And [(yT (zn (zH (z6 0) "flags") (z6 3)))]) (z6 3))]))])⟩
noncomputable def kB3 (okf:Str→Str→Bool):Fn:=⟨2,3,(zJ [(zA okf (.names (.one 2)) (xB (zH (z6 0) "line") 1 (.one 3) (y8 .And [(yT (zn (zH (z6 0) "flags") (z6 3)))]) (z6 3))),(sIf (y8 .Or [(yn (yT (zK (zI (some (.fn "is_whole"))) [(z6 1)]))),(yn (zj (z8 (.int 0)) [.LtE,.Lt] [(z6 1),(zK (zI (some (.bi .len))) [(z6 2)])]))]) (zJ [(yh "NoPlace")]) (zJ [])),(zi (zn (z6 2) (z6 1)))])⟩
noncomputable def kA2 (okf:Str→Str→Bool):Fn:=⟨3,3,(zJ [(zM (z9 (z6 0) "need_seat" none [(z6 1)])),(zM (z9 (z6 0) "need_seat" none [(z6 2)])),(zi (wV (z9 (zH (z6 0) "line") "index" (some .index) [(z6 1)]) [.Lt] [(z9 (zH (z6 0) "line") "index" (some .index) [(z6 2)])]))])⟩
noncomputable def kBu (okf:Str→Str→Bool):Fn:=⟨1,1,(zJ [(zi (zK (zI (some (.bi .list))) [(zH (z6 0) "line")]))])⟩
noncomputable def kCd (okf:Str→Str→Bool):Fn:=⟨1,1,(zJ [(zi (wa .And [(zK (zI (some (.bi .isinstance))) [(z6 0),(zI (some (.bi .str)))]),(zK (zI (some (.bi .all))) [(xB (z6 0) 1 (.one 1) (y8 .And []) (wV (z6 1) [.In] [(zI (some (.str " !\"#$&'()*+,-./0123456789:;<=>?@ABCDEFGHIJKLMNOPQRSTUVWXYZ[\\]^_`abcdefghijklmnopqrstuvwxyz{|}~\n")))]))])]))])⟩
noncomputable def kBj (okf:Str→Str→Bool):Fn:=⟨3,3,(zJ [(sIf (yn (yT (zK (zI (some (.fn "is_text"))) [(z6 1)]))) (zJ [(yh "BadText")]) (zJ [])),(sIf (y8 .Or [(yn (yT (zK (zI (some (.fn "is_whole"))) [(z6 2)]))),(yn (zj (z8 (.int 1)) [.LtE,.LtE] [(z6 2),(zI (some (.int 9)))]))]) (zJ [(yh "NoHand")]) (zJ [])),(zA okf (.attr (z6 0) "hands") (z6 2)),(zA okf (.attr (z6 0) "row") (zK (zI (some (.cls "Row"))) [])),(zA okf (.attr (z6 0) "owners") (zT [])),(zA okf (.attr (z6 0) "letters") (zT [])),(zA okf (.attr (z6 0) "firsts") (zT [])),(zA okf (.attr (z6 0) "moved") (zT [])),(zA okf (.attr (z6 0) "bringers") (zT [])),(zA okf (.attr (z6 0) "cutters") (zT [])),(zA okf (.attr (z6 0) "done") (zT [])),(zA okf (.attr (z6 0) "standing") (zT [])),(zA okf (.attr (z6 0) "lost") (zT [])),(zM (z9 (z6 0) "bring" none [(z6 1),(z8 .none),(z8 .none)]))])⟩
noncomputable def kBc (okf:Str→Str→Bool):Fn:=⟨4,6,(zJ [(zA okf (.names (.one 4)) (zT [])),(xz (.one 5) (z6 1) false (zJ [(zA okf (.names (.one 2)) (z9 (zH (z6 0) "row") "add" none [(z6 2)])),(zM (z9 (zH (z6 0) "owners") "append" (some .append) [(zK (zI (some (.bi .len))) [(zH (z6 0) "letters")])])),(zM (z9 (z6 4) "append" (some .append) [(zK (zI (some (.bi .len))) [(zH (z6 0) "letters")])])),(zM (z9 (zH (z6 0) "letters") "append" (some .append) [(z6 5)])),(zM (z9 (zH (z6 0) "firsts") "append" (some .append) [(z6 2)])),(zM (z9 (zH (z6 0) "moved") "append" (some .append) [(zT [])])),(zM (z9 (zH (z6 0) "bringers") "append" (some .append) [(z6 3)])),(zM (z9 (zH (z6 0) "cutters") "append" (some .append) [(zT [])])),(zM (z9 (zH (z6 0) "row") "take" none [(z6 2),(z8 (.bool true))]))])),(zi (z6 4))])⟩
noncomputable def kAk (okf:Str→Str→Bool):Fn:=⟨2,2,(zJ [(sIf (y8 .Or [(yn (yT (zK (zI (some (.fn "is_whole"))) [(z6 1)]))),(yn (zj (z8 (.int 0)) [.LtE,.Lt] [(z6 1),(zH (z6 0) "hands")]))]) (zJ [(yh "NoHand")]) (zJ []))])⟩
noncomputable def kAh (okf:Str→Str→Bool):Fn:=⟨2,2,(zJ [(sIf (y8 .Or [(yn (yT (zK (zI (some (.fn "is_whole"))) [(z6 1)]))),(yn (zj (z8 (.int 0)) [.LtE,.Lt] [(z6 1),(zK (zI (some (.bi .len))) [(zH (z6 0) "letters")])]))]) (zJ [(yh "NoSeat")]) (zJ []))])⟩
noncomputable def kAd (okf:Str→Str→Bool):Fn:=⟨2,2,(zJ [(sIf (y8 .Or [(yn (yT (zK (zI (some (.fn "is_whole"))) [(z6 1)]))),(yn (zj (z8 (.int 0)) [.LtE,.LtE] [(z6 1),(z9 (z6 0) "size" none [])]))]) (zJ [(yh "NoPlace")]) (zJ []))])⟩
noncomputable def kAc (okf:Str→Str→Bool):Fn:=⟨3,3,(zJ [(zM (z9 (z6 0) "need_place" none [(z6 1)])),(zM (z9 (z6 0) "need_place" none [(z6 2)])),(sIf (zj (z6 1) [.GtE] [(z6 2)]) (zJ [(yh "NoPlace")]) (zJ []))])⟩
noncomputable def kAi (okf:Str→Str→Bool):Fn:=⟨2,2,(zJ [(sIf (y8 .Or [(yn (yT (zK (zI (some (.fn "is_whole"))) [(z6 1)]))),(yn (zj (z8 (.int 0)) [.LtE,.Lt] [(z6 1),(zK (zI (some (.bi .len))) [(zH (z6 0) "done")])]))]) (zJ [(yh "NoDeed")]) (zJ []))])⟩
noncomputable def kAq (okf:Str→Str→Bool):Fn:=⟨2,5,(zJ [(zA okf (.names (.one 2)) (zn (zH (z6 0) "firsts") (z6 1))),(xz (.many [3,4]) (zn (zH (z6 0) "moved") (z6 1)) false (zJ [(sIf (yT (zn (zH (z6 0) "standing") (z6 3))) (zJ [(zA okf (.names (.one 2)) (z6 4))]) (zJ []))])),(zi (z6 2))])⟩
noncomputable def kAn (okf:Str→Str→Bool):Fn:=⟨2,3,(zJ [(zA okf (.names (.one 2)) (zn (zH (z6 0) "bringers") (z6 1))),(sIf (y8 .And [(zj (z6 2) [.IsNot] [(z8 .none)]),(yn (yT (zn (zH (z6 0) "standing") (z6 2))))]) (zJ [(zi (z8 (.bool false)))]) (zJ [])),(zi (z0o (zK (zI (some (.bi .any))) [(xB (zn (zH (z6 0) "cutters") (z6 1)) 1 (.one 3) (y8 .And []) (zn (zH (z6 0) "standing") (z6 3)))])))])⟩
noncomputable def kA1 (okf:Str→Str→Bool):Fn:=⟨2,5,(zJ [(xz (.one 2) (z6 1) false (zJ [(zM (z9 (zH (z6 0) "row") "take" none [(zn (zH (z6 0) "firsts") (z6 2)),(z8 (.bool false))])),(xz (.many [3,4]) (zn (zH (z6 0) "moved") (z6 2)) false (zJ [(zM (z9 (zH (z6 0) "row") "take" none [(z6 4),(z8 (.bool false))]))])),(sIf (yT (z9 (z6 0) "is_shown" none [(z6 2)])) (zJ [(zM (z9 (zH (z6 0) "row") "take" none [(z9 (z6 0) "seat_of" none [(z6 2)]),(z8 (.bool true))]))]) (zJ []))]))])⟩
noncomputable def kBn (okf:Str→Str→Bool):Fn:=⟨1,1,(zJ [(zi (z9 (zH (z6 0) "row") "all_taken" none []))])⟩
noncomputable def kA9 (okf:Str→Str→Bool):Fn:=⟨1,1,(zJ [(zi (xB (z9 (zH (z6 0) "row") "order" none []) 1 (.one 1) (y8 .And [(yT (z9 (zH (z6 0) "row") "is_taken" none [(z6 1)]))]) (zn (zH (z6 0) "owners") (z6 1))))])⟩
noncomputable def kBl (okf:Str→Str→Bool):Fn:=⟨1,1,(zJ [(zi (z9 (z8 (.str "")) "join" (some .join) [(xB (z9 (z6 0) "shown" none []) 1 (.one 1) (y8 .And []) (zn (zH (z6 0) "letters") (z6 1)))]))])⟩
noncomputable def kBi (okf:Str→Str→Bool):Fn:=⟨1,1,(zJ [(zi (zK (zI (some (.bi .len))) [(zH (z6 0) "letters")]))])⟩
noncomputable def kAv (okf:Str→Str→Bool):Fn:=⟨2,2,(zJ [(zM (z9 (z6 0) "need_sign" none [(z6 1)])),(zi (zn (zH (z6 0) "letters") (z6 1)))])⟩
noncomputable def kAr (okf:Str→Str→Bool):Fn:=⟨2,2,(zJ [(zi (zn (zH (z6 0) "owners") (z9 (zH (z6 0) "row") "find" none [(z6 1)])))])⟩
noncomputable def kAo (okf:Str→Str→Bool):Fn:=⟨2,2,(zJ [(zM (z9 (z6 0) "need_sign" none [(z6 1)])),(zi (xG [(z9 (zH (z6 0) "row") "ahead" none [(z9 (z6 0) "seat_of" none [(z6 1)])]),(z9 (z6 0) "is_shown" none [(z6 1)])]))])⟩
noncomputable def kAm (okf:Str→Str→Bool):Fn:=⟨3,3,(zJ [(zM (z9 (z6 0) "need_sign" none [(z6 1)])),(zM (z9 (z6 0) "need_sign" none [(z6 2)])),(zi (z9 (zH (z6 0) "row") "is_ahead" none [(z9 (z6 0) "seat_of" none [(z6 1)]),(z9 (z6 0) "seat_of" none [(z6 2)])]))])⟩
noncomputable def kAe (okf:Str→Str→Bool):Fn:=⟨2,2,(zJ [(sIf (zj (z6 1) [.Eq] [(z8 (.int 0))]) (zJ [(zi (z8 .none))]) (zJ [])),(zi (z9 (zH (z6 0) "row") "find" none [(zV .Sub (z6 1) (z8 (.int 1)))]))])⟩
noncomputable def kBa (okf:Str→Str→Bool):Fn:=⟨4,4,(zJ [(zM (z9 (zH (z6 0) "done") "append" (some .append) [(xG [(z6 1),(z6 2),(z6 3)])])),(zM (z9 (z6 0) "seated" none [(z6 3)])),(zi (zV .Sub (zK (zI (some (.bi .len))) [(zH (z6 0) "done")]) (z8 (.int 1))))])⟩
noncomputable def kBt (okf:Str→Str→Bool):Fn:=⟨4,4,(zJ [(zM (z9 (z6 0) "need_hand" none [(z6 1)])),(zM (z9 (z6 0) "need_place" none [(z6 2)])),(sIf (y8 .Or [(yn (yT (zK (zI (some (.fn "is_text"))) [(z6 3)]))),(zj (z6 3) [.Eq] [(z8 (.str ""))])]) (zJ [(yh "BadText")]) (zJ [])),(zM (z9 (zH (z6 0) "standing") "append" (some .append) [(z8 (.bool true))])),(zi (z9 (z6 0) "noted" none [(z6 1),(z8 (.str "put")),(z9 (z6 0) "bring" none [(z6 3),(z9 (z6 0) "seat_ahead" none [(z6 2)]),(zK (zI (some (.bi .len))) [(zH (z6 0) "done")])])]))])⟩
noncomputable def kBw (okf:Str→Str→Bool):Fn:=⟨4,6,(zJ [(zM (z9 (z6 0) "need_hand" none [(z6 1)])),(zM (z9 (z6 0) "need_stretch" none [(z6 2),(z6 3)])),(zA okf (.names (.one 4)) (Ym (z9 (z6 0) "shown" none []) (z6 2) (z6 3))),(zM (z9 (zH (z6 0) "standing") "append" (some .append) [(z8 (.bool true))])),(xz (.one 5) (z6 4) false (zJ [(zM (z9 (zn (zH (z6 0) "cutters") (z6 5)) "append" (some .append) [(zK (zI (some (.bi .len))) [(zH (z6 0) "done")])]))])),(zi (z9 (z6 0) "noted" none [(z6 1),(z8 (.str "cut")),(z6 4)]))])⟩
noncomputable def kBq (okf:Str→Str→Bool):Fn:=⟨5,8,(zJ [(zM (z9 (z6 0) "need_hand" none [(z6 1)])),(zM (z9 (z6 0) "need_stretch" none [(z6 2),(z6 3)])),(zM (z9 (z6 0) "need_place" none [(z6 4)])),(sIf (zj (z6 2) [.Lt,.Lt] [(z6 4),(z6 3)]) (zJ [(yh "NoPlace")]) (zJ [])),(zA okf (.names (.one 5)) (Ym (z9 (z6 0) "shown" none []) (z6 2) (z6 3))),(zA okf (.names (.one 6)) (z9 (z6 0) "seat_ahead" none [(z6 4)])),(zM (z9 (zH (z6 0) "standing") "append" (some .append) [(z8 (.bool true))])),(xz (.one 7) (z6 5) false (zJ [(zA okf (.names (.one 6)) (z9 (zH (z6 0) "row") "add" none [(z6 6)])),(zM (z9 (zH (z6 0) "owners") "append" (some .append) [(z6 7)])),(zM (z9 (zn (zH (z6 0) "moved") (z6 7)) "append" (some .append) [(xG [(zK (zI (some (.bi .len))) [(zH (z6 0) "done")]),(z6 6)])]))])),(zi (z9 (z6 0) "noted" none [(z6 1),(z8 (.str "move")),(z6 5)]))])⟩
noncomputable def kA5 (okf:Str→Str→Bool):Fn:=⟨1,1,(zJ [(zi (zK (zI (some (.bi .len))) [(zH (z6 0) "done")]))])⟩
noncomputable def kBk (okf:Str→Str→Bool):Fn:=⟨2,5,(zJ [(zM (z9 (z6 0) "need_deed" none [(z6 1)])),(zA okf (.names (.many [2,3,4])) (zn (zH (z6 0) "done") (z6 1))),(zi (xG [(z6 2),(z6 3),(zK (zI (some (.bi .list))) [(z6 4)])]))])⟩
noncomputable def kAx (okf:Str→Str→Bool):Fn:=⟨2,2,(zJ [(zM (z9 (z6 0) "need_deed" none [(z6 1)])),(zi (zn (zH (z6 0) "standing") (z6 1)))])⟩
noncomputable def kAj (okf:Str→Str→Bool):Fn:=⟨2,2,(zJ [(sIf (yn (yT (z9 (z6 0) "stands" none [(z6 1)]))) (zJ [(yh "NoDeed")]) (zJ [])),(zA okf (.item (zH (z6 0) "standing") (z6 1)) (z8 (.bool false))),(zM (z9 (zH (z6 0) "lost") "append" (some .append) [(z6 1)])),(zM (z9 (z6 0) "seated" none [(zn (zn (zH (z6 0) "done") (z6 1)) (z8 (.int 2)))]))])⟩
noncomputable def kAp (okf:Str→Str→Bool):Fn:=⟨2,2,(zJ [(sIf (yT (z9 (z6 0) "stands" none [(z6 1)])) (zJ [(yh "NoDeed")]) (zJ [])),(zA okf (.item (zH (z6 0) "standing") (z6 1)) (z8 (.bool true))),(zM (z9 (zH (z6 0) "lost") "remove" none [(z6 1)])),(zM (z9 (z6 0) "seated" none [(zn (zn (zH (z6 0) "done") (z6 1)) (z8 (.int 2)))]))])⟩
noncomputable def kAa (okf:Str→Str→Bool):Fn:=⟨2,4,(zJ [(zM (z9 (z6 0) "need_hand" none [(z6 1)])),(zA okf (.names (.one 2)) (z8 .none)),(xz (.one 3) (zK (zI (some (.bi .range))) [(zK (zI (some (.bi .len))) [(zH (z6 0) "done")])]) false (zJ [(sIf (y8 .And [(zj (zn (zn (zH (z6 0) "done") (z6 3)) (z8 (.int 0))) [.Eq] [(z6 1)]),(yT (zn (zH (z6 0) "standing") (z6 3)))]) (zJ [(zA okf (.names (.one 2)) (z6 3))]) (zJ []))])),(zi (z6 2))])⟩
noncomputable def kAl (okf:Str→Str→Bool):Fn:=⟨2,4,(zJ [(zM (z9 (z6 0) "need_hand" none [(z6 1)])),(zA okf (.names (.one 2)) (z8 .none)),(xz (.one 3) (zH (z6 0) "lost") false (zJ [(sIf (zj (zn (zn (zH (z6 0) "done") (z6 3)) (z8 (.int 0))) [.Eq] [(z6 1)]) (zJ [(zA okf (.names (.one 2)) (z6 3))]) (zJ []))])),(zi (z6 2))])⟩
noncomputable def kBm (okf:Str→Str→Bool):Fn:=⟨2,2,(zJ [(zA okf (.attr (z6 0) "sheet") (z6 1)),(zA okf (.attr (z6 0) "kept") wZ),(zA okf (.attr (z6 0) "coming") (z8 (.int 0)))])⟩
noncomputable def kAf (okf:Str→Str→Bool):Fn:=⟨2,2,(zJ [(sIf (y8 .Or [(yn (yT (zK (zI (some (.fn "is_whole"))) [(z6 1)]))),(zj (z6 1) [.NotIn] [(zH (z6 0) "kept")])]) (zJ [(yh "NoMark")]) (zJ []))])⟩
noncomputable def kBe (okf:Str→Str→Bool):Fn:=⟨3,5,(zJ [(zM (z9 (zH (z6 0) "sheet") "need_hand" none [(z6 1)])),(zA okf (.names (.one 3)) (z9 (zH (z6 0) "sheet") "sign_at" none [(z6 2)])),(zA okf (.names (.one 4)) (zH (z6 0) "coming")),(zA okf (.attr (z6 0) "coming") (zV .Add (z6 4) (z8 (.int 1)))),(zA okf (.item (zH (z6 0) "kept") (z6 4)) (xG [(z6 1),(z6 3)])),(zi (z6 4))])⟩
noncomputable def kBp (okf:Str→Str→Bool):Fn:=⟨2,2,(zJ [(zM (z9 (z6 0) "need_mark" none [(z6 1)])),(zM (z9 (zH (z6 0) "kept") "pop" none [(z6 1)]))])⟩
noncomputable def kBr (okf:Str→Str→Bool):Fn:=⟨2,2,(zJ [(zM (z9 (z6 0) "need_mark" none [(z6 1)])),(zi (zn (zn (zH (z6 0) "kept") (z6 1)) (z8 (.int 1))))])⟩
noncomputable def kBh (okf:Str→Str→Bool):Fn:=⟨2,2,(zJ [(zi (z9 (zH (z6 0) "sheet") "place_of" none [(z9 (z6 0) "sign" none [(z6 1)])]))])⟩
noncomputable def kAt (okf:Str→Str→Bool):Fn:=⟨1,1,(zJ [(zi (zK (zI (some (.bi .sorted))) [(zH (z6 0) "kept")]))])⟩
noncomputable def kB8 (okf:Str→Str→Bool):Fn:=⟨2,2,(zJ [(zM (z9 (zH (z6 0) "sheet") "need_hand" none [(z6 1)])),(zi (xB (zK (zI (some (.bi .sorted))) [(zH (z6 0) "kept")]) 1 (.one 2) (y8 .And [(zj (zn (zn (zH (z6 0) "kept") (z6 2)) (z8 (.int 0))) [.Eq] [(z6 1)])]) (z6 2)))])⟩
noncomputable def kAz (okf:Str→Str→Bool):Fn:=⟨2,2,(zJ [(zA okf (.attr (z6 0) "sheet") (z6 1)),(zA okf (.attr (z6 0) "kept") wZ),(zA okf (.attr (z6 0) "coming") (z8 (.int 0)))])⟩
noncomputable def kAb (okf:Str→Str→Bool):Fn:=⟨2,2,(zJ [(sIf (y8 .Or [(yn (yT (zK (zI (some (.fn "is_whole"))) [(z6 1)]))),(zj (z6 1) [.NotIn] [(zH (z6 0) "kept")])]) (zJ [(yh "NoMark")]) (zJ []))])⟩
noncomputable def kA4 (okf:Str→Str→Bool):Fn:=⟨3,4,(zJ [(zM (z9 (zH (z6 0) "sheet") "need_stretch" none [(z6 1),(z6 2)])),(zA okf (.names (.one 3)) (zH (z6 0) "coming")),(zA okf (.attr (z6 0) "coming") (zV .Add (z6 3) (z8 (.int 1)))),(zA okf (.item (zH (z6 0) "kept") (z6 3)) (xG [(z9 (zH (z6 0) "sheet") "sign_at" none [(z6 1)]),(z9 (zH (z6 0) "sheet") "sign_at" none [(zV .Sub (z6 2) (z8 (.int 1)))])])),(zi (z6 3))])⟩
noncomputable def kA0 (okf:Str→Str→Bool):Fn:=⟨2,2,(zJ [(zM (z9 (z6 0) "need_thread" none [(z6 1)])),(zM (z9 (zH (z6 0) "kept") "pop" none [(z6 1)]))])⟩
noncomputable def kAy (okf:Str→Str→Bool):Fn:=⟨2,7,(zJ [(zM (z9 (z6 0) "need_thread" none [(z6 1)])),(zA okf (.names (.many [2,3])) (zn (zH (z6 0) "kept") (z6 1))),(sIf (yT (z9 (zH (z6 0) "sheet") "is_ahead" none [(z6 3),(z6 2)])) (zJ [yB]) (zJ [])),(zA okf (.names (.one 4)) (zn (z9 (zH (z6 0) "sheet") "place_of" none [(z6 2)]) (z8 (.int 0)))),(zA okf (.names (.many [5,6])) (z9 (zH (z6 0) "sheet") "place_of" none [(z6 3)])),(zi (xG [(z6 4),(zV .Add (z6 5) (zK (zI (some (.bi .int))) [(z6 6)]))]))])⟩
noncomputable def kAg (okf:Str→Str→Bool):Fn:=⟨1,1,(zJ [(zi (zK (zI (some (.bi .sorted))) [(zH (z6 0) "kept")]))])⟩
noncomputable def kA3 (okf:Str→Str→Bool):Fn:=⟨2,6,(zJ [(zM (z9 (zH (z6 0) "sheet") "sign_at" none [(z6 1)])),(zA okf (.names (.one 2)) (zT [])),(xz (.one 3) (zK (zI (some (.bi .sorted))) [(zH (z6 0) "kept")]) false (zJ [(zA okf (.names (.many [4,5])) (z9 (z6 0) "told" none [(z6 3)])),(sIf (zj (z6 4) [.LtE,.Lt] [(z6 1),(z6 5)]) (zJ [(zM (z9 (z6 2) "append" (some .append) [(z6 3)]))]) (zJ []))])),(zi (z6 2))])⟩
noncomputable def f_undo (okf:Str→Str→Bool):Fn:=⟨2,3,(zJ [(zA okf (.names (.one 2)) (z9 (z6 0) "last_standing" none [(z6 1)])),(sIf (zj (z6 2) [.Is] [(z8 .none)]) (zJ [(yh "NoDeed")]) (zJ [])),(zM (z9 (z6 0) "take_back" none [(z6 2)])),(zi (z6 2))])⟩
noncomputable def f_redo (okf:Str→Str→Bool):Fn:=⟨2,3,(zJ [(zA okf (.names (.one 2)) (z9 (z6 0) "last_gone" none [(z6 1)])),(sIf (zj (z6 2) [.Is] [(z8 .none)]) (zJ [(yh "NoDeed")]) (zJ [])),(zM (z9 (z6 0) "do_again" none [(z6 2)])),(zi (z6 2))])⟩
noncomputable def kBb (okf:Str→Str→Bool):Fn:=⟨2,2,(zJ [(sIf (zj (z6 1) [.Lt] [(zK (zI (some (.bi .len))) [(z6 0)])]) (zJ [(zi (zn (z6 0) (z6 1)))]) (zJ [])),(zi (z8 (.int 0)))])⟩
noncomputable def kBv (okf:Str→Str→Bool):Fn:=⟨2,3,(zJ [(zA okf (.names (.one 2)) (zV .Mod (zV .Add (zV .Add (zV .Mult (z6 0) (z8 (.int 48271))) (zV .Mult (z8 (.int 7919)) (z6 1))) (z8 (.int 12345))) (z8 (.int 2147483647)))),(zi (zV .Mod (zV .Mult (zV .Mod (zV .Mult (z6 2) (z6 2)) (z8 (.int 2147483647))) (z6 2)) (z8 (.int 2147483647))))])⟩
noncomputable def kA7 (okf:Str→Str→Bool):Fn:=⟨2,3,(zJ [(zA okf (.names (.one 2)) (z8 (.str " !\"#$&'()*+,-./0123456789:;<=>?@ABCDEFGHIJKLMNOPQRSTUVWXYZ[\\]^_`"))),(zA okf (.names (.one 2)) (zV .Add (z6 2) (z8 (.str "abcdefghijklmnopqrstuvwxyz{|}~\n")))),(zi (z9 (z8 (.str "")) "join" (some .join) [(xB (zK (zI (some (.bi .range))) [(z6 1)]) 1 (.one 3) (y8 .And []) (zn (z6 2) (zV .Mod (zV .FloorDiv (zK (zI (some (.fn "_law_mixed"))) [(z6 0),(z6 3)]) (z8 (.int 8))) (z8 (.int 95)))))]))])⟩
noncomputable def kA8 (okf:Str→Str→Bool):Fn:=⟨1,1,(zJ [(sIf (zj (zV .Mod (zV .FloorDiv (z6 0) (z8 (.int 13))) (z8 (.int 8))) [.Eq] [(z8 (.int 1))]) (zJ [(zi (zV .Add (z8 (.int 30)) (zV .Mod (zV .FloorDiv (z6 0) (z8 (.int 104))) (z8 (.int 31)))))]) (zJ [])),(zi (zV .Mod (z6 0) (z8 (.int 13))))])⟩
noncomputable def kA6 (okf:Str→Str→Bool):Fn:=⟨3,8,(zJ [(zA okf (.names (.one 3)) (zV .Mod (z6 0) (z6 2))),(zA okf (.names (.one 4)) (zV .Mod (zV .FloorDiv (z6 0) (z8 (.int 9))) (z8 (.int 8)))),(zA okf (.names (.one 5)) (zV .Mod (zV .FloorDiv (z6 0) (z8 (.int 72))) (zK (zI (some (.bi .max))) [(z8 (.int 1)),(z6 1)]))),(zA okf (.names (.one 6)) (zK (zI (some (.bi .min))) [(z6 1),(zV .Add (zV .Add (z6 5) (z8 (.int 1))) (zV .Mod (zV .FloorDiv (z6 0) (z8 (.int 1009))) (z8 (.int 5))))])),(zA okf (.names (.one 7)) (zV .Mod (zV .FloorDiv (z6 0) (z8 (.int 5003))) (zV .Add (z6 1) (z8 (.int 1))))),(sIf (y8 .Or [(zj (z6 4) [.Lt] [(z8 (.int 3))]),(zj (z6 1) [.Eq] [(z8 (.int 0))])]) (zJ [(zi (xG [(z6 3),(z8 (.str "put")),(z8 (.int 0)),(z8 (.int 0)),(z6 7),(zK (zI (some (.fn "_law_text_by"))) [(z6 0),(zV .Add (z8 (.int 1)) (zV .Mod (zV .FloorDiv (z6 0) (z8 (.int 30011))) (z8 (.int 4))))])]))]) (zJ [])),(sIf (zj (z6 4) [.Lt] [(z8 (.int 5))]) (zJ [(zi (xG [(z6 3),(z8 (.str "cut")),(z6 5),(z6 6),(z8 (.int 0)),(z8 (.str ""))]))]) (zJ [])),(sIf (zj (z6 5) [.Lt,.Lt] [(z6 7),(z6 6)]) (zJ [(zA okf (.names (.one 7)) (zn (zT [(z6 5),(z6 6)]) (zV .Mod (zV .FloorDiv (z6 0) (z8 (.int 60013))) (z8 (.int 2)))))]) (zJ [])),(zi (xG [(z6 3),(z8 (.str "move")),(z6 5),(z6 6),(z6 7),(z8 (.str ""))]))])⟩
noncomputable def kCk (okf:Str→Str→Bool):Fn:=⟨2,8,(zJ [(zA okf (.names (.many [2,3,4,5,6,7])) (z6 1)),(sIf (zj (z6 3) [.Eq] [(z8 (.str "put"))]) (zJ [(zi (z9 (z6 0) "put" none [(z6 2),(z6 6),(z6 7)]))]) (zJ [])),(sIf (zj (z6 3) [.Eq] [(z8 (.str "cut"))]) (zJ [(zi (z9 (z6 0) "cut" none [(z6 2),(z6 4),(z6 5)]))]) (zJ [])),(zi (z9 (z6 0) "move" none [(z6 2),(z6 4),(z6 5),(z6 6)]))])⟩
structure TT (T:Tab) (okf:Str→Str→Bool):Prop where
 kCj:okf "Row" "line" = true
 kCe:okf "Row" "flags" = true
 kCc:okf "Sheet" "hands" = true
 kCn:okf "Sheet" "row" = true
 kB5:okf "Sheet" "owners" = true
 kBy:okf "Sheet" "letters" = true
 kB7:okf "Sheet" "firsts" = true
 kCa:okf "Sheet" "moved" = true
 kBg:okf "Sheet" "bringers" = true
 kBs:okf "Sheet" "cutters" = true
 kCi:okf "Sheet" "done" = true
 kBo:okf "Sheet" "standing" = true
 kCl:okf "Sheet" "lost" = true
 okM_sheet:okf "Marks" "sheet" = true
 okM_kept:okf "Marks" "kept" = true
 okM_coming:okf "Marks" "coming" = true
 kCh:okf "Threads" "sheet" = true
 kCm:okf "Threads" "kept" = true
 kB4:okf "Threads" "coming" = true
 row:T.what "Row" = some .cls
 sheet:T.what "Sheet" = some .cls
 marks:T.what "Marks" = some .cls
 threads:T.what "Threads" = some .cls
 kB1:T.what "is_whole" = some (.fn (kB1 okf))
 kB6:T.meth "Row" "__init__" = some (kB6 okf)
 kAu:T.meth "Row" "need_seat" = some (kAu okf)
 kCf:T.meth "Row" "add" = some (kCf okf)
 kB9:T.meth "Row" "take" = some (kB9 okf)
 kAw:T.meth "Row" "is_taken" = some (kAw okf)
 kAs:T.meth "Row" "all_taken" = some (kAs okf)
 kBx:T.meth "Row" "ahead" = some (kBx okf)
 kB3:T.meth "Row" "find" = some (kB3 okf)
 kA2:T.meth "Row" "is_ahead" = some (kA2 okf)
 kBu:T.meth "Row" "order" = some (kBu okf)
 kCd:T.what "is_text" = some (.fn (kCd okf))
 kBj:T.meth "Sheet" "__init__" = some (kBj okf)
 kBc:T.meth "Sheet" "bring" = some (kBc okf)
 kAk:T.meth "Sheet" "need_hand" = some (kAk okf)
 kAh:T.meth "Sheet" "need_sign" = some (kAh okf)
 kAd:T.meth "Sheet" "need_place" = some (kAd okf)
 kAc:T.meth "Sheet" "need_stretch" = some (kAc okf)
 kAi:T.meth "Sheet" "need_deed" = some (kAi okf)
 kAq:T.meth "Sheet" "seat_of" = some (kAq okf)
 kAn:T.meth "Sheet" "is_shown" = some (kAn okf)
 kA1:T.meth "Sheet" "seated" = some (kA1 okf)
 kBn:T.meth "Sheet" "size" = some (kBn okf)
 kA9:T.meth "Sheet" "shown" = some (kA9 okf)
 kBl:T.meth "Sheet" "text" = some (kBl okf)
 kBi:T.meth "Sheet" "many" = some (kBi okf)
 kAv:T.meth "Sheet" "letter" = some (kAv okf)
 kAr:T.meth "Sheet" "sign_at" = some (kAr okf)
 kAo:T.meth "Sheet" "place_of" = some (kAo okf)
 kAm:T.meth "Sheet" "is_ahead" = some (kAm okf)
 kAe:T.meth "Sheet" "seat_ahead" = some (kAe okf)
 kBa:T.meth "Sheet" "noted" = some (kBa okf)
 kBt:T.meth "Sheet" "put" = some (kBt okf)
 kBw:T.meth "Sheet" "cut" = some (kBw okf)
 kBq:T.meth "Sheet" "move" = some (kBq okf)
 kA5:T.meth "Sheet" "deeds" = some (kA5 okf)
 kBk:T.meth "Sheet" "deed" = some (kBk okf)
 kAx:T.meth "Sheet" "stands" = some (kAx okf)
 kAj:T.meth "Sheet" "take_back" = some (kAj okf)
 kAp:T.meth "Sheet" "do_again" = some (kAp okf)
 kAa:T.meth "Sheet" "last_standing" = some (kAa okf)
 kAl:T.meth "Sheet" "last_gone" = some (kAl okf)
 kBm:T.meth "Marks" "__init__" = some (kBm okf)
 kAf:T.meth "Marks" "need_mark" = some (kAf okf)
 kBe:T.meth "Marks" "stick" = some (kBe okf)
 kBp:T.meth "Marks" "drop" = some (kBp okf)
 kBr:T.meth "Marks" "sign" = some (kBr okf)
 kBh:T.meth "Marks" "told" = some (kBh okf)
 kAt:T.meth "Marks" "numbers" = some (kAt okf)
 kB8:T.meth "Marks" "of" = some (kB8 okf)
 kAz:T.meth "Threads" "__init__" = some (kAz okf)
 kAb:T.meth "Threads" "need_thread" = some (kAb okf)
 kA4:T.meth "Threads" "tie" = some (kA4 okf)
 kA0:T.meth "Threads" "drop" = some (kA0 okf)
 kAy:T.meth "Threads" "told" = some (kAy okf)
 kAg:T.meth "Threads" "numbers" = some (kAg okf)
 kA3:T.meth "Threads" "over" = some (kA3 okf)
 f_undo:T.what "undo" = some (.fn (f_undo okf))
 f_redo:T.what "redo" = some (.fn (f_redo okf))
 kBb:T.what "_law_cell_at" = some (.fn (kBb okf))
 kBv:T.what "_law_mixed" = some (.fn (kBv okf))
 kA7:T.what "_law_text_by" = some (.fn (kA7 okf))
 kA8:T.what "_law_size_by" = some (.fn (kA8 okf))
 kA6:T.what "_law_deed_by" = some (.fn (kA6 okf))
 kCk:T.what "_law_do" = some (.fn (kCk okf))
noncomputable abbrev fs:List (Str×AV):=[("line",.ref 12),("flags",.ref 13)]
structure Z9 where
 a0:AO
 a1:AO
 a2:AO
 a3:AO
 a4:AO
 a5:AO
 a6:AO
 a7:AO
 a8:AO
noncomputable abbrev H (o0:Z9) (o1 o2:AO) (l:List Int) (b:List Bool) (r:Hp):Hp:=o0.a0::o0.a1::o0.a2::o0.a3::o0.a4::o0.a5::o0.a6::o0.a7::o0.a8::o1::o2::.inst "Row" fs::.list (l.map AV.int)::.list (b.map AV.bool)::r
theorem lk1:List.lookup ("line" : Str) fs=some (.ref 12):=rfl
theorem lk2:List.lookup ("flags" : Str) fs=some (.ref 13):=rfl
theorem lk3:List.lookup ("need_seat" : Str) fs=none:=rfl
noncomputable def qn (l:List Int) (k:Nat) (v:Int):List Int:=l.take k++v::l.drop k
theorem Jb (l:List Int) (k:Nat) (v:Int):xw (l.map AV.int) k (.int v)=(qn l k v).map AV.int:=by
 simp [Out.bind_ok,Out.bind0_ok,Out.bind_stuck,Out.of_some,Out.of_none,Out.bindS_ok,xw,qn,List.map_take,List.map_drop]
noncomputable def YG (c k:Int):Int :=
 let n:=(c * 48271+7919 * k+12345).fmod 2147483647
 ((n * n).fmod 2147483647 * n).fmod 2147483647
theorem z32 (z:Int):(z.fmod 2147483647).natAbs<9223372036854775808 :=
 Int.ofNat_lt.mp (by rw [Int.natAbs_of_nonneg (Int.fmod_nonneg_of_pos _ (by decide))];exact Int.lt_trans (Int.fmod_lt_of_pos _ (by decide)) (by decide))
noncomputable def fl (b:List Bool) (x:Int):Bool:=b[x.toNat]?.getD false
section
variable {T:Tab} {okf:Str→Str→Bool} (X:TT T okf) {n:Nat} {l:List Int} {b:List Bool} {r:Hp} {o0:Z9} {o1 o2:AO}
include X
theorem yE {i:Int} {h:Hp}:run T (n+1) (.fn "is_whole") [.int i] h=.ok (.bool true) h:=by
 rw [yc X.kB1]
 rfl
theorem J8:run T (n+1) (.meth "Row" "all_taken") [.ref 11] (H o0 o1 o2 l b r)=.ok (.int (b.countP id)) (H o0 o1 o2 l b r):=by
 rw [zG X.kAs]
 refine zO (fr:=[some (.ref 11)]) rfl rfl (fr':=[some (.ref 11)]) (zP (zo (jM (a:=13) (ys:=b.map AV.bool) (zR (z5 rfl) rfl lk2) rfl (ev1 rfl ev0) ?_)))
 rw [YJ]
 show Out.of ((wQ (H o0 o1 o2 l b r) (.ref 13) (.bool true)).map _) _=_
 rw [wP (l:=b) rfl];rfl
theorem zH2 (hs:l.length≤small):run T (n+1) (.meth "Row" "order") [.ref 11] (H o0 o1 o2 l b r)=.ok (.ref (r.length+14)) (H o0 o1 o2 l b (r++[.list (l.map AV.int)])):=by
 rw [zG X.kBu]
 refine zO (fr:=[some (.ref 11)]) rfl rfl (fr':=[some (.ref 11)]) (zP (zo (xl (ev1 (zR (z5 rfl) rfl lk1) ev0) ?_)))
 rw [Ji]
 exact if_pos (by rw [List.length_map];exact hs)
theorem z2p {fr:AFr} {cf:CF} (e0:fr[0]? = some (some (.ref 11))):zK (zI (some (.bi .len))) [zH (z6 0) "flags"] cf fr (H o0 o1 o2 l b r)=.ok (.int b.length) (H o0 o1 o2 l b r):=by
 refine xl (ev1 (zR (z5 e0) rfl lk2) ev0) ?_
 rw [qp,qI]
 show Out.ok (AV.int ((b.map AV.bool).length:Nat)) _=_
 rw [List.length_map]
theorem jW {i:Int} (h0:0≤i) (h1:i<b.length):run T (n+2) (.meth "Row" "need_seat") [.ref 11,.int i] (H o0 o1 o2 l b r)=.ok .none (H o0 o1 o2 l b r):=by
 rw [zG X.kAu]
 exact yI (fr:=[some (.ref 11),some (.int i)]) rfl rfl (fr':=[some (.ref 11),some (.int i)]) ((z7 ((zN (yv (zx (b:=true) (yZ (v:=.bool true) (zc (ev1 (z5 rfl) ev0) (yE X)) rfl)) (yv (zx (b:=true) (yi rfl (z5 rfl) (by rw [xV,decide_eq_true h0]) (z2p X rfl) (by rw [yS,decide_eq_true h1]))) qU))).trans zL)).trans zL)
omit X in
theorem WO {cf:CF} {v1:Option AV} {at_:Int} (X:TT T okf) (ha:okI at_=true) (hl:l.length<small) (hb:b.length<small) :
  zJ [(zA okf (.names (.one 3)) (zK (zI (some (.bi .len))) [(zH (z6 0) "flags")])),(zM (z9 (zH (z6 0) "line") "insert" (some .insert) [(z6 2),(z6 3)])),(zM (z9 (zH (z6 0) "flags") "append" (some .append) [(z8 (.bool false))])),(zi (z6 3))] cf [some (.ref 11),v1,some (.int at_),none] (H o0 o1 o2 l b r) =
   .ok (.ret (.int b.length)) [some (.ref 11),v1,some (.int at_),some (.int b.length)] (H o0 o1 o2 (qn l at_.toNat b.length) (b++[false]) r):=by
 have e1:yQ .insert (.ref 12) [.int at_,.int b.length] (H o0 o1 o2 l b r)=.ok .none (H o0 o1 o2 (qn l at_.toNat b.length) b r):=by
  rw [X7]
  show (if (l.map AV.int).length<small∧okI at_=true then Out.ok AV.none ((H o0 o1 o2 l b r).set 12 (.list (xw (l.map AV.int) at_.toNat (.int b.length)))) else .stuck)=_
  rw [if_pos ⟨by rw [List.length_map];exact hl,ha⟩,Jb];rfl
 have e2:yQ .append (.ref 13) [.bool false] (H o0 o1 o2 (qn l at_.toNat b.length) b r)=.ok .none (H o0 o1 o2 (qn l at_.toNat b.length) (b++[false]) r):=by
  rw [xD]
  show (if (b.map AV.bool).length<small then Out.ok AV.none ((H o0 o1 o2 (qn l at_.toNat b.length) b r).set 13 (.list (b.map AV.bool++[.bool false]))) else .stuck)=_
  rw [if_pos (by rw [List.length_map];exact hb),show b.map AV.bool++[.bool false]=(b++[false]).map AV.bool by rw [List.map_append];rfl];rfl
 exact (z7 (zd (j:=3) (z2p X rfl) (zU rfl))).trans ((z7 (zZ (jM (a:=12) (ys:=l.map AV.int) (zR (z5 rfl) rfl lk1) rfl (ev1 (z5 rfl) (ev1 (z5 rfl) ev0)) e1))).trans ((z7 (zZ (jM (a:=13) (ys:=b.map AV.bool) (zR (z5 rfl) rfl lk2) rfl (ev1 rfl ev0) e2))).trans (zP (zo (z5 rfl)))))
theorem z3z (hl:l.length<small) (hb:b.length<small):run T (n+3) (.meth "Row" "add") [.ref 11,.none] (H o0 o1 o2 l b r)=.ok (.int b.length) (H o0 o1 o2 (qn l 0 b.length) (b++[false]) r):=by
 rw [zG X.kCf]
 refine zO (fr:=[some (.ref 11),some .none,none,none]) rfl rfl (fr':=[some (.ref 11),some .none,some (.int 0),some (.int b.length)]) ?_
 unfold kCf
 dsimp only
 rw [z7 (zd (j:=2) (v:=.int 0) rfl (zU rfl)),z7 ((zN (zb (v:=.none) (w:=.none) (z5 rfl) rfl rfl)).trans zL)]
 exact WO (at_:=0) X rfl hl hb
theorem z3y {i:Int} {k:Nat} (h0:0≤i) (h1:i<b.length) (hk:l.findIdx? (· == i)=some k) (hl:l.length<small) (hb:b.length<small) :
  run T (n+3) (.meth "Row" "add") [.ref 11,.int i] (H o0 o1 o2 l b r)=.ok (.int b.length) (H o0 o1 o2 (qn l (k+1) b.length) (b++[false]) r):=by
 rw [zG X.kCf]
 have hk':k<l.length:=(List.findIdx?_eq_some_iff_getElem.mp hk).1
 have e0:yQ .index (.ref 12) [.int i] (H o0 o1 o2 l b r)=.ok (.int k) (H o0 o1 o2 l b r):=by
  rw [Qt]
  show (match jP (H o0 o1 o2 l b r) (.ref 12) (.int i) with | some k=>Out.ok (AV.int k) _ | none=>.stuck)=_
  rw [z0i (l:=l) rfl,hk]
 have e3:okI ((k:Int)+1)=true:=qf (k:=k+1) (Nat.le_trans hk' (Nat.le_of_lt hl))
 refine zO (fr:=[some (.ref 11),some (.int i),none,none]) rfl rfl (fr':=[some (.ref 11),some (.int i),some (.int ((k:Int)+1)),some (.int b.length)]) ?_
 unfold kCf
 dsimp only
 rw [z7 (zd (j:=2) (v:=.int 0) rfl (zU rfl)),z7 ((yM (zb (v:=.int i) (w:=.none) (z5 rfl) rfl rfl)).trans ((z7 (zZ (zC (a:=11) (z5 rfl) rfl lk3 (ev1 (z5 rfl) ev0) (jW X (n:=n) h0 h1)))).trans ((z7 (zd (j:=2) (v:=.int ((k:Int)+1)) (xI (jM (a:=12) (ys:=l.map AV.int) (zR (z5 rfl) rfl lk1) rfl (ev1 (z5 rfl) ev0) e0) (y:=z8 (.int 1)) rfl Y2) (zU rfl))).trans zL)))]
 exact WO (at_:=(k:Int)+1) X e3 hl hb
theorem z5t {i:Int} {v:Bool} (h0:0≤i) (h1:i<b.length) (hb:b.length≤small):run T (n+3) (.meth "Row" "take") [.ref 11,.int i,.bool v] (H o0 o1 o2 l b r)=.ok .none (H o0 o1 o2 l (b.set i.toNat v) r):=by
 rw [zG X.kB9]
 have e:wF (H o0 o1 o2 l b r) (.ref 13) (.int i) (.bool v)=some (H o0 o1 o2 l (b.set i.toNat v) r):=by
  rw [Zr]
  show (if 0≤i∧i<((b.map AV.bool).length:Nat)∧(b.map AV.bool).length≤small then some ((H o0 o1 o2 l b r).set 13 (.list ((b.map AV.bool).set i.toNat (.bool v)))) else none)=_
  rw [List.length_map,if_pos ⟨h0,h1,hb⟩,← List.map_set];rfl
 exact yI (fr:=[some (.ref 11),some (.int i),some (.bool v)]) rfl rfl (fr':=[some (.ref 11),some (.int i),some (.bool v)]) ((z7 (zZ (zC (a:=11) (z5 rfl) rfl lk3 (ev1 (z5 rfl) ev0) (jW X (n:=n) h0 h1)))).trans ((z7 (Xn (z5 rfl) (zR (z5 rfl) rfl lk2) (z5 rfl) e)).trans zL))
theorem z0d {i:Int} (h0:0≤i) (h1:i<b.length) (hb:b.length≤small):run T (n+3) (.meth "Row" "is_taken") [.ref 11,.int i] (H o0 o1 o2 l b r)=.ok (.bool (fl b i)) (H o0 o1 o2 l b r):=by
 rw [zG X.kAw]
 have h2:i.toNat<b.length:=qb h0 h1
 have h3:okI i=true:=by rw [← Int.toNat_of_nonneg h0];exact qf (Nat.le_trans (Nat.le_of_lt h2) hb)
 have e:we (H o0 o1 o2 l b r) (.ref 13) (.int i)=some (.bool (fl b i)):=by
  rw [xn h3]
  show (b.map AV.bool)[i.toNat]? = _
  unfold fl
  rw [List.getElem?_map,yO h2];rfl
 exact zO (fr:=[some (.ref 11),some (.int i)]) rfl rfl (fr':=[some (.ref 11),some (.int i)]) ((z7 (zZ (zC (a:=11) (z5 rfl) rfl lk3 (ev1 (z5 rfl) ev0) (jW X (n:=n) h0 h1)))).trans (zP (zo (ya (zR (z5 rfl) rfl lk2) (z5 rfl) e))))
theorem Z0 {is:List Int} {k:Int} {h:Hp} (h0:0≤k) (hs:is.length≤63):run T (n+1) (.fn "_law_cell_at") [.lst (is.map AV.int),.int k] h=.ok (.int (is[k.toNat]?.getD 0)) h:=by
 rw [yc X.kBb]
 have t:=zb (op:=.Lt) (b:=decide (k<is.length)) (z5 (i:=1) (cf:=run T n) (h:=h) (fr:=[some (.lst (is.map AV.int)),some (.int k)]) rfl) (xl (b:=.len) (res:=.ok (.int is.length) h) (ev1 (z5 (i:=0) rfl) ev0) (by rw [qp,z55,List.length_map];rfl)) yS
 by_cases hk:k<is.length
 ·have h2:=qb h0 hk
  rw [decide_eq_true hk] at t
  have e:we h (.lst (is.map AV.int)) (.int k)=some (.int (is[k.toNat]?.getD 0)):=by
   rw [z5e (by rw [← Int.toNat_of_nonneg h0];exact qf (Nat.le_trans (Nat.le_of_lt h2) (Nat.le_trans hs (by decide)))),List.getElem?_map,yO h2];rfl
  exact zO (fr:=[some (.lst (is.map AV.int)),some (.int k)]) rfl rfl (zP ((yM t).trans (zP (zo (ya (z5 rfl) (z5 rfl) e)))))
 ·rw [decide_eq_false hk] at t
  rw [List.getElem?_eq_none (Int.ofNat_le.mp (by rw [Int.toNat_of_nonneg h0];exact Int.not_lt.mp hk))]
  exact zO (fr:=[some (.lst (is.map AV.int)),some (.int k)]) rfl rfl ((z7 ((zN t).trans zL)).trans (zP (zo rfl)))
theorem Wj {c k:Int} {h:Hp}:run T (n+1) (.fn "_law_mixed") [.int c,.int k] h=.ok (.int (YG c k)) h:=by
 rw [yc X.kBv]
 have e1:zV .Mod (zV .Add (zV .Add (zV .Mult (z6 0) (z8 (.int 48271))) (zV .Mult (z8 (.int 7919)) (z6 1))) (z8 (.int 12345))) (z8 (.int 2147483647)) (run T n) [some (.int c),some (.int k),none] h=.ok (.int ((c * 48271+7919 * k+12345).fmod 2147483647)) h :=
  xI (xI (xI (xI (z5 rfl) rfl (Y0.trans (if_pos (.inr (by decide))))) (xI rfl (z5 rfl) (Y0.trans (if_pos (.inl (by decide))))) Y2) rfl Y2) rfl (Y1.trans (if_neg (by decide)))
 exact zO (fr:=[some (.int c),some (.int k),none]) rfl rfl ((z7 (zd (j:=2) e1 (zU rfl))).trans (zP (zo (xI (xI (xI (xI (z5 rfl) (z5 rfl) (Y0.trans (if_pos (.inl (z32 _))))) rfl (Y1.trans (if_neg (by decide)))) (z5 rfl) (Y0.trans (if_pos (.inl (z32 _))))) rfl (Y1.trans (if_neg (by decide)))))))
end
theorem jF {h:Hp} {a:Nat} {b:List Bool} {x:Int} (e:h[a]? = some (.list (b.map AV.bool))) (h0:0≤x) (h1:x<b.length) (hb:b.length≤small):we h (.ref a) (.int x)=some (.bool (fl b x)):=by
 have h2:x.toNat<b.length:=(Int.toNat_lt h0).mpr h1
 rw [xn (by rw [← Int.toNat_of_nonneg h0];exact qf (Nat.le_trans (Nat.le_of_lt h2) hb)),e]
 show (b.map AV.bool)[x.toNat]? = _
 unfold fl
 rw [List.getElem?_map,yO h2];rfl
theorem Zv {h:Hp} {a:Nat} {l:List Int} {x:Int} {y:Int} (e:h[a]? = some (.list (l.map AV.int))) (h0:0≤x) (hy:l[x.toNat]? = some y) (hb:l.length≤small):we h (.ref a) (.int x)=some (.int y):=by
 have h2:x.toNat<l.length:=(yj hy).1
 have h3:okI x=true:=by rw [← Int.toNat_of_nonneg h0];exact qf (Nat.le_trans (Nat.le_of_lt h2) hb)
 rw [xn h3,e]
 show (l.map AV.int)[x.toNat]? = _
 rw [List.getElem?_map,hy];rfl
section
variable {T:Tab} {okf:Str→Str→Bool} (X:TT T okf) {n:Nat} {l:List Int} {b:List Bool} {r:Hp} {o0:Z9} {o1 o2:AO}
noncomputable abbrev tk (b:List Bool) (l:List Int):List Int:=l.filter (fl b)
theorem QO {j:Nat} {cf:CF} {fr:AFr} {h:Hp} {x:Int} {b:List Bool} (e0:fr[0]? = some (some (.ref 11))) (ej:fr[j]? = some (some (.int x))) (g0:h[11]? = some (.inst "Row" fs)) (g2:h[13]? = some (.list (b.map AV.bool))) (h0:0≤x) (h1:x<b.length) (hb:b.length≤small) :
  y8 .And [yT (zn (zH (z6 0) "flags") (z6 j))] cf fr h=.ok (fl b x) h:=by
 have t:=yZ (ya (zR (z5 (cf:=cf) e0) g0 lk2) (z5 ej) (jF g2 h0 h1 hb)) JD
 cases hf:fl b x with
 | true=>rw [hf] at t;exact Qf t Xp
 | false=>rw [hf] at t;exact Z6 t
end
structure Good (l:List Int) (b:List Bool):Prop where
 perm:l.Perm ((List.range b.length).map fun (k:Nat)=>(k:Int))
 sm:b.length<200
theorem Good.len {l:List Int} {b:List Bool} (G:Good l b):l.length=b.length:=by rw [G.perm.length_eq,List.length_map,List.length_range]
theorem Good.rng {l:List Int} {b:List Bool} (G:Good l b):∀ x∈l,0≤x∧x<b.length:=fun x hx=>by
 obtain ⟨k,hk,rfl⟩:=List.mem_map.mp ((G.perm.mem_iff (a:=x)).mp hx)
 exact ⟨Int.natCast_nonneg _,Int.ofNat_lt.mpr (List.mem_range.mp hk)⟩
theorem Good.idx {l:List Int} {b:List Bool} (G:Good l b) {i:Int} (h0:0≤i) (h1:i<b.length):∃ k,l.findIdx? (· == i)=some k∧k<l.length:=by
 have:i∈l:=(G.perm.mem_iff (a:=i)).mpr (List.mem_map.mpr ⟨i.toNat,List.mem_range.mpr (qb h0 h1),Int.toNat_of_nonneg h0⟩)
 cases hk:l.findIdx? (· == i) with
 | none =>
  rw [List.findIdx?_eq_none_iff] at hk
  have:=hk i this
  rw [beq_self_eq_true] at this;exact nob this.symm
 | some k=>exact ⟨k,rfl,(List.findIdx?_eq_some_iff_getElem.mp hk).1⟩
theorem Good.sm' {l:List Int} {b:List Bool} (G:Good l b):l.length<small∧b.length<small:=by
 exact ⟨by rw [G.len];exact Nat.lt_trans G.sm (by decide),Nat.lt_trans G.sm (by decide)⟩
theorem Qe:∀ b:List Bool,(((List.range b.length).map fun (k:Nat)=>(k:Int)).filter (fl b)).length=b.countP id:=by
 intro b
 rw [← List.countP_eq_length_filter,List.countP_map]
 have:(fl b ∘ fun (k:Nat)=>(k:Int))=fun k=>b[k]?.getD false:=rfl
 rw [this]
 clear this
 induction b with
 | nil=>rfl
 | cons x b ih =>
  rw [List.length_cons,List.range_succ_eq_map,List.countP_cons,List.countP_map,List.countP_cons]
  have:((fun k=>(x::b)[k]?.getD false) ∘ Nat.succ)=fun k=>b[k]?.getD false:=rfl
  rw [this,ih]
  rfl
theorem Good.count {l:List Int} {b:List Bool} (G:Good l b):(tk b l).length=b.countP id:=by
 rw [← Qe b];exact (G.perm.filter _).length_eq
section
variable {T:Tab} {okf:Str→Str→Bool} (X:TT T okf) {n:Nat} {l:List Int} {b:List Bool} {r:Hp} {o0:Z9} {o1 o2:AO}
include X
theorem zHi {p:Int} (G:Good l b):zA okf (.names (.one 2)) (xB (zH (z6 0) "line") 1 (.one 3) (y8 .And [yT (zn (zH (z6 0) "flags") (z6 3))]) (z6 3)) (run T (n+2)) [some (.ref 11),some (.int p),none] (H o0 o1 o2 l b r) =
   .ok .next [some (.ref 11),some (.int p),some (.ref (r.length+14))] (H o0 o1 o2 l b (r++[.list ((tk b l).map AV.int)])) :=
 zd (j:=2) (qP AV.int (it:=zH (z6 0) "line") (own:=1) (i:=3) (a:=12) (test:=y8 .And [yT (zn (zH (z6 0) "flags") (z6 3))]) (elt:=z6 3) (cf:=run T (n+2)) (fr:=[some (.ref 11),some (.int p),none])
  (h:=H o0 o1 o2 l b r) (h1:=H o0 o1 o2 l b r) (l:=l) (p:=fl b) (f:=AV.int) rfl rfl (zU rfl) G.sm'.1
  (fun fr' a1 a2 x hx a3=>QO (by rw [a2 0 (by decide)];rfl) a3 rfl rfl (G.rng x hx).1 (G.rng x hx).2 (Nat.le_of_lt G.sm'.2))
  (fun fr' a1 a2 x hx a3=>z5 a3)) (zU rfl)
theorem zHj {p:Int}:zK (zI (some (.bi .len))) [z6 2] (run T (n+2)) [some (.ref 11),some (.int p),some (.ref (r.length+14))] (H o0 o1 o2 l b (r++[.list ((tk b l).map AV.int)]))=.ok (.int (tk b l).length) (H o0 o1 o2 l b (r++[.list ((tk b l).map AV.int)])) :=
 xl (ev1 (z5 rfl) ev0) (by rw [qp,qI,show (H o0 o1 o2 l b (r++[.list ((tk b l).map AV.int)]))[r.length+14]? = some (.list ((tk b l).map AV.int)) from zQ r _ [],← List.length_map AV.int];rfl)
theorem zGg {p:Int} (hp0:0≤p) (hp1:p<(tk b l).length) (G:Good l b) :
  ∃ g,run T (n+3) (.meth "Row" "find") [.ref 11,.int p] (H o0 o1 o2 l b r)=.ok (.int ((tk b l)[p.toNat]?.getD 0)) (H o0 o1 o2 l b (r++g)):=by
 refine ⟨[.list ((tk b l).map AV.int)],?_⟩
 rw [zG X.kB3]
 have h2:p.toNat<(tk b l).length:=(Int.toNat_lt hp0).mpr hp1
 have h3:okI p=true:=qH.mpr ⟨hp0,Int.lt_trans hp1 (Int.lt_of_le_of_lt (Int.ofNat_le.mpr (Nat.le_trans (List.length_filter_le _ _) (Nat.le_of_lt (G.len▸G.sm)))) (by decide))⟩
 have hi:we (H o0 o1 o2 l b (r++[.list ((tk b l).map AV.int)])) (.ref (r.length+14)) (.int p)=some (.int ((tk b l)[p.toNat]?.getD 0)):=by
  rw [xn h3,show (H o0 o1 o2 l b (r++[.list ((tk b l).map AV.int)]))[r.length+14]? = some (.list ((tk b l).map AV.int)) from zQ r _ []];show ((tk b l).map AV.int)[p.toNat]? = _;rw [List.getElem?_map,yO h2];rfl
 exact zO (fr:=[some (.ref 11),some (.int p),none]) rfl rfl (fr':=[some (.ref 11),some (.int p),some (.ref (r.length+14))]) ((z7 (zHi X (n:=n) G)).trans ((z7 ((zN (yv (zx (b:=true) (yZ (v:=.bool true) (zc (ev1 (z5 rfl) ev0) (yE X)) rfl)) (yv (zx (b:=true) (yi rfl (z5 rfl) (by rw [xV,decide_eq_true hp0]) (zHj X (n:=n)) (by rw [yS,decide_eq_true hp1]))) qU))).trans zL)).trans (zP (zo (ya (z5 rfl) (z5 rfl) hi)))))
end
set_option genInjectivity false
set_option genSizeOf false
structure Sh where
 g0:Z9
 g2:AO
 hands:Int
 l:List Int
 b:List Bool
 ow:List Int
 le:List Nat
 fi:List Int
 mv:List Nat
 br:List AV
 cu:List Nat
 dn:List AV
 st:List Bool
 lo:List Int
noncomputable abbrev fS (hands:Int):List (Str×AV):=[("hands",.int hands),("row",.ref 11),("owners",.ref 14),("letters",.ref 15),("firsts",.ref 16),("moved",.ref 17),("bringers",.ref 18),("cutters",.ref 19),("done",.ref 20),("standing",.ref 21),("lost",.ref 22)]
noncomputable abbrev ch (c:Nat):AV:=.str ⟨#[c]⟩
noncomputable abbrev rf (k:Nat):AV:=.ref (k+23)
noncomputable abbrev Sh.tl (S:Sh) (r:Hp):Hp:=.list (S.ow.map AV.int)::.list (S.le.map ch)::.list (S.fi.map AV.int)::.list (S.mv.map rf)::.list S.br::.list (S.cu.map rf)::.list S.dn::.list (S.st.map AV.bool)::.list (S.lo.map AV.int)::r
noncomputable abbrev Sh.hp (S:Sh) (r:Hp):Hp:=H S.g0 (.inst "Sheet" (fS S.hands)) S.g2 S.l S.b (S.tl r)
theorem kS1 {h:Int}:List.lookup ("hands" : Str) (fS h)=some (.int h):=rfl
theorem kS2 {h:Int}:List.lookup ("row" : Str) (fS h)=some (.ref 11):=rfl
theorem kS3 {h:Int}:List.lookup ("owners" : Str) (fS h)=some (.ref 14):=rfl
theorem kS4 {h:Int}:List.lookup ("letters" : Str) (fS h)=some (.ref 15):=rfl
theorem kS5 {h:Int}:List.lookup ("firsts" : Str) (fS h)=some (.ref 16):=rfl
theorem kS6 {h:Int}:List.lookup ("moved" : Str) (fS h)=some (.ref 17):=rfl
theorem kS7 {h:Int}:List.lookup ("bringers" : Str) (fS h)=some (.ref 18):=rfl
theorem kS8 {h:Int}:List.lookup ("cutters" : Str) (fS h)=some (.ref 19):=rfl
theorem kS9 {h:Int}:List.lookup ("done" : Str) (fS h)=some (.ref 20):=rfl
theorem z2u {h:Int}:List.lookup ("standing" : Str) (fS h)=some (.ref 21):=rfl
theorem zJt {h:Int}:List.lookup ("lost" : Str) (fS h)=some (.ref 22):=rfl
theorem ze {h:Int}:List.lookup ("need_hand" : Str) (fS h)=none:=rfl
theorem zu {h:Int}:List.lookup ("need_place" : Str) (fS h)=none:=rfl
theorem yG {h:Int}:List.lookup ("need_stretch" : Str) (fS h)=none:=rfl
theorem wI {h:Int}:List.lookup ("size" : Str) (fS h)=none:=rfl
theorem z2k {h:Int}:List.lookup ("bring" : Str) (fS h)=none:=rfl
theorem jN {h:Int}:List.lookup ("seat_ahead" : Str) (fS h)=none:=rfl
theorem YO {h:Int}:List.lookup ("noted" : Str) (fS h)=none:=rfl
theorem z06 {h:Int}:List.lookup ("seated" : Str) (fS h)=none:=rfl
theorem Qu {h:Int}:List.lookup ("is_shown" : Str) (fS h)=none:=rfl
theorem Wn {h:Int}:List.lookup ("seat_of" : Str) (fS h)=none:=rfl
theorem YM {h:Int}:List.lookup ("shown" : Str) (fS h)=none:=rfl
theorem YQ {h:Int}:List.lookup ("deeds" : Str) (fS h)=none:=rfl
theorem YN {h:Int}:List.lookup ("put" : Str) (fS h)=none:=rfl
theorem Z8 {h:Int}:List.lookup ("cut" : Str) (fS h)=none:=rfl
theorem wK {h:Int}:List.lookup ("move" : Str) (fS h)=none:=rfl
theorem xa {h:Int}:List.lookup ("need_sign" : Str) (fS h)=none:=rfl
theorem wJ {h:Int}:List.lookup ("need_deed" : Str) (fS h)=none:=rfl
theorem jC {h:Int}:List.lookup ("stands" : Str) (fS h)=none:=rfl
theorem z2m:List.lookup ("add" : Str) fs=none:=rfl
theorem JV:List.lookup ("take" : Str) fs=none:=rfl
theorem Qv:List.lookup ("is_taken" : Str) fs=none:=rfl
theorem Xx:List.lookup ("all_taken" : Str) fs=none:=rfl
theorem Xw:List.lookup ("find" : Str) fs=none:=rfl
theorem z2l:List.lookup ("order" : Str) fs=none:=rfl
section
variable {T:Tab} {okf:Str→Str→Bool} (X:TT T okf) {n:Nat} {S:Sh} {r:Hp}
include X
theorem yP {i:Int} (h0:0≤i) (h1:i<S.hands):run T (n+2) (.meth "Sheet" "need_hand") [.ref 9,.int i] (S.hp r)=.ok .none (S.hp r):=by
 rw [zG X.kAk]
 exact yI (fr:=[some (.ref 9),some (.int i)]) rfl rfl (fr':=[some (.ref 9),some (.int i)]) ((z7 ((zN (yv (zx (b:=true) (yZ (v:=.bool true) (zc (ev1 (z5 rfl) ev0) (yE X)) rfl)) (yv (zx (b:=true) (yi rfl (z5 rfl) (by rw [xV,decide_eq_true h0]) (zR (z5 rfl) rfl kS1) (by rw [yS,decide_eq_true h1]))) qU))).trans zL)).trans zL)
theorem Y8:run T (n+2) (.meth "Sheet" "size") [.ref 9] (S.hp r)=.ok (.int (S.b.countP id)) (S.hp r):=by
 rw [zG X.kBn]
 exact zO (fr:=[some (.ref 9)]) rfl rfl (fr':=[some (.ref 9)]) (zP (zo (zC (a:=11) (zR (z5 rfl) rfl kS2) rfl Xx ev0 (J8 X (n:=n) (o0:=S.g0) (o1:=.inst "Sheet" (fS S.hands)) (o2:=S.g2) (l:=S.l) (b:=S.b) (r:=S.tl r)))))
theorem yf {i:Int} (h0:0≤i) (h1:i≤S.b.countP id):run T (n+3) (.meth "Sheet" "need_place") [.ref 9,.int i] (S.hp r)=.ok .none (S.hp r):=by
 rw [zG X.kAd]
 exact yI (fr:=[some (.ref 9),some (.int i)]) rfl rfl (fr':=[some (.ref 9),some (.int i)]) ((z7 ((zN (yv (zx (b:=true) (yZ (v:=.bool true) (zc (ev1 (z5 rfl) ev0) (yE X)) rfl)) (yv (zx (b:=true) (yi rfl (z5 rfl) (by rw [xV,decide_eq_true h0]) (zC (a:=9) (z5 rfl) rfl wI ev0 (Y8 X (n:=n))) (by rw [xV,decide_eq_true h1]))) qU))).trans zL)).trans zL)
theorem xP {i j:Int} (h0:0≤i) (h1:i<j) (h2:j≤S.b.countP id):run T (n+4) (.meth "Sheet" "need_stretch") [.ref 9,.int i,.int j] (S.hp r)=.ok .none (S.hp r):=by
 rw [zG X.kAc]
 have j0:=Int.le_trans h0 (Int.le_of_lt h1)
 exact yI (fr:=[some (.ref 9),some (.int i),some (.int j)]) rfl rfl (fr':=[some (.ref 9),some (.int i),some (.int j)]) ((z7 (zZ (zC (a:=9) (z5 rfl) rfl zu (ev1 (z5 rfl) ev0) (yf X (n:=n) h0 (Int.le_trans (Int.le_of_lt h1) h2))))).trans ((z7 (zZ (zC (a:=9) (z5 rfl) rfl zu (ev1 (z5 rfl) ev0) (yf X (n:=n) j0 h2)))).trans ((z7 ((zN (zb (v:=.int i) (w:=.int j) (z5 rfl) (z5 rfl) (by rw [z3j,decide_eq_false (Int.not_le.mpr h1)]))).trans zL)).trans zL)))
theorem Xj:run T (n+1) (.meth "Sheet" "seat_ahead") [.ref 9,.int 0] (S.hp r)=.ok .none (S.hp r):=by
 rw [zG X.kAe]
 have t:=zb (op:=.Eq) (y:=z8 (.int 0)) (w:=.int 0) (b:=true) (z5 (i:=1) (cf:=run T n) (h:=S.hp r) (fr:=[some (.ref 9),some (.int 0)]) rfl) rfl (by rw [xN,qK];rfl)
 refine zO (fr:=[some (.ref 9),some (.int 0)]) rfl rfl (fr':=[some (.ref 9),some (.int 0)]) ?_
 unfold kAe
 dsimp only
 exact zP ((yM t).trans (zP (zo rfl)))
theorem Qb {p:Int} (h0:0<p) (h1:p≤(tk S.b S.l).length) (G:Good S.l S.b) :
  ∃ g,run T (n+4) (.meth "Sheet" "seat_ahead") [.ref 9,.int p] (S.hp r)=.ok (.int ((tk S.b S.l)[(p - 1).toNat]?.getD 0)) (S.hp (r++g)):=by
 obtain ⟨g,e⟩:=zGg X (n:=n) (l:=S.l) (b:=S.b) (o0:=S.g0) (o1:=.inst "Sheet" (fS S.hands)) (o2:=S.g2) (r:=S.tl r) (p:=p - 1) (Int.sub_nonneg_of_le h0) (Int.lt_of_lt_of_le (Int.sub_one_lt_of_le (Int.le_refl p)) h1) G
 refine ⟨g,?_⟩
 rw [zG X.kAe]
 exact zO (fr:=[some (.ref 9),some (.int p)]) rfl rfl (fr':=[some (.ref 9),some (.int p)]) ((z7 ((zN (zb (v:=.int p) (w:=.int 0) (z5 rfl) rfl (by rw [xN,qK,decide_eq_false (Int.ne_of_gt h0)]))).trans zL)).trans (zP (zo (zC (a:=11) (zR (z5 rfl) rfl kS2) rfl Xw (ev1 (xI (z5 rfl) (y:=z8 (.int 1)) rfl Zz) ev0) e))))
end
noncomputable def Sh.sh (S:Sh):List Int:=(tk S.b S.l).map fun x=>S.ow[x.toNat]?.getD 0
noncomputable def Sh.cs (S:Sh):List Nat:=S.sh.map fun i=>S.le[i.toNat]?.getD 0
noncomputable abbrev tx (t:List Nat):Str:=⟨t.toArray⟩
theorem Xb (a c:List Nat):tx a++tx c=tx (a++c):=by
 show Str.append _ _=_
 unfold Str.append tx
 rw [← List.append_toArray]
theorem YV (cs:List Nat):Str.join ("" : Str) (cs.map fun c=>(⟨#[c]⟩:Str))=tx cs:=by
 induction cs with
 | nil=>rfl
 | cons c cs ih =>
  cases cs with
  | nil=>rfl
  | cons d cs =>
   show (⟨#[c]⟩:Str)++("" : Str)++Str.join ("" : Str) ((d::cs).map fun c=>(⟨#[c]⟩:Str))=_
   rw [ih]
   show (tx [c]++tx [])++tx (d::cs)=_
   rw [Xb,Xb];rfl
theorem QP (cs:List Nat):((cs.map fun c=>(⟨#[c]⟩:Str)).map (·.length)).sum=cs.length:=by
 induction cs with
 | nil=>rfl
 | cons c cs ih=>rw [List.map_cons,List.map_cons,List.sum_cons,ih,List.length_cons,Nat.add_comm];rfl
structure Ok1 (S:Sh):Prop where
 G:Good S.l S.b
 ow:S.ow.length=S.b.length
 own:∀ i∈S.ow,0≤i∧i<S.le.length
 le:S.le.length<200
theorem Ok1.at_ {S:Sh} (K:Ok1 S) {x:Int} (hx:x∈S.l):∃ y,S.ow[x.toNat]? = some y∧0≤y∧y<S.le.length:=by
 obtain ⟨h0,h1⟩:=K.G.rng x hx
 have h2:x.toNat<S.ow.length:=by rw [K.ow];exact qb h0 h1
 exact ⟨S.ow[x.toNat],yO h2,K.own _ (List.getElem_mem h2)⟩
theorem Ok1.sh_mem {S:Sh} (K:Ok1 S) {i:Int} (hi:i∈S.sh):0≤i∧i<S.le.length:=by
 obtain ⟨x,hx,rfl⟩:=List.mem_map.mp hi
 obtain ⟨y,e,h⟩:=K.at_ (List.mem_filter.mp hx).1
 rw [e];exact h
section
variable {T:Tab} {okf:Str→Str→Bool} (X:TT T okf) {n:Nat} {S:Sh} {r:Hp}
include X
theorem WX (K:Ok1 S):run T (n+4) (.meth "Sheet" "shown") [.ref 9] (S.hp r)=.ok (.ref (r.length+24)) (S.hp (r++[.list (S.l.map AV.int),.list (S.sh.map AV.int)])):=by
 have lsm:=K.G.sm'
 rw [zG X.kA9]
 have eo:=zH2 X (n:=n+2) (l:=S.l) (b:=S.b) (o0:=S.g0) (o1:=.inst "Sheet" (fS S.hands)) (o2:=S.g2) (r:=S.tl r) (Nat.le_of_lt lsm.1)
 have e1:z9 (zH (z6 0) "row") "order" none [] (run T (n+3)) [some (.ref 9)] (S.hp r)=.ok (.ref (r.length+23)) (S.hp (r++[.list (S.l.map AV.int)])):=by
  exact zC (a:=11) (zR (z5 rfl) rfl kS2) rfl z2l ev0 eo
 have hg:(S.hp (r++[.list (S.l.map AV.int)]))[r.length+23]? = some (.list (S.l.map AV.int)):=zQ r _ []
 have ec:=qP AV.int (own:=1) (i:=1) (test:=y8 .And [yT (z9 (zH (z6 0) "row") "is_taken" none [z6 1])]) (elt:=zn (zH (z6 0) "owners") (z6 1)) (l:=S.l) (p:=fl S.b) (f:=fun x=>AV.int (S.ow[x.toNat]?.getD 0)) e1 hg (by decide) lsm.1
  (fun fr' a1 a2 x hx a3=>by
   have a0:=a2 0 (by decide)
   have z:=z0d X (n:=n) (l:=S.l) (b:=S.b) (o0:=S.g0) (o1:=.inst "Sheet" (fS S.hands)) (o2:=S.g2) (r:=S.tl (r++[.list (S.l.map AV.int)])) (K.G.rng x hx).1 (K.G.rng x hx).2 (Nat.le_of_lt lsm.2)
   have c0:=z5 (cf:=run T (n+3)) (h:=S.hp (r++[.list (S.l.map AV.int)])) (show fr'[0]? = some (some (.ref 9)) from a0)
   have c1:=z5 (cf:=run T (n+3)) (h:=S.hp (r++[.list (S.l.map AV.int)])) a3
   have:z9 (zH (z6 0) "row") "is_taken" none [z6 1] (run T (n+3)) fr' (S.hp (r++[.list (S.l.map AV.int)]))=.ok (.bool (fl S.b x)) (S.hp (r++[.list (S.l.map AV.int)])):=by
    exact zC (a:=11) (zR c0 rfl kS2) rfl Qv (ev1 c1 ev0) z
   have t:=yZ this rfl
   cases hb:fl S.b x with
   | true=>rw [hb] at t;exact Qf t Xp
   | false=>rw [hb] at t;exact Z6 t)
  (fun fr' a1 a2 x hx a3=>by
   have a0:=a2 0 (by decide)
   have c0:=z5 (cf:=run T (n+3)) (h:=S.hp (r++[.list (S.l.map AV.int)])) (show fr'[0]? = some (some (.ref 9)) from a0)
   have c1:=z5 (cf:=run T (n+3)) (h:=S.hp (r++[.list (S.l.map AV.int)])) a3
   obtain ⟨y,hy,_⟩:=K.at_ hx
   have:=Zv (h:=S.hp (r++[.list (S.l.map AV.int)])) (a:=14) (l:=S.ow) rfl (K.G.rng x hx).1 hy (by rw [K.ow];exact Nat.le_of_lt lsm.2)
   rw [hy]
   exact ya (zR c0 rfl kS3) c1 this)
 have l1:(S.hp (r++[.list (S.l.map AV.int)])).length=r.length+24:=by
  show (r++[AO.list (S.l.map AV.int)]).length+23=_
  rw [zX];rfl
 have l2:S.hp (r++[.list (S.l.map AV.int)])++[.list ((S.l.filter (fl S.b)).map fun x=>AV.int (S.ow[x.toNat]?.getD 0))]=S.hp (r++[.list (S.l.map AV.int),.list (S.sh.map AV.int)]):=by
  unfold Sh.sh
  rw [List.map_map]
  show S.hp ((r++[.list (S.l.map AV.int)])++[_])=_
  rw [List.append_assoc];rfl
 rw [l1,l2] at ec
 exact zO (fr:=[some (.ref 9)]) rfl rfl (zP (zo ec))
end
theorem xt {α β:Type} (f:α→β) (l:List α) (x:α):l.map f++[f x]=(l++[x]).map f:=by rw [List.map_append];rfl
theorem set_gap {α:Type} (g:List α) (x y:α) (r:List α):(g++x::r).set g.length y=g++y::r:=by rw [List.set_append_right _ _ (Nat.le_refl _),Nat.sub_self];rfl
noncomputable def At (l:List Int) (b:List Bool) (bh:AV) (i:Nat):Prop:=(bh=.none∧i=0)∨∃ x j,bh=.int x∧0≤x∧x<b.length∧l.findIdx? (· == x)=some j∧i=j+1
theorem At.le {l:List Int} {b:List Bool} {bh:AV} {i:Nat} (h:At l b bh i):i≤l.length:=by
 rcases h with ⟨_,rfl⟩ | ⟨x,j,_,_,_,h,rfl⟩
 ·exact Nat.zero_le _
 ·exact (List.findIdx?_eq_some_iff_getElem.mp h).1
noncomputable def Sh.add (S:Sh) (i:Nat) (c:Nat) (d:AV) (k:Nat):Sh:={ S with l:=qn S.l i S.b.length,b:=S.b++[true],ow:=S.ow++[(S.le.length:Int)],le:=S.le++[c],fi:=S.fi++[(S.b.length:Int)],mv:=S.mv++[k],br:=S.br++[d],cu:=S.cu++[k+1] }
section
variable {cf:CF} {fr:AFr} {h h1:Hp} {e:XE} {v:AV} {a:Nat} {c f:Str} {fs:List (Str×AV)} {ys zs:List AV}
theorem jn (e0:fr[0]? = some (some (.ref 9))) (ho:h[9]? = some (.inst c fs)) (hl:fs.lookup f=some (.ref a)) (ha0:h[a]? = some (.list ys)) (ev:e cf fr h=.ok v h1) (ha:h1[a]? = some (.list ys)) (z:ys.length<small) (hz:ys++[v]=zs) :
  zM (z9 (zH (z6 0) f) "append" (some .append) [e]) cf fr h=.ok .next fr (h1.set a (.list zs)):=by
 refine zZ (v:=.none) (jM (zR (z5 e0) ho hl) ha0 (ev1 ev ev0) ?_)
 rw [xD,ha]
 show (if ys.length<small then _ else _)=_
 rw [if_pos z,hz]
theorem zH1 {j:Nat} (e0:fr[j]? = some (some (.ref a))) (ha0:h[a]? = some (.list ys)) (ev:e cf fr h=.ok v h1) (ha:h1[a]? = some (.list ys)) (z:ys.length<small) (hz:ys++[v]=zs) :
  zM (z9 (z6 j) "append" (some .append) [e]) cf fr h=.ok .next fr (h1.set a (.list zs)):=by
 refine zZ (v:=.none) (jM (z5 e0) ha0 (ev1 ev ev0) ?_)
 rw [xD,ha]
 show (if ys.length<small then _ else _)=_
 rw [if_pos z,hz]
theorem q8 (e0:fr[0]? = some (some (.ref 9))) (ho:h[9]? = some (.inst c fs)) (hl:fs.lookup f=some (.ref a)) (ha0:h[a]? = some (.list ys)) {k:Nat} (hk:ys.length=k):zK (zI (some (.bi .len))) [zH (z6 0) f] cf fr h=.ok (.int k) h:=by
 refine xl (ev1 (zR (z5 e0) ho hl) ev0) ?_
 rw [qp,qI,ha0]
 show Out.ok (AV.int (ys.length:Nat)) h=_
 rw [hk]
end
section
variable {T:Tab} {okf:Str→Str→Bool} (X:TT T okf) {n:Nat} {S:Sh} {r:Hp} {o0:Z9} {o1 o2:AO}
include X
theorem z40 {l:List Int} {b:List Bool} {bh:AV} {i:Nat} (hA:At l b bh i) (hl:l.length<small) (hb:b.length<small) :
  run T (n+3) (.meth "Row" "add") [.ref 11,bh] (H o0 o1 o2 l b r)=.ok (.int b.length) (H o0 o1 o2 (qn l i b.length) (b++[false]) r):=by
 rcases hA with ⟨rfl,rfl⟩ | ⟨x,j,rfl,h0,h1,hj,rfl⟩
 ·exact z3z X hl hb
 ·exact z3y X h0 h1 hj hl hb
theorem J1 {bh d t:AV} {i c:Nat} {fd:List Int} {g:Hp} (hA:At S.l S.b bh i) (hl:S.l.length<1000) (hb:S.b.length<1000) (ho:S.ow.length<1000) (he:S.le.length<1000) (hf:S.fi.length<1000) (hm:S.mv.length<1000) (hr:S.br.length<1000) (hc:S.cu.length<1000) (hd:fd.length<1000) :
  (zJ [(zA okf (.names (.one 2)) (z9 (zH (z6 0) "row") "add" none [(z6 2)])),(zM (z9 (zH (z6 0) "owners") "append" (some .append) [(zK (zI (some (.bi .len))) [(zH (z6 0) "letters")])])),(zM (z9 (z6 4) "append" (some .append) [(zK (zI (some (.bi .len))) [(zH (z6 0) "letters")])])),(zM (z9 (zH (z6 0) "letters") "append" (some .append) [(z6 5)])),(zM (z9 (zH (z6 0) "firsts") "append" (some .append) [(z6 2)])),(zM (z9 (zH (z6 0) "moved") "append" (some .append) [(zT [])])),(zM (z9 (zH (z6 0) "bringers") "append" (some .append) [(z6 3)])),(zM (z9 (zH (z6 0) "cutters") "append" (some .append) [(zT [])])),(zM (z9 (zH (z6 0) "row") "take" none [(z6 2),(z8 (.bool true))]))])
   (run T (n+3)) [some (.ref 9),some t,some bh,some d,some (.ref (r.length+23)),some (ch c)] (S.hp (r++.list (fd.map AV.int)::g)) =
  .ok .next [some (.ref 9),some t,some (.int S.b.length),some d,some (.ref (r.length+23)),some (ch c)] ((S.add i c d (r.length+1+g.length)).hp (r++.list ((fd++[(S.le.length:Int)]).map AV.int)::(g++[.list [],.list []]))):=by
 have sm:∀ {k:Nat},k<1000→k<small:=fun h=>Nat.lt_trans h (by decide)
 have ea:=z40 X (n:=n) (o0:=S.g0) (o1:=.inst "Sheet" (fS S.hands)) (o2:=S.g2) (r:=S.tl (r++.list (fd.map AV.int)::g)) hA (sm hl) (sm hb)
 rw [z7 (zd (j:=2) (zC (a:=11) (zR (z5 rfl) rfl kS2) rfl z2m (ev1 (z5 rfl) ev0) ea) (zU rfl))]
 let S1:Sh:={ S with l:=qn S.l i S.b.length,b:=S.b++[false] }
 show zJ _ _ [some (.ref 9),some t,some (.int S.b.length),some d,some (.ref (r.length+23)),some (ch c)] (S1.hp (r++.list (fd.map AV.int)::g))=_
 rw [z7 (jn (a:=14) (zs:=(S.ow++[(S.le.length:Int)]).map AV.int) rfl rfl kS3 rfl (q8 (a:=15) rfl rfl kS4 rfl (List.length_map _)) rfl (by rw [List.length_map];exact sm ho) (xt AV.int S.ow _))]
 let S2:Sh:={ S1 with ow:=S.ow++[(S.le.length:Int)] }
 show zJ _ _ _ (S2.hp (r++.list (fd.map AV.int)::g))=_
 have hfd:(S2.hp (r++.list (fd.map AV.int)::g))[r.length+23]? = some (.list (fd.map AV.int)):=zQ r _ g
 rw [z7 (zH1 (j:=4) (a:=r.length+23) (zs:=(fd++[(S.le.length:Int)]).map AV.int) rfl hfd (q8 (a:=15) rfl rfl kS4 rfl (List.length_map _)) hfd (by rw [List.length_map];exact sm hd) (xt AV.int fd _))]
 show zJ _ _ _ (S2.hp ((r++.list (fd.map AV.int)::g).set r.length (.list ((fd++[(S.le.length:Int)]).map AV.int))))=_
 rw [set_gap]
 generalize hR:r++.list ((fd++[(S.le.length:Int)]).map AV.int)::g=R
 have lR:R.length=r.length+1+g.length:=by rw [← hR,zX,List.length_cons,Nat.add_comm g.length,Nat.add_assoc]
 rw [z7 (jn (a:=15) (zs:=(S.le++[c]).map ch) rfl rfl kS4 rfl (z5 rfl) rfl (by rw [List.length_map];exact sm he) (xt ch S.le c))]
 rw [z7 (jn (a:=16) (zs:=(S.fi++[(S.b.length:Int)]).map AV.int) rfl rfl kS5 rfl (z5 rfl) rfl (by rw [List.length_map];exact sm hf) (xt AV.int S.fi _))]
 let S3:Sh:={ S2 with le:=S.le++[c],fi:=S.fi++[(S.b.length:Int)] }
 show zJ _ _ _ (S3.hp R)=_
 have l3:(S3.hp R).length=R.length+23:=rfl
 rw [z7 (jn (a:=17) (ys:=S.mv.map rf) (zs:=(S.mv++[R.length]).map rf) rfl rfl kS6 rfl (yD ev0) (show (S3.hp (R++[.list []]))[17]? = _ from rfl) (by rw [List.length_map];exact sm hm) (by rw [l3,List.map_append];rfl))]
 let S4:Sh:={ S3 with mv:=S.mv++[R.length] }
 show zJ _ _ _ (S4.hp (R++[.list []]))=_
 rw [z7 (jn (a:=18) (zs:=S.br++[d]) rfl rfl kS7 rfl (z5 rfl) rfl (sm hr) rfl)]
 let S5:Sh:={ S4 with br:=S.br++[d] }
 show zJ _ _ _ (S5.hp (R++[.list []]))=_
 have l5:(S5.hp (R++[.list []])).length=R.length+1+23:=by show (R++[AO.list []]).length+23=_;rw [zX];rfl
 rw [z7 (jn (a:=19) (ys:=S.cu.map rf) (zs:=(S.cu++[R.length+1]).map rf) rfl rfl kS8 rfl (yD ev0) (show (S5.hp ((R++[.list []])++[.list []]))[19]? = _ from rfl) (by rw [List.length_map];exact sm hc) (by rw [l5,List.map_append];rfl))]
 let S6:Sh:={ S5 with cu:=S.cu++[R.length+1] }
 show zJ _ _ _ (S6.hp ((R++[.list []])++[.list []]))=_
 have et:=z5t X (n:=n) (o0:=S.g0) (o1:=.inst "Sheet" (fS S.hands)) (o2:=S.g2) (l:=qn S.l i S.b.length) (b:=S.b++[false]) (i:=(S.b.length:Int)) (v:=true) (r:=S6.tl ((R++[.list []])++[.list []])) (by lia) (by rw [zX];show (S.b.length:Int)<((S.b.length+1:Nat):Int);lia) (by rw [zX];exact sm hb)
 rw [z7 (zZ (zC (a:=11) (zR (z5 rfl) rfl kS2) rfl JV (ev1 (z5 rfl) (ev1 rfl ev0)) et)),zL]
 have eb:(S.b++[false]).set (S.b.length:Int).toNat true=S.b++[true]:=by rw [Int.toNat_natCast];exact set_gap S.b false true []
 have hR2:r++.list ((fd++[(S.le.length:Int)]).map AV.int)::(g++[.list [],.list []])=R++[.list [],.list []]:=by rw [← hR,List.append_assoc];rfl
 rw [eb,List.append_assoc,← lR,hR2]
 rfl
end
noncomputable def zg (a k:Nat):List Int:=(List.range k).map fun j=>((a+j:Nat):Int)
theorem yp (a k:Nat):(zg a k).length=k:=by unfold zg;rw [List.length_map,List.length_range]
theorem wA (a k:Nat):zg a (k+1)=zg a k++[((a+k:Nat):Int)]:=by unfold zg;rw [List.range_succ,List.map_append];rfl
theorem xb {a k:Nat} {x:Int} (h:x∈zg a k):(a:Int)≤x∧x<(a+k:Nat):=by
 obtain ⟨j,hj,rfl⟩:=List.mem_map.mp h
 exact ⟨Int.ofNat_le.mpr (Nat.le_add_right _ _),Int.ofNat_lt.mpr (Nat.add_lt_add_left (List.mem_range.mp hj) _)⟩
theorem W8 {a m c:List Int} {i:Nat} {x:Int} (h:a.length+m.length=i):qn (a++m++c) i x=a++(m++[x])++c:=by
 unfold qn
 have e:(a++m).length=i:=by rw [zX];exact h
 rw [List.take_left' e,List.drop_left' e]
 simp only [List.append_assoc,List.cons_append,List.nil_append]
noncomputable def Sh.adds (S:Sh) (i:Nat) (d:AV) (q:Nat) (cs:List Nat):Sh:={ S with l:=S.l.take i++zg S.b.length cs.length++S.l.drop i,b:=S.b++List.replicate cs.length true,ow:=S.ow++zg S.le.length cs.length,le:=S.le++cs,fi:=S.fi++zg S.b.length cs.length,mv:=S.mv++(List.range cs.length).map (fun j=>q+2 * j),br:=S.br++List.replicate cs.length d,cu:=S.cu++(List.range cs.length).map (fun j=>q+2 * j+1) }
theorem Sh.adds_nil (S:Sh) (i:Nat) (d:AV) (q:Nat):S.adds i d q []=S:=by
 obtain ⟨g0,g2,hands,l,b,ow,le,fi,mv,br,cu,dn,st,lo⟩:=S
 show Sh.mk g0 g2 hands (l.take i++[]++l.drop i) (b++[]) (ow++[]) (le++[]) (fi++[]) (mv++[]) (br++[]) (cu++[]) dn st lo=_
 rw [List.append_nil,List.append_nil,List.append_nil,List.append_nil,List.append_nil,List.append_nil,List.append_nil,List.append_nil,List.take_append_drop]
theorem Sh.adds_snoc (S:Sh) {i:Nat} (hi:i≤S.l.length) (d:AV) (q:Nat) (cs:List Nat) (c:Nat):(S.adds i d q cs).add (i+cs.length) c d (q+2 * cs.length)=S.adds i d q (cs++[c]):=by
 have e1:(cs++[c]).length=cs.length+1:=by rw [zX];rfl
 have e2:(S.b++List.replicate cs.length true).length=S.b.length+cs.length:=by rw [zX,List.length_replicate]
 have e3:(S.le++cs).length=S.le.length+cs.length:=zX
 unfold Sh.add Sh.adds
 dsimp only
 rw [e1,e2,e3,W8 (by rw [List.length_take,yp,Nat.min_eq_left hi]),wA,wA,List.replicate_succ',List.replicate_succ',List.range_succ]
 simp only [List.append_assoc,List.map_append,List.map_cons,List.map_nil]
theorem z33 {a c:List Int} {x:Int} (h:∀ y∈a,y≠x):(a++x::c).findIdx? (· == x)=some a.length:=by
 induction a with
 | nil=>rw [List.nil_append,List.findIdx?_cons,beq_self_eq_true];rfl
 | cons y a ih =>
  rw [List.cons_append,List.findIdx?_cons,ih fun z hz=>h z (.tail _ hz)]
  have:(y == x)=false:=beq_eq_false_iff_ne.mpr (h y (.head _))
  rw [this];rfl
theorem Jj {l:List Int} {b':List Bool} {B i k:Nat} (hi:i≤l.length) (hlt:∀ x∈l,x<(B:Int)) (hb:b'.length=B+(k+1)):At (l.take i++zg B (k+1)++l.drop i) b' (.int ((B+k:Nat):Int)) (i+(k+1)):=by
 refine .inr ⟨_,i+k,rfl,Int.natCast_nonneg _,?_,?_,rfl⟩
 ·rw [hb];exact Int.ofNat_lt.mpr (Nat.lt_succ_self _)
 ·rw [wA,← List.append_assoc,List.append_assoc _ [_]]
  have e:(l.take i++zg B k).length=i+k:=by rw [zX,List.length_take,yp,Nat.min_eq_left hi]
  rw [← e]
  refine z33 fun y hy=>?_
  rcases wc hy with hy | hy
  ·exact Int.ne_of_lt (Int.lt_of_lt_of_le (hlt y (List.mem_of_mem_take hy)) (Int.ofNat_le.mpr (Nat.le_add_right _ _)))
  ·exact Int.ne_of_lt (xb hy).2
theorem At.next {S:Sh} {i:Nat} {d:AV} {q c:Nat} {cs:List Nat} (hi:i≤S.l.length) (hlt:∀ x∈S.l,x<S.b.length):At (S.adds i d q (cs++[c])).l (S.adds i d q (cs++[c])).b (.int ((S.b.length+cs.length:Nat):Int)) (i+(cs.length+1)):=by
 have e1:(cs++[c]).length=cs.length+1:=zX
 show At (S.l.take i++zg S.b.length (cs++[c]).length++S.l.drop i) (S.b++List.replicate (cs++[c]).length true) _ _
 rw [e1]
 exact Jj hi hlt (by rw [zX,List.length_replicate])
theorem JI (h:Hp) (cs:List Nat):yw h (.str (tx cs))=some (.imm (cs.map ch),cs.length):=rfl
structure Sz (S:Sh) (k:Nat):Prop where
 l:S.l.length≤k
 b:S.b.length≤k
 ow:S.ow.length≤k
 le:S.le.length≤k
 fi:S.fi.length≤k
 mv:S.mv.length≤k
 br:S.br.length≤k
 cu:S.cu.length≤k
theorem Sz.adds {S:Sh} {k:Nat} (z:Sz S k) {i:Nat} {d:AV} {q:Nat} {cs:List Nat}:Sz (S.adds i d q cs) (k+cs.length):=by
 have h:=List.take_append_drop i S.l
 have hl:(S.l.take i).length+(S.l.drop i).length=S.l.length:=by rw [← zX,h]
 refine ⟨?_,?_,?_,?_,?_,?_,?_,?_⟩ <;> show List.length (_++_)≤_ <;> simp only [zX,yp,List.length_replicate,List.length_map,List.length_range]
 ·have:=z.l;lia
 ·exact Nat.add_le_add_right z.b _
 ·exact Nat.add_le_add_right z.ow _
 ·exact Nat.add_le_add_right z.le _
 ·exact Nat.add_le_add_right z.fi _
 ·exact Nat.add_le_add_right z.mv _
 ·exact Nat.add_le_add_right z.br _
 ·exact Nat.add_le_add_right z.cu _
section
variable {T:Tab} {okf:Str→Str→Bool} (X:TT T okf) {n:Nat} {S:Sh} {r:Hp}
include X
theorem z3m {bh d:AV} {i:Nat} {cs:List Nat} (hA:At S.l S.b bh i) (z:Sz S 500) (hlt:∀ x∈S.l,x<S.b.length) (hc:cs.length≤100) :
  run T (n+4) (.meth "Sheet" "bring") [.ref 9,.str (tx cs),bh,d] (S.hp r)=.ok (.ref (r.length+23)) ((S.adds i d (r.length+1) cs).hp (r++.list ((zg S.le.length cs.length).map AV.int)::List.replicate (2 * cs.length) (.list []))):=by
 rw [zG X.kBc]
 have hi:=hA.le
 obtain ⟨fr',h',e,p⟩:=wO (t:=.one 5) (src:=.imm (cs.map ch)) (cf:=run T (n+3)) (xs:=cs.map ch)
  (body:=(zJ [(zA okf (.names (.one 2)) (z9 (zH (z6 0) "row") "add" none [(z6 2)])),(zM (z9 (zH (z6 0) "owners") "append" (some .append) [(zK (zI (some (.bi .len))) [(zH (z6 0) "letters")])])),(zM (z9 (z6 4) "append" (some .append) [(zK (zI (some (.bi .len))) [(zH (z6 0) "letters")])])),(zM (z9 (zH (z6 0) "letters") "append" (some .append) [(z6 5)])),(zM (z9 (zH (z6 0) "firsts") "append" (some .append) [(z6 2)])),(zM (z9 (zH (z6 0) "moved") "append" (some .append) [(zT [])])),(zM (z9 (zH (z6 0) "bringers") "append" (some .append) [(z6 3)])),(zM (z9 (zH (z6 0) "cutters") "append" (some .append) [(zT [])])),(zM (z9 (zH (z6 0) "row") "take" none [(z6 2),(z8 (.bool true))]))]))
  (fun k fr h=>∃ bh' v5,fr=[some (.ref 9),some (.str (tx cs)),some bh',some d,some (.ref (r.length+23)),v5]∧h=(S.adds i d (r.length+1) (cs.take k)).hp (r++.list ((zg S.le.length k).map AV.int)::List.replicate (2 * k) (.list []))∧At (S.adds i d (r.length+1) (cs.take k)).l (S.adds i d (r.length+1) (cs.take k)).b bh' (i+k))
  (fun k fr h _=>rfl)
  (by
   rintro k x fr h ⟨bh',v5,rfl,rfl,hA'⟩ hx
   rw [List.getElem?_map] at hx
   obtain ⟨c,hc',rfl⟩:=yC hx
   have hk:k<cs.length:=(yj hc').1
   have lk:(cs.take k).length=k:=by rw [List.length_take];exact Nat.min_eq_left (Nat.le_of_lt hk)
   have z':=z.adds (i:=i) (d:=d) (q:=r.length+1) (cs:=cs.take k)
   rw [lk] at z'
   have lt:∀ {m:Nat},m≤500+k→m<1000:=fun h=>Nat.lt_of_le_of_lt h (Nat.lt_of_le_of_lt (Nat.add_le_add_left (Nat.le_trans (Nat.le_of_lt hk) hc) 500) (by decide))
   have step:=J1 X (n:=n) (S:=S.adds i d (r.length+1) (cs.take k)) (r:=r) (bh:=bh') (d:=d) (t:=.str (tx cs)) (c:=c) (fd:=zg S.le.length k) (g:=List.replicate (2 * k) (.list [])) hA' (lt z'.l) (lt z'.b) (lt z'.ow) (lt z'.le) (lt z'.fi) (lt z'.mv) (lt z'.br) (lt z'.cu) (by rw [yp];lia)
   have e1:cs.take (k+1)=cs.take k++[c]:=by rw [List.take_succ,hc'];rfl
   have e2:(S.adds i d (r.length+1) (cs.take k)).le.length=S.le.length+k:=by show (S.le++cs.take k).length=_;rw [zX,lk]
   have e3:(S.adds i d (r.length+1) (cs.take k)).b.length=S.b.length+k:=by show (S.b++List.replicate (cs.take k).length true).length=_;rw [zX,List.length_replicate,lk]
   have e4:=S.adds_snoc hi d (r.length+1) (cs.take k) c
   rw [lk] at e4
   rw [List.length_replicate,e4,e2,e3,← wA] at step
   refine ⟨_,_,_,rfl,step,.int ((S.b.length+k:Nat):Int),_,rfl,?_,?_⟩
   ·rw [e1]
    have:List.replicate (2 * k) (AO.list [])++[.list [],.list []]=List.replicate (2 * (k+1)) (.list []):=by
     rw [show 2 * (k+1)=2 * k+2 from rfl,← List.replicate_append_replicate];rfl
    rw [this]
   ·rw [e1]
    have:=At.next (S:=S) (i:=i) (d:=d) (q:=r.length+1) (c:=c) (cs:=cs.take k) hi hlt
    rw [lk] at this
    exact this) (fr:=[some (.ref 9),some (.str (tx cs)),some bh,some d,some (.ref (r.length+23)),none]) (h:=S.hp (r++[.list []]))
  ⟨bh,none,rfl,by rw [List.take_zero,Sh.adds_nil];rfl,by rw [List.take_zero,Sh.adds_nil];exact hA⟩
 obtain ⟨bh',v5,rfl,rfl,_⟩:=p
 rw [List.length_map] at e
 rw [List.take_length] at e
 refine zO (fr:=[some (.ref 9),some (.str (tx cs)),some bh,some d,none,none]) (fr':=[some (.ref 9),some (.str (tx cs)),some bh',some d,some (.ref (r.length+23)),v5]) rfl rfl ?_
 unfold kBc
 dsimp only
 rw [z7 (zd (j:=4) (yD ev0) (zU rfl))]
 show zJ _ _ [some (.ref 9),some (.str (tx cs)),some bh,some d,some (.ref (r.length+23)),none] (S.hp (r++[.list []]))=_
 have ef:=wj (en:=false) (x:=z6 1) (h:=S.hp (r++[.list []])) (z5 rfl) (JI (S.hp (r++[.list []])) cs) e
 exact (z7 ef).trans (zP (zo (z5 rfl)))
end
noncomputable abbrev pr (p:Int×Int):AV:=.tup [.int p.1,.int p.2]
structure Dy (S:Sh) (mvs:List (List (Int×Int))) (cus:List (List Int)) (r:Hp):Prop where
 ml:S.mv.length=mvs.length
 cl:S.cu.length=cus.length
 m:∀ (i k:Nat) (ps:List (Int×Int)),S.mv[i]? = some k→mvs[i]? = some ps→r[k]? = some (AO.list (ps.map pr))
 c:∀ (i k:Nat) (ds:List Int),S.cu[i]? = some k→cus[i]? = some ds→r[k]? = some (AO.list (ds.map AV.int))
 nd:(S.mv++S.cu).Nodup
theorem Dy.grow {S:Sh} {mvs:List (List (Int×Int))} {cus:List (List Int)} {r:Hp} (D:Dy S mvs cus r) (g:Hp):Dy S mvs cus (r++g) :=
 ⟨D.ml,D.cl,fun i k ps h1 h2=>zB (D.m i k ps h1 h2),fun i k ds h1 h2=>zB (D.c i k ds h1 h2),D.nd⟩
noncomputable def yR (st:List Bool) (f:Int) (ps:List (Int×Int)):Int:=ps.foldl (fun x p=>if fl st p.1 then p.2 else x) f
theorem W1 (st:List Bool) (f:Int) (ps:List (Int×Int)) (p:Int×Int):yR st f (ps++[p])=if fl st p.1 then p.2 else yR st f ps:=by unfold yR;rw [List.foldl_append];rfl
noncomputable def QB (st:List Bool):AV→Bool
 | .int d=>fl st d
 | _=>true
noncomputable def Sh.cur (S:Sh) (mvs:List (List (Int×Int))) (i:Int):Int:=yR S.st (S.fi[i.toNat]?.getD 0) (mvs[i.toNat]?.getD [])
noncomputable def Sh.shw (S:Sh) (cus:List (List Int)) (i:Int):Bool:=QB S.st (S.br[i.toNat]?.getD .none) && !(cus[i.toNat]?.getD []).any (fl S.st)
noncomputable def wn (b:List Bool) (xs:List Int):List Bool:=xs.foldl (fun b x=>b.set x.toNat false) b
theorem wm (xs:List Int):∀ b:List Bool,(wn b xs).length=b.length:=by
 induction xs with
 | nil=>intro b;rfl
 | cons x xs ih=>intro b;exact (ih _).trans List.length_set
noncomputable def ZQ (S:Sh) (mvs:List (List (Int×Int))) (cus:List (List Int)) (b:List Bool) (i:Int):List Bool :=
 let b1:=wn (b.set (S.fi[i.toNat]?.getD 0).toNat false) ((mvs[i.toNat]?.getD []).map (·.2))
 bif S.shw cus i then b1.set (S.cur mvs i).toNat true else b1
theorem X1 {S:Sh} {mvs:List (List (Int×Int))} {cus:List (List Int)} (b:List Bool) (i:Int):(ZQ S mvs cus b i).length=b.length:=by
 unfold ZQ
 dsimp only
 cases S.shw cus i with
 | true=>show (List.set _ _ _).length=_;rw [List.length_set,wm,List.length_set]
 | false=>show (wn _ _).length=_;rw [wm,List.length_set]
noncomputable def yo (S:Sh) (mvs:List (List (Int×Int))) (cus:List (List Int)) (b:List Bool) (is:List Int):List Bool:=is.foldl (ZQ S mvs cus) b
theorem qO {S:Sh} {mvs:List (List (Int×Int))} {cus:List (List Int)} (is:List Int):∀ b:List Bool,(yo S mvs cus b is).length=b.length:=by
 induction is with
 | nil=>intro b;rfl
 | cons x xs ih=>intro b;exact (ih _).trans (X1 b x)
structure Sg (S:Sh) (mvs:List (List (Int×Int))) (cus:List (List Int)):Prop where
 fi:S.fi.length=S.le.length
 br:S.br.length=S.le.length
 mv:mvs.length=S.le.length
 cu:cus.length=S.le.length
 fr:∀ x∈S.fi,0≤x∧x<S.b.length
 mr:∀ ps∈mvs,∀ p∈ps,(0≤p.1∧p.1<S.st.length)∧0≤p.2∧p.2<S.b.length
 dr:∀ ds∈cus,∀ d∈ds,0≤d∧d<S.st.length
 bn:∀ v∈S.br,v=.none∨∃ d:Int,v=.int d∧0≤d∧d<S.st.length
 ps:∀ ps∈mvs,ps.length≤S.st.length
 cs:∀ ds∈cus,ds.length≤S.st.length
 sl:S.le.length<200
 st:S.st.length<200
 sb:S.b.length<200
theorem qX {h:Hp} {a:Nat} {xs:List AV} {x:Int} {v:AV} (e:h[a]? = some (.list xs)) (h0:0≤x) (h1:x<1000) (hv:xs[x.toNat]? = some v):we h (.ref a) (.int x)=some v:=by
 have h3:okI x=true:=qH.mpr ⟨h0,Int.lt_trans h1 (by decide)⟩
 rw [xn h3,e];exact hv
section
variable {T:Tab} {okf:Str→Str→Bool} (X:TT T okf) {n:Nat} {S:Sh} {r:Hp} {mvs:List (List (Int×Int))} {cus:List (List Int)}
theorem Sg.at_ (K:Sg S mvs cus) (D:Dy S mvs cus r) {i:Int} (h0:0≤i) (h1:i<S.le.length):∃ f ps ds v km kc,S.fi[i.toNat]? = some f∧mvs[i.toNat]? = some ps∧cus[i.toNat]? = some ds∧S.br[i.toNat]? = some v∧S.mv[i.toNat]? = some km∧S.cu[i.toNat]? = some kc ∧
  r[km]? = some (AO.list (ps.map pr))∧r[kc]? = some (AO.list (ds.map AV.int)):=by
 have a1:i.toNat<S.fi.length:=by rw [K.fi];exact qb h0 h1
 have a2:i.toNat<mvs.length:=by rw [K.mv];exact qb h0 h1
 have a3:i.toNat<cus.length:=by rw [K.cu];exact qb h0 h1
 have a4:i.toNat<S.br.length:=by rw [K.br];exact qb h0 h1
 have a5:i.toNat<S.mv.length:=by rw [D.ml];exact a2
 have a6:i.toNat<S.cu.length:=by rw [D.cl];exact a3
 have e2:=yO a2
 have e3:=yO a3
 have e5:=yO a5
 have e6:=yO a6
 exact ⟨_,_,_,_,_,_,yO a1,e2,e3,yO a4,e5,e6,D.m _ _ _ e5 e2,D.c _ _ _ e6 e3⟩
theorem z16 (K:Sg S mvs cus) {d:Int} (d0:0≤d) (d1:d<S.st.length):we (S.hp r) (.ref 21) (.int d)=some (.bool (fl S.st d)):=jF (b:=S.st) rfl d0 d1 (Nat.le_trans (Nat.le_of_lt K.st) (by decide))
include X
theorem z1q (K:Sg S mvs cus) (D:Dy S mvs cus r) {i:Int} (h0:0≤i) (h1:i<S.le.length) :
  run T (n+1) (.meth "Sheet" "seat_of") [.ref 9,.int i] (S.hp r)=.ok (.int (S.cur mvs i)) (S.hp r):=by
 unfold Sh.cur
 obtain ⟨f,ps,ds,v,km,kc,e1,e2,e3,e4,e5,e6,e7,e8⟩:=K.at_ D h0 h1
 have hsl:=K.sl
 rw [zG X.kAq,e1,e2]
 obtain ⟨fr',h',e,a,c,rfl,rfl⟩:=wO (t:=.many [3,4]) (src:=.ref (km+23)) (cf:=run T n) (xs:=ps.map pr)
  (body:=zJ [(sIf (yT (zn (zH (z6 0) "standing") (z6 3))) (zJ [(zA okf (.names (.one 2)) (z6 4))]) (zJ []))])
  (fun k fr h=>∃ a c,fr=[some (.ref 9),some (.int i),some (.int (yR S.st f (ps.take k))),a,c]∧h=S.hp r)
  (by
   rintro k fr h ⟨a,c,rfl,rfl⟩
   show (match (S.hp r)[km+23]? with | some (.list ys)=>some ys[k]? | _=>none)=_
   rw [show (S.hp r)[km+23]? = _ from e7])
  (by
   rintro k x fr h ⟨a,c,rfl,rfl⟩ hx
   rw [List.getElem?_map] at hx
   obtain ⟨p,hp,rfl⟩:=yC hx
   obtain ⟨⟨q0,q1⟩,q2,q3⟩:=K.mr ps (yq e2) p (yq hp)
   have tb:=yZ (ya (zR (z5 (i:=0) (cf:=run T n) (fr:=[some (.ref 9),some (.int i),some (.int (yR S.st f (ps.take k))),some (.int p.1),some (.int p.2)]) (h:=S.hp r) rfl) rfl z2u) (z5 (i:=3) rfl) (z16 (r:=r) K q0 q1)) rfl
   refine ⟨[some (.ref 9),some (.int i),some (.int (yR S.st f (ps.take k))),some (.int p.1),some (.int p.2)],[some (.ref 9),some (.int i),some (.int (if fl S.st p.1 then p.2 else yR S.st f (ps.take k))),some (.int p.1),some (.int p.2)],S.hp r,rfl,?_,some (.int p.1),some (.int p.2),?_,rfl⟩
   ·refine (z7 ?_).trans zL
    cases hf:fl S.st p.1 with
    | true=>rw [hf] at tb;exact (yM tb).trans ((z7 (zd (j:=2) (z5 rfl) (zU rfl))).trans zL)
    | false=>rw [hf] at tb;exact (zN tb).trans zL
   ·rw [List.take_succ,hp]
    show _=[_,_,some (AV.int (yR S.st f (ps.take k++[p]))),_,_]
    rw [W1])
  (fr:=[some (.ref 9),some (.int i),some (.int f),none,none]) (h:=S.hp r) ⟨none,none,rfl,rfl⟩
 rw [List.length_map,List.take_length] at *
 have es:yw (S.hp r) (rf km)=some (.ref (km+23),ps.length):=by
  show (match (S.hp r)[km+23]? with | some (.list xs)=>some (Src.ref (km+23),xs.length) | _=>none)=_
  rw [show (S.hp r)[km+23]? = _ from e7]
  show some (_,(ps.map pr).length)=_
  rw [List.length_map]
 refine zO (fr:=[some (.ref 9),some (.int i),none,none,none]) rfl rfl (fr':=[some (.ref 9),some (.int i),some (.int (yR S.st f ps)),a,c]) ?_
 unfold kAq
 dsimp only
 rw [z7 (zd (j:=2) (ya (zR (z5 rfl) rfl kS5) (z5 rfl) (Zv (l:=S.fi) rfl h0 e1 (by rw [K.fi];exact Nat.le_trans (Nat.le_of_lt K.sl) (by decide)))) (zU rfl))]
 have ei:zn (zH (z6 0) "moved") (z6 1) (run T n) [some (.ref 9),some (.int i),some (.int f),none,none] (S.hp r)=.ok (rf km) (S.hp r) :=
  ya (zR (z5 rfl) rfl kS6) (z5 rfl) (qX (xs:=S.mv.map rf) rfl h0 (Int.lt_trans h1 (Int.lt_trans (Int.ofNat_lt.mpr K.sl) (by decide))) (by rw [List.getElem?_map,e5];rfl))
 exact (z7 (wj (en:=false) ei es e)).trans (zP (zo (z5 rfl)))
theorem z0e (K:Sg S mvs cus) (D:Dy S mvs cus r) {i:Int} (h0:0≤i) (h1:i<S.le.length) :
  ∃ g,run T (n+1) (.meth "Sheet" "is_shown") [.ref 9,.int i] (S.hp r)=.ok (.bool (S.shw cus i)) (S.hp (r++g)):=by
 obtain ⟨f,ps,ds,v,km,kc,e1,e2,e3,e4,e5,e6,e7,e8⟩:=K.at_ D h0 h1
 have hsl:=K.sl
 rw [zG X.kAn]
 unfold Sh.shw
 rw [e3,e4]
 show ∃ g,_=Out.ok (AV.bool (QB S.st v && !ds.any (fl S.st))) _
 have en:=z7 (r:=[(sIf (y8 .And [(zj (z6 2) [.IsNot] [(z8 .none)]),(yn (yT (zn (zH (z6 0) "standing") (z6 2))))]) (zJ [(zi (z8 (.bool false)))]) (zJ [])),(zi (z0o (zK (zI (some (.bi .any))) [(xB (zn (zH (z6 0) "cutters") (z6 1)) 1 (.one 3) (y8 .And []) (zn (zH (z6 0) "standing") (z6 3)))])))]) (zd (okf:=okf) (j:=2) (fr:=[some (.ref 9),some (.int i),none]) (ya (cf:=run T n) (h:=S.hp r) (zR (z5 (i:=0) rfl) rfl kS7) (z5 (i:=1) rfl) (qX (xs:=S.br) rfl h0 (by lia) e4)) (zU rfl))
 have et:y8 .And [(zj (z6 2) [.IsNot] [(z8 .none)]),(yn (yT (zn (zH (z6 0) "standing") (z6 2))))] (run T n) [some (.ref 9),some (.int i),some v] (S.hp r)=.ok (!QB S.st v) (S.hp r):=by
  rcases K.bn v (yq e4) with rfl | ⟨d,rfl,d0,d1⟩
  ·exact Z6 (zb (b:=false) (z5 rfl) rfl rfl)
  ·have tb:=zx (yZ (ya (zR (z5 (i:=0) (cf:=run T n) (fr:=[some (.ref 9),some (.int i),some (.int d)]) (h:=S.hp r) rfl) rfl z2u) (z5 (i:=2) rfl) (z16 (r:=r) K d0 d1)) rfl)
   refine Qf (zb (b:=true) (z5 rfl) rfl rfl) ?_
   show _=Out.ok (!fl S.st d) _
   cases hf:!fl S.st d with
   | true=>rw [hf] at tb;exact Qf tb Xp
   | false=>rw [hf] at tb;exact Z6 tb
 cases hb:QB S.st v with
 | false =>
  rw [hb] at et
  refine ⟨[],?_⟩
  rw [List.append_nil]
  exact zO (fr:=[some (.ref 9),some (.int i),none]) rfl rfl (en.trans (zP ((yM et).trans (zP (zo rfl)))))
 | true =>
  rw [hb] at et
  refine ⟨[.list (ds.map fun d=>AV.bool (fl S.st d))],?_⟩
  have ei:zn (zH (z6 0) "cutters") (z6 1) (run T n) [some (.ref 9),some (.int i),some v] (S.hp r)=.ok (.ref (kc+23)) (S.hp r) :=
   ya (zR (z5 rfl) rfl kS8) (z5 rfl) (qX (xs:=S.cu.map rf) rfl h0 (Int.lt_trans h1 (Int.lt_trans (Int.ofNat_lt.mpr K.sl) (by decide))) (by rw [List.getElem?_map,e6];rfl))
  have hds:=K.cs ds (yq e3)
  have ec:=qP AV.int (own:=1) (i:=3) (test:=y8 .And []) (elt:=zn (zH (z6 0) "standing") (z6 3)) (l:=ds) (p:=fun _=>true) (f:=fun d=>AV.bool (fl S.st d)) ei e8 (by show 3<4;decide) (Nat.lt_trans (Nat.lt_of_le_of_lt hds K.st) (by decide))
   (fun fr' a1 a2 x hx a3=>rfl)
   (fun fr' a1 a2 x hx a3=>by
    have a0:=a2 0 (by decide)
    obtain ⟨q0,q1⟩:=K.dr ds (yq e3) x hx
    exact ya (zR (z5 (show fr'[0]? = some (some (.ref 9)) from a0)) rfl z2u) (z5 a3) (z16 (r:=r) K q0 q1))
  rw [List.filter_eq_self.mpr (fun _ _=>rfl)] at ec
  have hg:(S.hp (r++[.list (ds.map fun d=>AV.bool (fl S.st d))]))[r.length+23]? = some (.list (ds.map fun d=>AV.bool (fl S.st d))):=zQ r _ []
  have ea:=zHo hg (ZI (f:=fun d=>fl S.st d))
  rw [List.any_map] at ea
  refine zO (fr:=[some (.ref 9),some (.int i),none]) rfl rfl (fr':=[some (.ref 9),some (.int i),some v]) (en.trans ((z7 ((zN et).trans zL)).trans (zP (zo ?_))))
  unfold z0o
  rw [xl (ev1 ec ev0) ea]
  rfl
end
theorem YT {st:List Bool} (ps:List (Int×Int)):∀ f,yR st f ps=f∨∃ p∈ps,yR st f ps=p.2:=by
 induction ps with
 | nil=>intro f;exact .inl rfl
 | cons p ps ih =>
  intro f
  rcases ih (if fl st p.1 then p.2 else f) with h | ⟨q,hq,h⟩
  ·have h:yR st f (p::ps)=if fl st p.1 then p.2 else f:=h
   by_cases hp:fl st p.1=true
   ·rw [if_pos hp] at h;exact .inr ⟨p,.head _,h⟩
   ·rw [if_neg hp] at h;exact .inl h
  ·exact .inr ⟨q,.tail _ hq,h⟩
noncomputable abbrev Sh.wb (S:Sh) (b:List Bool):Sh:={ S with b:=b }
theorem Sg.wb {S:Sh} {mvs:List (List (Int×Int))} {cus:List (List Int)} (K:Sg S mvs cus) {b:List Bool} (h:b.length=S.b.length):Sg (S.wb b) mvs cus :=
 ⟨K.fi,K.br,K.mv,K.cu,fun x hx=>by show 0≤x∧x<b.length;rw [h];exact K.fr x hx,fun ps hp p hq=>by show _∧0≤p.2∧p.2<b.length;rw [h];exact K.mr ps hp p hq,K.dr,K.bn,K.ps,K.cs,K.sl,K.st,by show b.length<200;rw [h];exact K.sb⟩
theorem Dy.wb {S:Sh} {mvs:List (List (Int×Int))} {cus:List (List Int)} {r:Hp} (D:Dy S mvs cus r) (b:List Bool):Dy (S.wb b) mvs cus r:=⟨D.ml,D.cl,D.m,D.c,D.nd⟩
section
variable {T:Tab} {okf:Str→Str→Bool} (X:TT T okf) {n:Nat} {S:Sh} {r:Hp} {mvs:List (List (Int×Int))} {cus:List (List Int)}
include X
theorem Wd {fr:AFr} {e1 e2:XE} {x:Int} {v:Bool} {h:Hp} (h0:fr[0]? = some (some (.ref 9))) (hh:h[9]? = some (.inst "Sheet" (fS S.hands))) (ev:evs [e1,e2] (run T (n+3)) fr h=.ok [.int x,.bool v] (S.hp r)) (x0:0≤x) (x1:x<S.b.length) (hb:S.b.length<200) (h3:h[11]? = some (.inst "Row" fs)) :
  zM (z9 (zH (z6 0) "row") "take" none [e1,e2]) (run T (n+3)) fr h=.ok .next fr ((S.wb (S.b.set x.toNat v)).hp r) :=
 zZ (zC (a:=11) (zR (z5 h0) hh kS2) h3 JV ev (z5t X (n:=n) (o0:=S.g0) (o1:=.inst "Sheet" (fS S.hands)) (o2:=S.g2) (r:=S.tl r) x0 x1 (Nat.le_trans (Nat.le_of_lt hb) (by decide))))
theorem z2b {i:Int} {ps:List (Int×Int)} {km q:Nat} {a3 a4:Option AV} (hp:∀ p∈ps,0≤p.2∧p.2<S.b.length) (hb:S.b.length<200) (e7:r[km]? = some (AO.list (ps.map pr))) :
  ∃ b3 b4,yz (.many [3,4]) (zJ [(zM (z9 (zH (z6 0) "row") "take" none [(z6 4),(z8 (.bool false))]))]) (.ref (km+23)) (ps.length+1) 0 (run T (n+3)) [some (.ref 9),some (.ref q),some (.int i),a3,a4] (S.hp r) =
   .ok .next [some (.ref 9),some (.ref q),some (.int i),b3,b4] ((S.wb (wn S.b (ps.map (·.2)))).hp r):=by
 obtain ⟨fr',h',e,b3,b4,rfl,rfl⟩:=wO (t:=.many [3,4]) (src:=.ref (km+23)) (cf:=run T (n+3)) (xs:=ps.map pr)
  (body:=zJ [(zM (z9 (zH (z6 0) "row") "take" none [(z6 4),(z8 (.bool false))]))])
  (fun k fr h=>∃ b3 b4,fr=[some (.ref 9),some (.ref q),some (.int i),b3,b4]∧h=(S.wb (wn S.b ((ps.take k).map (·.2)))).hp r)
  (by
   rintro k fr h ⟨a,c,rfl,rfl⟩
   show (match r[km]? with | some (.list ys)=>some ys[k]? | _=>none)=_
   rw [e7])
  (by
   rintro k x fr h ⟨a,c,rfl,rfl⟩ hx
   rw [List.getElem?_map] at hx
   obtain ⟨p,hpk,rfl⟩:=yC hx
   obtain ⟨q2,q3⟩:=hp p (yq hpk)
   have hl:(wn S.b ((ps.take k).map (·.2))).length=S.b.length:=wm _ _
   refine ⟨[some (.ref 9),some (.ref q),some (.int i),some (.int p.1),some (.int p.2)],_,_,rfl,(z7 (Wd X (S:=S.wb (wn S.b ((ps.take k).map (·.2)))) (r:=r) rfl rfl (ev1 (z5 rfl) (ev1 rfl ev0)) q2 (by rw [hl];exact q3) (by rw [hl];exact hb) rfl)).trans zL,_,_,rfl,?_⟩
   rw [List.take_succ,hpk]
   show _=(S.wb (wn S.b ((ps.take k++[p]).map (·.2)))).hp r
   rw [List.map_append]
   show _=(S.wb (List.foldl _ _ (_++_))).hp r
   rw [List.foldl_append]
   rfl)
  (fr:=[some (.ref 9),some (.ref q),some (.int i),a3,a4]) (h:=S.hp r) ⟨a3,a4,rfl,rfl⟩
 rw [List.length_map,List.take_length] at e
 exact ⟨b3,b4,e⟩
theorem z4n (K:Sg S mvs cus) (D:Dy S mvs cus r) {is:List Int} {q:Nat} (hq:r[q]? = some (AO.list (is.map AV.int))) (hi:∀ i∈is,0≤i∧i<S.le.length) :
  ∃ g,run T (n+4) (.meth "Sheet" "seated") [.ref 9,.ref (q+23)] (S.hp r)=.ok .none ((S.wb (yo S mvs cus S.b is)).hp (r++g)):=by
 have hsl:=K.sl
 have hsb:=K.sb
 rw [zG X.kA1]
 obtain ⟨fr',h',e,g,b2,b3,b4,rfl,rfl⟩:=wO (t:=.one 2) (src:=.ref (q+23)) (cf:=run T (n+3)) (xs:=is.map AV.int)
  (body:=(zJ [(zM (z9 (zH (z6 0) "row") "take" none [(zn (zH (z6 0) "firsts") (z6 2)),(z8 (.bool false))])),(xz (.many [3,4]) (zn (zH (z6 0) "moved") (z6 2)) false (zJ [(zM (z9 (zH (z6 0) "row") "take" none [(z6 4),(z8 (.bool false))]))])),(sIf (yT (z9 (z6 0) "is_shown" none [(z6 2)])) (zJ [(zM (z9 (zH (z6 0) "row") "take" none [(z9 (z6 0) "seat_of" none [(z6 2)]),(z8 (.bool true))]))]) (zJ []))]))
  (fun k fr h=>∃ g b2 b3 b4,fr=[some (.ref 9),some (.ref (q+23)),b2,b3,b4]∧h=(S.wb (yo S mvs cus S.b (is.take k))).hp (r++g))
  (by
   rintro k fr h ⟨g,a,c,d,rfl,rfl⟩
   show (match (r++g)[q]? with | some (.list ys)=>some ys[k]? | _=>none)=_
   rw [zB hq])
  (by
   rintro k x fr h ⟨g,a2,a3,a4,rfl,rfl⟩ hx
   rw [List.getElem?_map] at hx
   obtain ⟨i,hik,rfl⟩:=yC hx
   obtain ⟨i0,i1⟩:=hi i (yq hik)
   generalize hb':yo S mvs cus S.b (is.take k)=b'
   have hl':b'.length=S.b.length:=by rw [← hb'];exact qO _ _
   obtain ⟨f,ps,ds,v,km,kc,e1,e2,e3,e4,e5,e6,e7,e8⟩:=K.at_ (D.grow g) i0 i1
   obtain ⟨f0,f1⟩:=K.fr f (yq e1)
   have hps:∀ p∈ps,0≤p.2∧p.2<S.b.length:=fun p hp=>(K.mr ps (yq e2) p hp).2
   have s1:=Wd X (n:=n) (S:=S.wb b') (r:=r++g) (fr:=[some (.ref 9),some (.ref (q+23)),some (.int i),a3,a4]) (e1:=zn (zH (z6 0) "firsts") (z6 2)) (e2:=z8 (.bool false)) (x:=f) (v:=false) (h:=(S.wb b').hp (r++g)) rfl rfl
    (ev1 (ya (zR (z5 rfl) rfl kS5) (z5 rfl) (Zv (l:=S.fi) rfl i0 e1 (by rw [K.fi];exact Nat.le_trans (Nat.le_of_lt K.sl) (by decide)))) (ev1 rfl ev0)) f0 (by show f<b'.length;rw [hl'];exact f1) (by show b'.length<200;rw [hl'];exact hsb) rfl
   have hl2:(b'.set f.toNat false).length=S.b.length:=List.length_set.trans hl'
   obtain ⟨b3,b4,lp⟩:=z2b X (n:=n) (S:=S.wb (b'.set f.toNat false)) (r:=r++g) (i:=i) (q:=q+23) (a3:=a3) (a4:=a4) (fun p hp=>by show _∧p.2<(b'.set f.toNat false).length;rw [hl2];exact hps p hp) (by show (b'.set f.toNat false).length<200;rw [hl2];exact hsb) e7
   have ei:zn (zH (z6 0) "moved") (z6 2) (run T (n+3)) [some (.ref 9),some (.ref (q+23)),some (.int i),a3,a4] ((S.wb (b'.set f.toNat false)).hp (r++g))=.ok (rf km) ((S.wb (b'.set f.toNat false)).hp (r++g)) :=
    ya (zR (z5 rfl) rfl kS6) (z5 rfl) (qX (xs:=S.mv.map rf) rfl i0 (Int.lt_trans i1 (Int.lt_trans (Int.ofNat_lt.mpr K.sl) (by decide))) (by rw [List.getElem?_map,e5];rfl))
   have es:yw ((S.wb (b'.set f.toNat false)).hp (r++g)) (rf km)=some (.ref (km+23),ps.length):=by
    show (match (r++g)[km]? with | some (.list xs)=>some (Src.ref (km+23),xs.length) | _=>none)=_
    rw [e7]
    show some (_,(ps.map pr).length)=_
    rw [List.length_map]
   have s2:=wj (en:=false) ei es lp
   generalize hb3:wn (b'.set f.toNat false) (ps.map (·.2))=bb at lp s2
   have hl3:bb.length=S.b.length:=by rw [← hb3];exact (wm _ _).trans hl2
   obtain ⟨g',sh⟩:=z0e X (n:=n+2) (K.wb hl3) ((D.grow g).wb bb) i0 i1
   have st:yT (z9 (z6 0) "is_shown" none [(z6 2)]) (run T (n+3)) [some (.ref 9),some (.ref (q+23)),some (.int i),b3,b4] ((S.wb bb).hp (r++g))=.ok (S.shw cus i) ((S.wb bb).hp ((r++g)++g')) :=
    yZ (zC (a:=9) (z5 rfl) rfl Qu (ev1 (z5 rfl) ev0) sh) rfl
   have fin:is.take (k+1)=is.take k++[i]:=by rw [List.take_succ,hik];rfl
   have sB:yo S mvs cus S.b (is.take (k+1))=bif S.shw cus i then bb.set (S.cur mvs i).toNat true else bb:=by
    rw [fin]
    show List.foldl _ _ (_++_)=_
    rw [List.foldl_append]
    show ZQ S mvs cus (yo S mvs cus S.b (is.take k)) i=_
    rw [hb']
    unfold ZQ
    rw [e1,e2]
    show (bif _ then (wn (b'.set f.toNat false) (ps.map (·.2))).set _ _ else wn (b'.set f.toNat false) (ps.map (·.2)))=_
    rw [hb3]
   refine ⟨[some (.ref 9),some (.ref (q+23)),some (.int i),a3,a4],[some (.ref 9),some (.ref (q+23)),some (.int i),b3,b4],(S.wb (bif S.shw cus i then bb.set (S.cur mvs i).toNat true else bb)).hp ((r++g)++g'),rfl,?_,g++g',_,_,_,rfl,?_⟩
   ·rw [z7 s1,z7 s2]
    cases hc:S.shw cus i with
    | true =>
     rw [hc] at st
     have so:=z1q X (n:=n+2) (K.wb hl3) (((D.grow g).grow g').wb bb) i0 i1
     have lo:0≤S.cur mvs i∧S.cur mvs i<S.b.length:=by
      unfold Sh.cur
      rw [e1,e2]
      rcases YT (st:=S.st) ps f with h | ⟨p,hp,h⟩
      ·show 0≤yR S.st f ps∧yR S.st f ps<S.b.length;rw [h];exact ⟨f0,f1⟩
      ·show 0≤yR S.st f ps∧yR S.st f ps<S.b.length;rw [h];exact hps p hp
     exact (z7 ((yM st).trans ((z7 (Wd X (n:=n) (S:=S.wb bb) (r:=(r++g)++g') rfl rfl (ev1 (zC (a:=9) (z5 rfl) rfl Wn (ev1 (z5 rfl) ev0) so) (ev1 rfl ev0)) lo.1 (by show _<(bb.length:Int);rw [hl3];exact lo.2) (by show bb.length<200;rw [hl3];exact hsb) rfl)).trans zL))).trans zL
    | false =>
     rw [hc] at st
     exact (z7 ((zN st).trans zL)).trans zL
   ·rw [sB,List.append_assoc])
  (fr:=[some (.ref 9),some (.ref (q+23)),none,none,none]) (h:=S.hp r) ⟨[],none,none,none,rfl,by rw [List.append_nil];rfl⟩
 rw [List.length_map,List.take_length] at e
 refine ⟨g,yI (fr:=[some (.ref 9),some (.ref (q+23)),none,none,none]) rfl rfl (fr':=[some (.ref 9),some (.ref (q+23)),b2,b3,b4]) ?_⟩
 unfold kA1
 dsimp only
 have es:yw (S.hp r) (.ref (q+23))=some (.ref (q+23),is.length):=by
  show (match r[q]? with | some (.list xs)=>some (Src.ref (q+23),xs.length) | _=>none)=_
  rw [hq]
  show some (_,(is.map AV.int).length)=_
  rw [List.length_map]
 exact (z7 (wj (en:=false) (x:=z6 1) (z5 rfl) es e)).trans zL
end
theorem z24 {cf:CF} {fr:AFr} {h h1:Hp} {x y:XE} {res:Out AV} (e:x cf fr h=.ok (.bool true) h1) (e':y cf fr h1=res):wa .And [x,y] cf fr h=res:=by rw [wW,e];exact e'
noncomputable def LET:Str := " !\"#$&'()*+,-./0123456789:;<=>?@ABCDEFGHIJKLMNOPQRSTUVWXYZ[\\]^_`abcdefghijklmnopqrstuvwxyz{|}~\n"
noncomputable def okT (cs:List Nat):Prop:=∀ c∈cs,c∈LET.cps.toList
theorem z54:LET.cps.toList.all (fun c=>Txt.contains LET ⟨#[c]⟩ && decide (c<1114112))=true:=by decide +kernel
theorem z2o {c:Nat} (h:c∈LET.cps.toList):Txt.contains LET ⟨#[c]⟩=true∧c<1114112:=by
 have:=List.all_eq_true.mp z54 c h
 exact ⟨(Bool.and_eq_true_iff.mp this).1,of_decide_eq_true (Bool.and_eq_true_iff.mp this).2⟩
theorem kCb {cs:List Nat} (h:okT cs):PyData.strOk (tx cs)=true:=by
 unfold PyData.strOk
 rw [Array.all_eq_true_iff_forall_mem]
 intro x hx
 exact decide_eq_true (z2o (h x (by simpa using hx))).2
section
variable {T:Tab} {okf:Str→Str→Bool} (X:TT T okf) {n:Nat} {S:Sh} {r:Hp} {mvs:List (List (Int×Int))} {cus:List (List Int)}
include X
theorem YX {cs:List Nat} (h:okT cs) (hl:cs.length≤200) {hp:Hp}:run T (n+1) (.fn "is_text") [.str (tx cs)] hp=.ok (.bool true) (hp++[.list (cs.map fun _=>AV.bool true)]):=by
 rw [yc X.kCd]
 have ec:=ZH ch (it:=z6 0) (own:=1) (i:=1) (v:=.str (tx cs)) (test:=y8 .And []) (elt:=wV (z6 1) [.In] [zI (some (.str LET))]) (cf:=run T n) (fr:=[some (.str (tx cs))]) (h:=hp) (h1:=hp) (l:=cs) (p:=fun _=>true) (f:=fun _=>AV.bool true) rfl rfl (zU rfl) (Nat.lt_of_le_of_lt hl (by decide))
  (fun fr' a1 a2 x hx a3=>rfl)
  (fun fr' a1 a2 x hx a3=>by
   unfold wV
   rw [zb (b:=true) (z5 a3) rfl (by rw [z3i,(z2o (h x hx)).1])]
   rfl)
 rw [List.filter_eq_self.mpr (fun _ _=>rfl)] at ec
 have hg:(hp++[.list (cs.map fun _=>AV.bool true)])[hp.length]? = some (AO.list (cs.map fun _=>AV.bool true)):=zQ hp _ []
 have ea:=z3s hg (ZI (f:=fun _=>true))
 have hb:(cs.map fun _=>true).all id=true:=List.all_eq_true.mpr fun x hx=>by obtain ⟨_,_,rfl⟩:=List.mem_map.mp hx;rfl
 rw [hb] at ea
 refine zO (fr:=[some (.str (tx cs))]) rfl rfl (fr':=[some (.str (tx cs))]) (zP (zo ?_))
 exact z24 (xl (h2:=hp) (vs:=[.str (tx cs),.bi .str]) (ev1 (z5 rfl) (ev1 rfl ev0)) (QD (v:=.str (tx cs)))) (xl (ev1 ec ev0) ea)
theorem Wh (K:Sg S mvs cus) (D:Dy S mvs cus r) {is:List Int} {q:Nat} {hd wd:AV} (hq:r[q]? = some (AO.list (is.map AV.int))) (hi:∀ i∈is,0≤i∧i<S.le.length) (hn:S.dn.length<200) :
  ∃ g,run T (n+5) (.meth "Sheet" "noted") [.ref 9,hd,wd,.ref (q+23)] (S.hp r)=.ok (.int S.dn.length) (({ S with b:=yo S mvs cus S.b is,dn:=S.dn++[.tup [hd,wd,.ref (q+23)]] }:Sh).hp (r++g)):=by
 rw [zG X.kBa]
 let S1:Sh:={ S with dn:=S.dn++[.tup [hd,wd,.ref (q+23)]] }
 have K1:Sg S1 mvs cus:=⟨K.fi,K.br,K.mv,K.cu,K.fr,K.mr,K.dr,K.bn,K.ps,K.cs,K.sl,K.st,K.sb⟩
 have D1:Dy S1 mvs cus r:=⟨D.ml,D.cl,D.m,D.c,D.nd⟩
 obtain ⟨g,e⟩:=z4n X (n:=n) K1 D1 hq hi
 refine ⟨g,zO (fr:=[some (.ref 9),some hd,some wd,some (.ref (q+23))]) rfl rfl (fr':=[some (.ref 9),some hd,some wd,some (.ref (q+23))]) ?_⟩
 unfold kBa
 dsimp only
 rw [z7 (jn (a:=20) (zs:=S.dn++[.tup [hd,wd,.ref (q+23)]]) rfl rfl kS9 rfl (xi (ev1 (z5 rfl) (ev1 (z5 rfl) (ev1 (z5 rfl) ev0)))) rfl (Nat.lt_trans hn (by decide)) rfl)]
 show zJ _ _ _ (S1.hp r)=_
 rw [z7 (zZ (zC (a:=9) (z5 rfl) rfl z06 (ev1 (z5 rfl) ev0) e))]
 refine zP (zo (xI (q8 (a:=20) (ys:=S.dn++[.tup [hd,wd,.ref (q+23)]]) rfl rfl kS9 rfl (zX)) rfl ?_))
 rw [Zz]
 show Out.ok (AV.int (((S.dn.length+1:Nat):Int) - 1)) _=_
 rw [show ((S.dn.length+1:Nat):Int) - 1=S.dn.length by lia]
 rfl
end
theorem WU {l:List Int} {x:Int} {j:Nat} (h:l.findIdx? (· == x)=some j):l=l.take j++x::l.drop (j+1):=by
 obtain ⟨hj,h1,_⟩:=List.findIdx?_eq_some_iff_getElem.mp h
 have:l[j]=x:=by simpa using h1
 conv=>lhs;rw [← List.take_append_drop j l,List.drop_eq_getElem_cons hj,this]
theorem Xc {l:List Int} (nd:l.Nodup) {f:Int→Bool} {k j:Nat} {x:Int} (hx:(l.filter f)[k]? = some x) (hj:l.findIdx? (· == x)=some j) :
  (l.take (j+1)).filter f=(l.filter f).take (k+1)∧(l.drop (j+1)).filter f=(l.filter f).drop (k+1):=by
 have hs:=WU hj
 have hjl:=(List.findIdx?_eq_some_iff_getElem.mp hj).1
 have fx:f x=true:=(List.mem_filter.mp (yq hx)).2
 have ht:l.take (j+1)=l.take j++[x]:=by
  rw [List.take_succ,yO hjl]
  have:l[j]=x:=by simpa using (List.findIdx?_eq_some_iff_getElem.mp hj).2.1
  rw [this];rfl
 have e:l.filter f=(l.take j).filter f++x::(l.drop (j+1)).filter f:=by
  conv=>lhs;rw [hs]
  rw [List.filter_append,List.filter_cons,if_pos fx]
 have hk:((l.take j).filter f).length=k:=by
  have nd2:(l.filter f).Nodup:=nd.filter f
  have h1:(l.filter f)[((l.take j).filter f).length]? = some x:=by rw [e];exact zQ _ _ _
  have lt1:=(yj h1).1
  have lt2:=(yj hx).1
  exact (List.getElem?_inj lt1 nd2).mp (h1.trans hx.symm)
 have lt:((l.take j).filter f++[x]).length=k+1:=by rw [zX,hk];rfl
 constructor
 ·rw [ht,List.filter_append,e,List.filter_cons,if_pos fx,List.filter_nil]
  conv=>rhs;rw [show (l.take j).filter f++x::(l.drop (j+1)).filter f=((l.take j).filter f++[x])++(l.drop (j+1)).filter f by rw [List.append_assoc];rfl]
  rw [List.take_left' lt]
 ·rw [e,show (l.take j).filter f++x::(l.drop (j+1)).filter f=((l.take j).filter f++[x])++(l.drop (j+1)).filter f by rw [List.append_assoc];rfl,List.drop_left' lt]
theorem Good.nodup {l:List Int} {b:List Bool} (G:Good l b):l.Nodup:=by
 refine G.perm.nodup_iff.mpr ?_
 rw [List.nodup_iff_pairwise_ne,List.pairwise_map]
 exact List.Pairwise.imp (fun h=>by lia) List.pairwise_lt_range
theorem z15 {l:List Bool}:(l++[true]).length=l.length+1:=zX
theorem ZP {l:List Bool}:(l.length:Int)<((l++[true]).length:Nat):=by rw [z15];exact Int.ofNat_lt.mpr (Nat.lt_succ_self _)
noncomputable abbrev Sh.ws (S:Sh) (st:List Bool):Sh:={ S with st:=st }
theorem Sg.ws {S:Sh} {mvs:List (List (Int×Int))} {cus:List (List Int)} (K:Sg S mvs cus) {st:List Bool} (h:S.st.length≤st.length) (hs:st.length<200):Sg (S.ws st) mvs cus :=
 have up:∀ {x:Int},x<S.st.length→x<st.length:=fun q=>Int.lt_of_lt_of_le q (Int.ofNat_le.mpr h)
 ⟨K.fi,K.br,K.mv,K.cu,K.fr,fun ps hp p hq=>⟨⟨(K.mr ps hp p hq).1.1,up (K.mr ps hp p hq).1.2⟩,(K.mr ps hp p hq).2⟩,fun ds hd d hq=>⟨(K.dr ds hd d hq).1,up (K.dr ds hd d hq).2⟩,
  fun v hv=>(K.bn v hv).imp id fun ⟨d,h,a,c⟩=>⟨d,h,a,up c⟩,fun ps hp=>Nat.le_trans (K.ps ps hp) h,fun ps hp=>Nat.le_trans (K.cs ps hp) h,K.sl,hs,K.sb⟩
theorem Sg.adds {S:Sh} {mvs:List (List (Int×Int))} {cus:List (List Int)} (K:Sg S mvs cus) {i q:Nat} {d:Int} {cs:List Nat} (hd:0≤d∧d<S.st.length) (hb:S.b.length+cs.length<200) (he:S.le.length+cs.length<200) :
  Sg (S.adds i (.int d) q cs) (mvs++List.replicate cs.length []) (cus++List.replicate cs.length []):=by
 have lb:(S.adds i (.int d) q cs).b.length=S.b.length+cs.length:=by show (S.b++List.replicate cs.length true).length=_;rw [zX,List.length_replicate]
 have ll:(S.adds i (.int d) q cs).le.length=S.le.length+cs.length:=zX
 refine ⟨?_,?_,?_,?_,fun x hx=>?_,fun ps hp p hq=>?_,fun ds hp p hq=>?_,fun v hv=>?_,fun ps hp=>?_,fun ps hp=>?_,by rw [ll];exact he,K.st,by rw [lb];exact hb⟩
 ·rw [ll];show (S.fi++zg S.b.length cs.length).length=_;rw [zX,yp,K.fi]
 ·rw [ll];show (S.br++List.replicate cs.length _).length=_;rw [zX,List.length_replicate,K.br]
 ·rw [ll,zX,List.length_replicate,K.mv]
 ·rw [ll,zX,List.length_replicate,K.cu]
 ·rw [lb]
  rcases wc hx with h | h
  ·exact ⟨(K.fr x h).1,QG _ (K.fr x h).2⟩
  ·exact ⟨Int.le_trans (Int.natCast_nonneg _) (xb h).1,(xb h).2⟩
 ·rw [lb]
  rcases wc hp with h | h
  ·obtain ⟨a,c,e⟩:=K.mr ps h p hq;exact ⟨a,c,QG _ e⟩
  ·rw [(List.mem_replicate.mp h).2] at hq;cases hq
 ·rcases wc hp with h | h
  ·exact K.dr ds h p hq
  ·rw [(List.mem_replicate.mp h).2] at hq;cases hq
 ·rcases wc hv with h | h
  ·exact K.bn v h
  ·exact .inr ⟨d,(List.mem_replicate.mp h).2,hd⟩
 ·rcases wc hp with h | h
  ·exact K.ps ps h
  ·rw [(List.mem_replicate.mp h).2];exact Nat.zero_le _
 ·rcases wc hp with h | h
  ·exact K.cs ps h
  ·rw [(List.mem_replicate.mp h).2];exact Nat.zero_le _
theorem X9 {α:Type} {p:Prop} [Decidable p] {x y:α} (e:(if p then some x else none)=some y):p∧x=y:=by
 by_cases h:p
 ·rw [if_pos h] at e;exact ⟨h,Option.some.inj e⟩
 ·rw [if_neg h] at e;cases e
theorem WD {α:Type} {a c:List α} {i:Nat} {x:α} (h:(a++c)[i]? = some x):(i<a.length∧a[i]? = some x)∨(a.length≤i∧c[i - a.length]? = some x):=by
 by_cases hi:i<a.length
 ·rw [List.getElem?_append_left hi] at h;exact .inl ⟨hi,h⟩
 ·rw [List.getElem?_append_right (Nat.not_lt.mp hi)] at h;exact .inr ⟨Nat.not_lt.mp hi,h⟩
theorem Dy.lt {S:Sh} {mvs:List (List (Int×Int))} {cus:List (List Int)} {r:Hp} (D:Dy S mvs cus r):∀ k∈S.mv++S.cu,k<r.length:=by
 intro k hk
 rcases wc hk with h | h
 ·obtain ⟨i,hi,rfl⟩:=List.getElem_of_mem h
  have e:=yO hi
  have h2:i<mvs.length:=by rw [← D.ml];exact hi
  exact (yj (D.m i _ _ e (yO h2))).1
 ·obtain ⟨i,hi,rfl⟩:=List.getElem_of_mem h
  have e:=yO hi
  have h2:i<cus.length:=by rw [← D.cl];exact hi
  exact (yj (D.c i _ _ e (yO h2))).1
theorem Dy.adds {S:Sh} {mvs:List (List (Int×Int))} {cus:List (List Int)} {r:Hp} (D:Dy S mvs cus r) {i:Nat} {d:AV} {cs:List Nat} {o:AO} :
  Dy (S.adds i d (r.length+1) cs) (mvs++List.replicate cs.length []) (cus++List.replicate cs.length []) (r++o::List.replicate (2 * cs.length) (.list [])):=by
 have nw:∀ k,k<2 * cs.length→(r++o::List.replicate (2 * cs.length) (AO.list []))[r.length+1+k]? = some (.list []):=fun k hk=>by
  rw [Nat.add_assoc,zD,Nat.add_comm 1 k,List.getElem?_cons_succ,List.getElem?_replicate,if_pos hk]
 refine ⟨?_,?_,fun j k ps h1 h2=>?_,fun j k ds h1 h2=>?_,?_⟩
 ·show (S.mv++_).length=_;rw [zX,zX,List.length_map,List.length_range,List.length_replicate,D.ml]
 ·show (S.cu++_).length=_;rw [zX,zX,List.length_map,List.length_range,List.length_replicate,D.cl]
 ·rcases WD h1 with ⟨a1,a2⟩ | ⟨a1,a2⟩
  ·rw [List.getElem?_append_left (by rw [← D.ml];exact a1)] at h2
   exact zB (D.m j k ps a2 h2)
  ·rw [List.getElem?_append_right (by rw [← D.ml];exact a1),List.getElem?_replicate] at h2
   rw [List.getElem?_map] at a2
   obtain ⟨m,hm,rfl⟩:=yC a2
   have hlt:=(yj hm).1
   rw [List.length_range] at hlt
   rw [List.getElem?_range hlt] at hm
   cases hm
   obtain ⟨_,rfl⟩:=X9 h2
   exact nw _ (Nat.mul_lt_mul_of_pos_left hlt (by decide))
 ·rcases WD h1 with ⟨a1,a2⟩ | ⟨a1,a2⟩
  ·rw [List.getElem?_append_left (by rw [← D.cl];exact a1)] at h2
   exact zB (D.c j k ds a2 h2)
  ·rw [List.getElem?_append_right (by rw [← D.cl];exact a1),List.getElem?_replicate] at h2
   rw [List.getElem?_map] at a2
   obtain ⟨m,hm,rfl⟩:=yC a2
   have hlt:=(yj hm).1
   rw [List.length_range] at hlt
   rw [List.getElem?_range hlt] at hm
   cases hm
   obtain ⟨_,rfl⟩:=X9 h2
   rw [Nat.add_assoc (r.length+1)]
   exact nw _ (Nat.lt_of_lt_of_le (Nat.lt_succ_self _) (Nat.mul_le_mul_left 2 hlt))
 ·show ((S.mv++(List.range cs.length).map fun j=>r.length+1+2 * j)++(S.cu++(List.range cs.length).map fun j=>r.length+1+2 * j+1)).Nodup
  have lt:=D.lt
  have nd:=D.nd
  rw [List.nodup_append] at nd ⊢
  obtain ⟨n1,n2,n3⟩:=nd
  have big1:∀ x∈(List.range cs.length).map (fun j=>r.length+1+2 * j),r.length<x∧(x - r.length) % 2=1:=fun x hx=>by
   obtain ⟨j,_,rfl⟩:=List.mem_map.mp hx
   exact ⟨Nat.lt_of_lt_of_le (Nat.lt_succ_self _) (Nat.le_add_right _ _),by rw [Nat.add_assoc,Nat.add_sub_cancel_left];exact Nat.add_mul_mod_self_left 1 2 j⟩
  have big2:∀ x∈(List.range cs.length).map (fun j=>r.length+1+2 * j+1),r.length<x∧(x - r.length) % 2=0:=fun x hx=>by
   obtain ⟨j,_,rfl⟩:=List.mem_map.mp hx
   have e:r.length+1+2 * j+1=r.length+(0+2 * (j+1)):=by rw [Nat.zero_add,Nat.mul_succ,Nat.add_right_comm r.length 1];rfl
   exact ⟨Nat.lt_of_lt_of_le (Nat.lt_succ_self _) (Nat.le_trans (Nat.le_add_right _ _) (Nat.le_succ _)),by rw [e,Nat.add_sub_cancel_left];exact Nat.add_mul_mod_self_left 0 2 (j+1)⟩
  have nr1:((List.range cs.length).map (fun j=>r.length+1+2 * j)).Nodup:=by
   rw [List.nodup_iff_pairwise_ne,List.pairwise_map];exact List.Pairwise.imp (fun h=>Nat.ne_of_lt (by first | exact Nat.add_lt_add_left (Nat.mul_lt_mul_of_pos_left h (by decide)) _ | exact Nat.succ_lt_succ (Nat.add_lt_add_left (Nat.mul_lt_mul_of_pos_left h (by decide)) _))) List.pairwise_lt_range
  have nr2:((List.range cs.length).map (fun j=>r.length+1+2 * j+1)).Nodup:=by
   rw [List.nodup_iff_pairwise_ne,List.pairwise_map];exact List.Pairwise.imp (fun h=>Nat.ne_of_lt (by first | exact Nat.add_lt_add_left (Nat.mul_lt_mul_of_pos_left h (by decide)) _ | exact Nat.succ_lt_succ (Nat.add_lt_add_left (Nat.mul_lt_mul_of_pos_left h (by decide)) _))) List.pairwise_lt_range
  refine ⟨List.nodup_append.mpr ⟨n1,nr1,fun x hx y hy e=>?_⟩,List.nodup_append.mpr ⟨n2,nr2,fun x hx y hy e=>?_⟩,fun x hx y hy e=>?_⟩
  ·exact absurd (e▸lt x (List.mem_append_left _ hx)) (Nat.lt_asymm (big1 y hy).1)
  ·exact absurd (e▸lt x (List.mem_append_right _ hx)) (Nat.lt_asymm (big2 y hy).1)
  ·subst e
   rcases wc hx with hx | hx <;> rcases wc hy with hy | hy
   ·exact n3 x hx x hy rfl
   ·exact absurd (lt x (List.mem_append_left _ hx)) (Nat.lt_asymm (big2 x hy).1)
   ·exact absurd (lt x (List.mem_append_right _ hy)) (Nat.lt_asymm (big1 x hx).1)
   ·exact absurd ((big1 x hx).2.symm.trans (big2 x hy).2) (by decide)
section
variable {T:Tab} {okf:Str→Str→Bool} (X:TT T okf) {n:Nat} {S:Sh} {r:Hp} {mvs:List (List (Int×Int))} {cus:List (List Int)}
include X
theorem z3x (G:Good S.l S.b) {p:Int} (h0:0≤p) (h1:p≤(tk S.b S.l).length) :
  ∃ g bh i,run T (n+4) (.meth "Sheet" "seat_ahead") [.ref 9,.int p] (S.hp r)=.ok bh (S.hp (r++g))∧At S.l S.b bh i∧tk S.b (S.l.take i)=(tk S.b S.l).take p.toNat∧tk S.b (S.l.drop i)=(tk S.b S.l).drop p.toNat:=by
 by_cases hp:p=0
 ·subst hp
  exact ⟨[],.none,0,by rw [List.append_nil];exact Xj X (n:=n+3),.inl ⟨rfl,rfl⟩,rfl,rfl⟩
 ·obtain ⟨g,e⟩:=Qb X (n:=n) (r:=r) (p:=p) (Int.lt_iff_le_and_ne.mpr ⟨h0,Ne.symm hp⟩) h1 G
  have hk:(p - 1).toNat<(tk S.b S.l).length:=(Int.toNat_lt (Int.sub_nonneg_of_le (Int.lt_iff_le_and_ne.mpr ⟨h0,Ne.symm hp⟩))).mpr (Int.lt_of_lt_of_le (Int.sub_one_lt_of_le (Int.le_refl p)) h1)
  have ex:=yO hk
  rw [ex] at e
  have hm:(tk S.b S.l)[(p - 1).toNat]∈S.l:=(List.mem_filter.mp (List.getElem_mem hk)).1
  obtain ⟨x0,x1⟩:=G.rng _ hm
  obtain ⟨j,hj,_⟩:=G.idx x0 x1
  obtain ⟨s1,s2⟩:=Xc G.nodup ex hj
  rw [show (p - 1).toNat+1=p.toNat by lia] at s1 s2
  exact ⟨g,_,j+1,e,.inr ⟨_,j,rfl,x0,x1,hj,rfl⟩,s1,s2⟩
end
theorem JE {h:Hp} {x:Str} (e:PyData.strOk x=true):toD h 8 (.str x)=some (.str x):=by
 show (if PyData.strOk x then some (PyData.str x) else none)=_
 rw [if_pos e]
theorem qj {h:Hp} {x y:Str} (e:PyData.strOk x=true) (e':PyData.strOk y=true):aEq h (.str x) (.str y)=some (x == y):=ZJ (JE e) (JE e')
theorem Z2:PyData.strOk ("" : Str)=true:=by decide +kernel
theorem zGn {a c:List Nat} (h:tx a=tx c):a=c:=congrArg (fun s:Str=>s.cps.toList) h
theorem zHs {cs:List Nat} (h:cs≠[]):(tx cs == ("" : Str))=false:=beq_eq_false_iff_ne.mpr fun e=>h (zGn (c:=[]) e)
theorem Ok1.sz {S:Sh} {mvs:List (List (Int×Int))} {cus:List (List Int)} {r:Hp} (O:Ok1 S) (K:Sg S mvs cus) (D:Dy S mvs cus r):Sz S 500:=by
 have h1:=O.G.len
 have h2:=O.G.sm
 have h3:=K.sl
 have h4:=Nat.le_of_lt (Nat.lt_trans h2 (by decide:200<500))
 have h5:=Nat.le_of_lt (Nat.lt_trans h3 (by decide:200<500))
 exact ⟨by rw [h1];exact h4,h4,by rw [O.ow];exact h4,h5,by rw [K.fi];exact h5,by rw [D.ml,K.mv];exact h5,by rw [K.br];exact h5,by rw [D.cl,K.cu];exact h5⟩
noncomputable def Kp (S:Sh) (r r':Hp):Prop:=∀ (q:Nat) (o:AO),q∉S.mv→q∉S.cu→r[q]? = some o→r'[q]? = some o
noncomputable abbrev Sh.s1 (S:Sh):Sh:={ S with st:=S.st++[true] }
theorem Xk {S:Sh}:S.s1.st.length=S.st.length+1:=z15
section
variable {T:Tab} {okf:Str→Str→Bool} (X:TT T okf) {n:Nat} {S:Sh} {r:Hp} {mvs:List (List (Int×Int))} {cus:List (List Int)}
theorem Sg.st1 (K:Sg S mvs cus) (h:S.s1.st.length<200):Sg S.s1 mvs cus:=K.ws (Nat.le_of_lt (Int.ofNat_lt.mp ZP)) h
include X
theorem WT {fr:AFr} (h0:fr[0]? = some (some (.ref 9))) (hs:S.st.length<200):zM (z9 (zH (z6 0) "standing") "append" (some .append) [(z8 (.bool true))]) (run T n) fr (S.hp r)=.ok .next fr (S.s1.hp r) :=
 jn (h:=S.hp r) (h1:=S.hp r) (v:=.bool true) (a:=21) (ys:=S.st.map AV.bool) (zs:=(S.st++[true]).map AV.bool) h0 rfl z2u rfl rfl rfl (by rw [List.length_map];exact Nat.lt_trans hs (by decide)) (xt AV.bool S.st true)
theorem zI3 (O:Ok1 S) (K:Sg S mvs cus) (D:Dy S mvs cus r) (hst:S.st.length=S.dn.length) {hd p:Int} {cs:List Nat} (d0:0≤hd) (d1:hd<S.hands) (p0:0≤p) (p1:p≤(tk S.b S.l).length) (ok:okT cs) (ne:cs≠[]) (hc:cs.length≤100)
  (hb:S.b.length+cs.length<200) (he:S.le.length+cs.length<200) (hs:S.s1.st.length<200) :
  ∃ r' i q x,tk S.b (S.l.take i)=(tk S.b S.l).take p.toNat∧tk S.b (S.l.drop i)=(tk S.b S.l).drop p.toNat∧i≤S.l.length ∧
   run T (n+6) (.meth "Sheet" "put") [.ref 9,.int hd,.int p,.str (tx cs)] (S.hp r)=.ok (.int S.dn.length) (({ S.s1.adds i (.int S.dn.length) q cs with b:=yo (S.s1.adds i (.int S.dn.length) q cs) (mvs++List.replicate cs.length []) (cus++List.replicate cs.length []) (S.s1.adds i (.int S.dn.length) q cs).b (zg S.le.length cs.length),dn:=S.dn++[x] }:Sh).hp r') ∧
   Dy (S.s1.adds i (.int S.dn.length) q cs) (mvs++List.replicate cs.length []) (cus++List.replicate cs.length []) r'∧Kp S r r'∧r.length≤q∧∃ q':Nat,q=q'+1∧r.length≤q'∧x=.tup [.int hd,.str "put",.ref (q'+23)]∧r'[q']? = some (.list ((zg S.le.length cs.length).map AV.int)):=by
 have hs0:S.st.length<200:=Nat.lt_trans (Int.ofNat_lt.mp ZP) hs
 have p2:p≤S.b.countP id:=by rw [← O.G.count];exact p1
 generalize hr1:r++[.list (cs.map fun _=>AV.bool true)]=r1
 have D1:Dy S.s1 mvs cus r1:=by rw [← hr1];have:=D.grow [.list (cs.map fun _=>AV.bool true)];exact ⟨this.ml,this.cl,this.m,this.c,this.nd⟩
 have O1:Ok1 S.s1:=⟨O.G,O.ow,O.own,O.le⟩
 have K1:=K.st1 hs
 obtain ⟨g,bh,i,ea,hA,t1,t2⟩:=z3x X (n:=n+1) (S:=S.s1) (r:=r1) O.G p0 p1
 have eb:=z3m X (n:=n+1) (S:=S.s1) (r:=r1++g) (bh:=bh) (d:=.int S.dn.length) (i:=i) (cs:=cs) hA (O1.sz K1 D1) (fun x hx=>(O.G.rng x hx).2) hc
 have D2:=(D1.grow g).adds (i:=i) (d:=.int S.dn.length) (cs:=cs) (o:=.list ((zg S.s1.le.length cs.length).map AV.int))
 have K2:=K1.adds (i:=i) (q:=(r1++g).length+1) (d:=S.dn.length) (cs:=cs) ⟨Int.natCast_nonneg _,by rw [← hst];exact ZP⟩ hb he
 obtain ⟨g2,en⟩:=Wh X (n:=n) (hd:=.int hd) (wd:=.str "put") (q:=(r1++g).length) (is:=zg S.le.length cs.length) K2 D2 (zQ _ _ _) (fun j hj=>by
  have:=xb hj
  show 0≤j∧j<((S.le++cs).length:Int)
  rw [zX];lia) (by show S.dn.length<200;rw [← hst];exact hs0)
 refine ⟨_,i,(r1++g).length+1,.tup [.int hd,.str "put",.ref ((r1++g).length+23)],t1,t2,hA.le,?_,⟨(D2.grow g2).ml,(D2.grow g2).cl,(D2.grow g2).m,(D2.grow g2).c,(D2.grow g2).nd⟩,fun q o _ _ h=>zB (zB (zB (by rw [← hr1];exact zB h))),by rw [← hr1,zX,zX];lia,(r1++g).length,rfl,by rw [← hr1,zX,zX,Nat.add_assoc];exact Nat.le_add_right _ _,rfl,zB (zQ _ _ _)⟩
 rw [zG X.kBt]
 refine zO (fr:=[some (.ref 9),some (.int hd),some (.int p),some (.str (tx cs))]) rfl rfl (fr':=[some (.ref 9),some (.int hd),some (.int p),some (.str (tx cs))]) ?_
 unfold kBt
 dsimp only
 rw [z7 (zZ (zC (a:=9) (z5 rfl) rfl ze (ev1 (z5 rfl) ev0) (yP X (n:=n+3) d0 d1)))]
 rw [z7 (zZ (zC (a:=9) (z5 rfl) rfl zu (ev1 (z5 rfl) ev0) (yf X (n:=n+2) p0 p2)))]
 have et:y8 .Or [(yn (yT (zK (zI (some (.fn "is_text"))) [(z6 3)]))),(zj (z6 3) [.Eq] [(z8 (.str ""))])] (run T (n+5)) [some (.ref 9),some (.int hd),some (.int p),some (.str (tx cs))] (S.hp r)=.ok false (S.hp r1):=by
  refine yv (h1:=S.hp r1) (zx (b:=true) (yZ (v:=.bool true) (zc (ev1 (z5 rfl) ev0) ((YX X (n:=n+4) ok (by lia)).trans ?_)) rfl)) (yv (zb (z5 rfl) rfl ?_) qU)
  ·rw [← hr1];rfl
  ·rw [xN,qj (kCb ok) Z2,zHs ne]
 rw [z7 ((zN et).trans zL)]
 rw [z7 (WT X (n:=n+5) rfl hs0)]
 refine zP (zo (zC (a:=9) (z5 rfl) rfl YO (ev1 (z5 rfl) (ev1 rfl (ev1 (zC (a:=9) (z5 rfl) rfl z2k (ev1 (z5 rfl) (ev1 (zC (a:=9) (z5 rfl) rfl jN (ev1 (z5 rfl) ev0) ea) (ev1 (q8 (a:=20) rfl rfl kS9 rfl rfl) ev0))) eb) ev0))) en))
end
theorem Qk {mv cu:List Nat} (nd:(mv++cu).Nodup) {i j k m:Nat} (h1:mv[i]? = some k) (h2:cu[j]? = some m):k≠m:=by
 rw [List.nodup_append] at nd
 exact nd.2.2 k (yq h1) m (yq h2)
theorem X4 {l:List Nat} (nd:l.Nodup) {i j k:Nat} (h1:l[i]? = some k) (h2:l[j]? = some k):i=j :=
 (List.getElem?_inj (yj h1).1 nd).mp (h1.trans h2.symm)
theorem Dy.setC {S:Sh} {mvs:List (List (Int×Int))} {cus:List (List Int)} {r:Hp} (D:Dy S mvs cus r) {i kc:Nat} {ds:List Int} (h:S.cu[i]? = some kc):Dy S mvs (cus.set i ds) (r.set kc (.list (ds.map AV.int))):=by
 have hlt:=D.lt kc (List.mem_append_right _ (yq h))
 have nd2:S.cu.Nodup:=(List.nodup_append.mp D.nd).2.1
 refine ⟨D.ml,by rw [List.length_set];exact D.cl,fun j k ps h1 h2=>?_,fun j k es h1 h2=>?_,D.nd⟩
 ·rw [List.getElem?_set_ne (Ne.symm (Qk D.nd h1 h))];exact D.m j k ps h1 h2
 ·by_cases hj:i=j
  ·subst hj
   rw [h] at h1;cases h1
   rw [List.getElem?_set_self (by rw [← D.cl];exact (yj h).1)] at h2
   cases h2
   exact List.getElem?_set_self hlt
  ·rw [List.getElem?_set_ne hj] at h2
   rw [List.getElem?_set_ne (fun (q:_=k)=>hj (X4 nd2 h (by rw [q];exact h1)))]
   exact D.c j k es h1 h2
theorem Dy.setM {S:Sh} {mvs:List (List (Int×Int))} {cus:List (List Int)} {r:Hp} (D:Dy S mvs cus r) {i km:Nat} {ps:List (Int×Int)} (h:S.mv[i]? = some km):Dy S (mvs.set i ps) cus (r.set km (.list (ps.map pr))):=by
 have hlt:=D.lt km (List.mem_append_left _ (yq h))
 have nd2:S.mv.Nodup:=(List.nodup_append.mp D.nd).1
 refine ⟨by rw [List.length_set];exact D.ml,D.cl,fun j k es h1 h2=>?_,fun j k es h1 h2=>?_,D.nd⟩
 ·by_cases hj:i=j
  ·subst hj
   rw [h] at h1;cases h1
   rw [List.getElem?_set_self (by rw [← D.ml];exact (yj h).1)] at h2
   cases h2
   exact List.getElem?_set_self hlt
  ·rw [List.getElem?_set_ne hj] at h2
   rw [List.getElem?_set_ne (fun (q:_=k)=>hj (X4 nd2 h (by rw [q];exact h1)))]
   exact D.m j k es h1 h2
 ·rw [List.getElem?_set_ne (Qk D.nd h h1)];exact D.c j k es h1 h2
noncomputable def yr (d:Int) (cus:List (List Int)) (is:List Int):List (List Int):=is.foldl (fun c i=>c.set i.toNat (c[i.toNat]?.getD []++[d])) cus
theorem WJ (d:Int) (cus:List (List Int)) (is:List Int) (i:Int):yr d cus (is++[i])=(yr d cus is).set i.toNat ((yr d cus is)[i.toNat]?.getD []++[d]):=by
 unfold yr;rw [List.foldl_append];rfl
theorem Yd (d:Int) (is:List Int):∀ cus:List (List Int),(yr d cus is).length=cus.length:=by
 induction is with
 | nil=>intro c;rfl
 | cons i is ih=>intro c;exact (ih _).trans List.length_set
noncomputable def yH (d:Int):List (List (Int×Int))→Nat→List Int→List (List (Int×Int))
 | mvs,_,[]=>mvs
 | mvs,n,i::is=>yH d (mvs.set i.toNat (mvs[i.toNat]?.getD []++[(d,(n:Int))])) (n+1) is
theorem Qo (d:Int) (is:List Int) (i:Int):∀ (mvs:List (List (Int×Int))) (n:Nat),yH d mvs n (is++[i])=(yH d mvs n is).set i.toNat ((yH d mvs n is)[i.toNat]?.getD []++[(d,((n+is.length:Nat):Int))]):=by
 induction is with
 | nil=>intro mvs n;rfl
 | cons j is ih =>
  intro mvs n
  show yH d _ (n+1) (is++[i])=_
  rw [ih,List.length_cons,show n+1+is.length=n+(is.length+1) by rw [Nat.add_assoc,Nat.add_comm 1]]
  rfl
theorem YF (d:Int) (is:List Int):∀ (mvs:List (List (Int×Int))) (n:Nat),(yH d mvs n is).length=mvs.length:=by
 induction is with
 | nil=>intro c n;rfl
 | cons i is ih=>intro c n;exact (ih _ _).trans List.length_set
theorem Xr {a b:Int} (ha:0≤a) (hb:0≤b) (h:a.toNat=b.toNat):a=b:=by rw [← Int.toNat_of_nonneg ha,h,Int.toNat_of_nonneg hb]
theorem XB {d:Int} {j:Int} (hj:0≤j) {is:List Int}:∀ {cus:List (List Int)},is.Nodup→(∀ i∈is,0≤i∧i<cus.length)→(yr d cus is)[j.toNat]? = if j∈is then (cus[j.toNat]?).map (·++[d]) else cus[j.toNat]? := by
 induction is with
 | nil=>intro cus _ _;rw [if_neg (List.not_mem_nil)];rfl
 | cons i is ih =>
  intro cus nd hr
  obtain ⟨nd1,nd2⟩:=List.nodup_cons.mp nd
  obtain ⟨i0,i1⟩:=hr i (.head _)
  have:=ih (cus:=cus.set i.toNat (cus[i.toNat]?.getD []++[d])) nd2 (fun x hx=>by rw [List.length_set];exact hr x (.tail _ hx))
  show (yr d (cus.set i.toNat (cus[i.toNat]?.getD []++[d])) is)[j.toNat]? = _
  rw [this]
  have lt:i.toNat<cus.length:=qb i0 i1
  by_cases h:j=i
  ·subst h
   rw [if_neg nd1,if_pos (.head _),List.getElem?_set_self lt,yO lt];rfl
  ·have ne:i.toNat≠j.toNat:=fun e=>h (Xr i0 hj e).symm
   rw [List.getElem?_set_ne ne]
   by_cases hm:j∈is
   ·rw [if_pos hm,if_pos (.tail _ hm)]
   ·rw [if_neg hm,if_neg (fun q=>by
     rcases List.mem_cons.mp q with q | q
     ·exact h q
     ·exact hm q)]
theorem X6 {d:Int} {j:Int} (hj:0≤j) {is:List Int}:∀ {mvs:List (List (Int×Int))} {n:Nat},is.Nodup→(∀ i∈is,0≤i∧i<mvs.length) →
  (j∉is→(yH d mvs n is)[j.toNat]? = mvs[j.toNat]?)∧∀ k,is[k]? = some j→(yH d mvs n is)[j.toNat]? = (mvs[j.toNat]?).map (·++[(d,((n+k:Nat):Int))]):=by
 induction is with
 | nil=>intro mvs n _ _;exact ⟨fun _=>rfl,fun k h=>by cases h⟩
 | cons i is ih =>
  intro mvs n nd hr
  obtain ⟨nd1,nd2⟩:=List.nodup_cons.mp nd
  obtain ⟨i0,i1⟩:=hr i (.head _)
  obtain ⟨a,b⟩:=ih (mvs:=mvs.set i.toNat (mvs[i.toNat]?.getD []++[(d,(n:Int))])) (n:=n+1) nd2 (fun x hx=>by rw [List.length_set];exact hr x (.tail _ hx))
  have lt:i.toNat<mvs.length:=qb i0 i1
  refine ⟨fun hn=>?_,fun k hk=>?_⟩
  ·have ne:i.toNat≠j.toNat:=fun e=>hn ((Xr i0 hj e)▸.head _)
   exact (a fun q=>hn (.tail _ q)).trans (List.getElem?_set_ne ne)
  ·cases k with
   | zero =>
    have hk:i=j:=Option.some.inj hk
    subst hk
    rw [show yH d mvs n (i::is)=yH d (mvs.set i.toNat (mvs[i.toNat]?.getD []++[(d,(n:Int))])) (n+1) is from rfl,a nd1,List.getElem?_set_self lt,yO lt]
    rfl
   | succ k =>
    have hk:is[k]? = some j:=hk
    have ne:i.toNat≠j.toNat:=fun e=>nd1 ((Xr i0 hj e)▸yq hk)
    rw [show yH d mvs n (i::is)=yH d (mvs.set i.toNat (mvs[i.toNat]?.getD []++[(d,(n:Int))])) (n+1) is from rfl,b k hk,List.getElem?_set_ne ne,show n+1+k=n+(k+1) by lia]
section
variable {T:Tab} {okf:Str→Str→Bool} (X:TT T okf) {n:Nat} {S:Sh} {r:Hp} {mvs:List (List (Int×Int))} {cus:List (List Int)}
include X
theorem QS (O:Ok1 S) {i j:Int} (h0:0≤i) (h1:i<j) (h2:j≤(tk S.b S.l).length) {fr:AFr} {s a c:Nat} (f0:fr[s]? = some (some (.ref 9))) (fa:fr[a]? = some (some (.int i))) (fc:fr[c]? = some (some (.int j))) :
  Ym (z9 (z6 s) "shown" none []) (z6 a) (z6 c) (run T (n+4)) fr (S.hp r)=.ok (.ref (r.length+25)) (S.hp (r++[.list (S.l.map AV.int),.list (S.sh.map AV.int),.list (((S.sh.take j.toNat).drop i.toNat).map AV.int)])):=by
 have hl:S.sh.length=(tk S.b S.l).length:=List.length_map _
 have hs:(tk S.b S.l).length<200:=by
  exact Nat.lt_of_le_of_lt (List.length_filter_le (fl S.b) S.l) (O.G.len▸O.G.sm)
 have jl:j<4611686018427387904:=Int.lt_of_le_of_lt h2 (Int.lt_trans (Int.ofNat_lt.mpr hs) (by decide))
 have hg:(S.hp (r++[.list (S.l.map AV.int),.list (S.sh.map AV.int)]))[r.length+24]? = some (.list (S.sh.map AV.int)):=by
  show (r++[.list (S.l.map AV.int),.list (S.sh.map AV.int)])[r.length+1]? = _
  rw [zD];rfl
 refine (z5w (zC (a:=9) (z5 f0) rfl YM ev0 (WX X (n:=n) (r:=r) O)) (z5 fa) (z5 fc) (z5l hg (jK (qH.mpr ⟨h0,Int.lt_trans h1 jl⟩)) (jK (qH.mpr ⟨Int.le_trans h0 (Int.le_of_lt h1),jl⟩)) (by rw [List.length_map,hl];exact Nat.le_trans (Nat.le_of_lt hs) (by decide)))).trans ?_
 have l1:(S.hp (r++[.list (S.l.map AV.int),.list (S.sh.map AV.int)])).length=r.length+25:=by
  show (r++[AO.list (S.l.map AV.int),.list (S.sh.map AV.int)]).length+23=_
  rw [zX];rfl
 rw [l1]
 show Out.ok _ (S.hp ((r++[.list (S.l.map AV.int),.list (S.sh.map AV.int)])++[.list (((S.sh.map AV.int).take j.toNat).drop i.toNat)]))=_
 rw [List.append_assoc,← List.map_take,← List.map_drop]
 rfl
end
theorem Sg.cut {S:Sh} {mvs:List (List (Int×Int))} {cus:List (List Int)} (K:Sg S mvs cus) (hs:S.s1.st.length<200) {is:List Int} (nd:is.Nodup) (hi:∀ i∈is,0≤i∧i<S.le.length):Sg S.s1 mvs (yr S.st.length cus is):=by
 have K1:=K.st1 hs
 have at_:∀ ds∈yr S.st.length cus is,∃ es∈cus,ds=es∨ds=es++[(S.st.length:Int)]:=fun ds hd=>by
  obtain ⟨j,hj,rfl⟩:=List.getElem_of_mem hd
  have e:=yO hj
  have:=XB (d:=S.st.length) (j:=(j:Int)) (by lia) (cus:=cus) nd (fun i h=>by rw [K.cu];exact hi i h)
  rw [Int.toNat_natCast,e] at this
  have hj2:j<cus.length:=by rw [← Yd S.st.length is cus];exact hj
  rw [yO hj2] at this
  by_cases h:(j:Int)∈is
  ·rw [if_pos h] at this;exact ⟨_,List.getElem_mem hj2,.inr (Option.some.inj this)⟩
  ·rw [if_neg h] at this;exact ⟨_,List.getElem_mem hj2,.inl (Option.some.inj this)⟩
 refine ⟨K.fi,K.br,K.mv,by rw [Yd];exact K.cu,K.fr,K1.mr,fun ds hd d h=>?_,K1.bn,K1.ps,fun ds hd=>?_,K.sl,hs,K.sb⟩
 ·obtain ⟨es,he,q | q⟩:=at_ ds hd
  ·rw [q] at h;exact K1.dr es he d h
  ·rw [q] at h
   rcases wc h with h | h
   ·exact K1.dr es he d h
   ·rw [qV h]
    exact ⟨Int.natCast_nonneg _,ZP⟩
 ·obtain ⟨es,he,q | q⟩:=at_ ds hd
  ·rw [q];exact K1.cs es he
  ·rw [q,zX];rw [Xk];exact Nat.succ_le_succ (K.cs es he)
theorem jv {S:Sh} (O:Ok1 S) {i j:Nat}:∀ x∈(S.sh.take j).drop i,0≤x∧x<S.le.length:=fun x hx=>O.sh_mem (List.mem_of_mem_take (List.mem_of_mem_drop hx))
section
variable {T:Tab} {okf:Str→Str→Bool} (X:TT T okf) {n:Nat} {S:Sh} {r:Hp} {mvs:List (List (Int×Int))} {cus:List (List Int)}
include X
theorem zK1 (O:Ok1 S) (K:Sg S mvs cus) (D:Dy S mvs cus r) (hst:S.st.length=S.dn.length) (ndS:S.sh.Nodup) {hd i j:Int} (d0:0≤hd) (d1:hd<S.hands) (h0:0≤i) (h1:i<j) (h2:j≤(tk S.b S.l).length) (hs:S.s1.st.length<200) :
  ∃ r' x,run T (n+6) (.meth "Sheet" "cut") [.ref 9,.int hd,.int i,.int j] (S.hp r)=.ok (.int S.dn.length) (({ S.s1 with b:=yo S.s1 mvs (yr S.st.length cus ((S.sh.take j.toNat).drop i.toNat)) S.b ((S.sh.take j.toNat).drop i.toNat),dn:=S.dn++[x] }:Sh).hp r') ∧
   Dy S.s1 mvs (yr S.st.length cus ((S.sh.take j.toNat).drop i.toNat)) r'∧Kp S r r'∧∃ q':Nat,r.length≤q'∧x=.tup [.int hd,.str "cut",.ref (q'+23)]∧r'[q']? = some (.list (((S.sh.take j.toNat).drop i.toNat).map AV.int)):=by
 have hs0:S.st.length<200:=Nat.lt_trans (Int.ofNat_lt.mp ZP) hs
 have p2:j≤S.b.countP id:=by rw [← O.G.count];exact h2
 generalize his:(S.sh.take j.toNat).drop i.toNat=is
 have hi:∀ x∈is,0≤x∧x<S.le.length:=by rw [← his];exact jv O
 have nd:is.Nodup:=by rw [← his];exact (ndS.sublist (List.take_sublist _ _)).sublist (List.drop_sublist _ _)
 have ec:=QS X (s:=0) (n:=n+1) (r:=r) O h0 h1 h2 (fr:=[some (.ref 9),some (.int hd),some (.int i),some (.int j),none,none]) (a:=2) (c:=3) rfl rfl rfl
 rw [his] at ec
 generalize hr1:r++[.list (S.l.map AV.int),.list (S.sh.map AV.int),.list (is.map AV.int)]=r1 at ec
 have hq:r1[r.length+2]? = some (AO.list (is.map AV.int)):=by rw [← hr1,zD];rfl
 have D1:Dy S.s1 mvs cus r1:=by rw [← hr1];have:=D.grow [.list (S.l.map AV.int),.list (S.sh.map AV.int),.list (is.map AV.int)];exact ⟨this.ml,this.cl,this.m,this.c,this.nd⟩
 have lt:=D.lt
 have hsl:=K.sl
 obtain ⟨fr',h',e,r2,w5,rfl,rfl,Dz,hq2,kp⟩:=wO (t:=.one 5) (src:=.ref (r.length+25)) (cf:=run T (n+5)) (xs:=is.map AV.int)
  (body:=(zJ [(zM (z9 (zn (zH (z6 0) "cutters") (z6 5)) "append" (some .append) [(zK (zI (some (.bi .len))) [(zH (z6 0) "done")])]))]))
  (fun k fr h=>∃ r2 w5,fr=[some (.ref 9),some (.int hd),some (.int i),some (.int j),some (.ref (r.length+25)),w5]∧h=S.s1.hp r2∧Dy S.s1 mvs (yr S.st.length cus (is.take k)) r2∧r2[r.length+2]? = some (AO.list (is.map AV.int))∧Kp S r r2)
  (by
   rintro k fr h ⟨r2,w5,rfl,rfl,_,hq2,_⟩
   show (match r2[r.length+2]? with | some (.list ys)=>some ys[k]? | _=>none)=_
   rw [hq2])
  (by
   rintro k x fr h ⟨r2,w5,rfl,rfl,Dz,hq2,kp⟩ hx
   rw [List.getElem?_map] at hx
   obtain ⟨y,hyk,rfl⟩:=yC hx
   obtain ⟨y0,y1⟩:=hi y (yq hyk)
   have Kz:=K.cut hs (nd.sublist (List.take_sublist k is)) (fun z hz=>hi z (List.mem_of_mem_take hz))
   obtain ⟨f,ps,ds,v,km,kc,e1,e2,e3,e4,e5,e6,e7,e8⟩:=Kz.at_ Dz y0 y1
   have hkc:kc<r.length:=lt kc (List.mem_append_right _ (yq (show S.cu[y.toNat]? = some kc from e6)))
   have hds:=Kz.cs ds (yq e3)
   have hds:ds.length≤S.s1.st.length:=hds
   have D3:=Dz.setC (ds:=ds++[(S.st.length:Int)]) e6
   refine ⟨[some (.ref 9),some (.int hd),some (.int i),some (.int j),some (.ref (r.length+25)),some (.int y)],_,_,rfl,?_,r2.set kc (.list ((ds++[(S.st.length:Int)]).map AV.int)),some (.int y),rfl,rfl,?_,?_,?_⟩
   ·refine (z7 (fr1:=[some (.ref 9),some (.int hd),some (.int i),some (.int j),some (.ref (r.length+25)),some (.int y)]) (h1:=S.s1.hp (r2.set kc (.list ((ds++[(S.st.length:Int)]).map AV.int)))) (zZ (v:=.none) (jM (a:=kc+23) (ya (zR (z5 rfl) rfl kS8) (z5 rfl) (qX (xs:=S.cu.map rf) rfl y0 (by lia) (by rw [List.getElem?_map,show S.cu[y.toNat]? = some kc from e6];rfl))) e8 (ev1 (q8 (a:=20) rfl rfl kS9 rfl hst.symm) ev0) ?_))).trans zL
    rw [xD,show (S.s1.hp r2)[kc+23]? = some (.list (ds.map AV.int)) from e8]
    show (if (ds.map AV.int).length<small then _ else _)=_
    rw [if_pos (by rw [List.length_map];exact Nat.lt_of_le_of_lt hds (Nat.lt_trans hs (by decide))),xt]
    rfl
   ·rw [List.take_succ,hyk]
    show Dy S.s1 mvs (yr S.st.length cus (is.take k++[y])) _
    rw [WJ,e3]
    exact D3
   ·rw [List.getElem?_set_ne (by lia)];exact hq2
   ·intro q o h1 h2 h3
    rw [List.getElem?_set_ne (fun (e:kc=q)=>h2 (e▸yq (show S.cu[y.toNat]? = some kc from e6)))]
    exact kp q o h1 h2 h3)
  (fr:=[some (.ref 9),some (.int hd),some (.int i),some (.int j),some (.ref (r.length+25)),none]) (h:=S.s1.hp r1) ⟨r1,none,rfl,rfl,D1,hq,fun q o _ _ h=>by rw [← hr1];exact zB h⟩
 rw [List.length_map] at e Dz
 rw [List.take_length] at Dz
 obtain ⟨g2,en⟩:=Wh X (n:=n) (hd:=.int hd) (wd:=.str "cut") (q:=r.length+2) (is:=is) (K.cut hs nd hi) Dz hq2 hi (by show S.dn.length<200;rw [← hst];exact hs0)
 have Dg:=Dz.grow g2
 refine ⟨r2++g2,.tup [.int hd,.str "cut",.ref (r.length+25)],?_,Dg,fun q o h1 h2 h3=>zB (kp q o h1 h2 h3),r.length+2,Nat.le_add_right _ _,rfl,zB hq2⟩
 rw [zG X.kBw]
 refine zO (fr:=[some (.ref 9),some (.int hd),some (.int i),some (.int j),none,none]) rfl rfl (fr':=[some (.ref 9),some (.int hd),some (.int i),some (.int j),some (.ref (r.length+25)),w5]) ?_
 unfold kBw
 dsimp only
 rw [z7 (zZ (zC (a:=9) (z5 rfl) rfl ze (ev1 (z5 rfl) ev0) (yP X (n:=n+3) d0 d1)))]
 rw [z7 (zZ (zC (a:=9) (z5 rfl) rfl yG (ev1 (z5 rfl) (ev1 (z5 rfl) ev0)) (xP X (n:=n+1) h0 h1 p2)))]
 rw [z7 (zd (j:=4) ec (zU rfl))]
 show zJ _ _ [some (.ref 9),some (.int hd),some (.int i),some (.int j),some (.ref (r.length+25)),none] (S.hp r1)=_
 rw [z7 (WT X (n:=n+5) rfl hs0)]
 have es:yw (S.s1.hp r1) (.ref (r.length+25))=some (.ref (r.length+25),is.length):=by
  show (match r1[r.length+2]? with | some (.list xs)=>some (Src.ref (r.length+25),xs.length) | _=>none)=_
  rw [hq]
  show some (_,(is.map AV.int).length)=_
  rw [List.length_map]
 have ef:=wj (en:=false) (x:=z6 4) (fr:=[some (.ref 9),some (.int hd),some (.int i),some (.int j),some (.ref (r.length+25)),none]) (z5 rfl) es e
 rw [z7 ef]
 exact zP (zo (zC (a:=9) (z5 rfl) rfl YO (ev1 (z5 rfl) (ev1 rfl (ev1 (z5 rfl) ev0))) en))
end
noncomputable def Sh.mov (S:Sh) (i:Nat) (is:List Int):Sh:={ S with l:=S.l.take i++zg S.b.length is.length++S.l.drop i,b:=S.b++List.replicate is.length false,ow:=S.ow++is }
theorem Sh.mov_nil (S:Sh) (i:Nat):S.mov i []=S:=by
 obtain ⟨g0,g2,hands,l,b,ow,le,fi,mv,br,cu,dn,st⟩:=S
 simp [Sh.mov,zg]
theorem At.nextM {S:Sh} {i:Nat} {is:List Int} {y:Int} (hi:i≤S.l.length) (hlt:∀ x∈S.l,x<S.b.length):At (S.mov i (is++[y])).l (S.mov i (is++[y])).b (.int ((S.b.length+is.length:Nat):Int)) (i+(is.length+1)):=by
 have e1:(is++[y]).length=is.length+1:=zX
 show At (S.l.take i++zg S.b.length (is++[y]).length++S.l.drop i) (S.b++List.replicate (is++[y]).length false) _ _
 rw [e1]
 exact Jj hi hlt (by rw [zX,List.length_replicate])
theorem z1x {α:Type} (k:Nat) (x:α):List.replicate k x++[x]=List.replicate (k+1) x:=List.replicate_succ'.symm
theorem Sg.mov {S:Sh} {mvs:List (List (Int×Int))} {cus:List (List Int)} (K:Sg S mvs cus) (hs:S.s1.st.length<200) {is:List Int} {i:Nat} (nd:is.Nodup) (hi:∀ i∈is,0≤i∧i<S.le.length) (hb:S.b.length+is.length<200):Sg (S.s1.mov i is) (yH S.st.length mvs S.b.length is) cus:=by
 have K1:=K.st1 hs
 have lb:(S.s1.mov i is).b.length=S.b.length+is.length:=by show (S.b++List.replicate is.length false).length=_;rw [zX,List.length_replicate]
 have at_:∀ ds∈yH S.st.length mvs S.b.length is,∃ es∈mvs,ds=es∨∃ k,k<is.length∧ds=es++[((S.st.length:Int),((S.b.length+k:Nat):Int))]:=fun ds hd=>by
  obtain ⟨j,hj,rfl⟩:=List.getElem_of_mem hd
  have e:=yO hj
  obtain ⟨m1,m2⟩:=X6 (d:=S.st.length) (j:=(j:Int)) (by lia) (mvs:=mvs) (n:=S.b.length) nd (fun i h=>by rw [K.mv];exact hi i h)
  rw [Int.toNat_natCast,e] at m1 m2
  have hj2:j<mvs.length:=by rw [← YF S.st.length is mvs S.b.length];exact hj
  rw [yO hj2] at m1 m2
  by_cases h:(j:Int)∈is
  ·obtain ⟨k,hk,hk2⟩:=List.getElem_of_mem h
   exact ⟨_,List.getElem_mem hj2,.inr ⟨k,hk,Option.some.inj (m2 k (by rw [yO hk,hk2]))⟩⟩
  ·exact ⟨_,List.getElem_mem hj2,.inl (Option.some.inj (m1 h))⟩
 refine ⟨K.fi,K.br,by rw [YF];exact K.mv,K.cu,fun x hx=>by rw [lb];exact ⟨(K.fr x hx).1,QG _ (K.fr x hx).2⟩,fun ps hp p h=>?_,K1.dr,K1.bn,fun ds hd=>?_,K1.cs,K.sl,hs,by rw [lb];exact hb⟩
 ·rw [lb]
  obtain ⟨es,he,q | ⟨k,hk,q⟩⟩:=at_ ps hp
  ·rw [q] at h;obtain ⟨a,c,d⟩:=K1.mr es he p h;exact ⟨a,c,QG _ d⟩
  ·rw [q] at h
   rcases wc h with h | h
   ·obtain ⟨a,c,d⟩:=K1.mr es he p h;exact ⟨a,c,QG _ d⟩
   ·rw [qV h]
    exact ⟨⟨Int.natCast_nonneg _,ZP⟩,Int.natCast_nonneg _,Int.ofNat_lt.mpr (Nat.add_lt_add_left hk _)⟩
 ·obtain ⟨es,he,q | ⟨k,hk,q⟩⟩:=at_ ds hd
  ·rw [q];exact K1.ps es he
  ·rw [q,zX];show _≤S.s1.st.length;rw [Xk];exact Nat.succ_le_succ (K.ps es he)
section
variable {T:Tab} {okf:Str→Str→Bool} (X:TT T okf) {n:Nat} {S:Sh} {r:Hp} {mvs:List (List (Int×Int))} {cus:List (List Int)}
include X
theorem zJ2 (O:Ok1 S) (K:Sg S mvs cus) (D:Dy S mvs cus r) (hst:S.st.length=S.dn.length) (ndS:S.sh.Nodup) {hd i j p:Int} (d0:0≤hd) (d1:hd<S.hands) (h0:0≤i) (h1:i<j) (h2:j≤(tk S.b S.l).length) (p0:0≤p) (p1:p≤(tk S.b S.l).length) (hp:¬ (i<p∧p<j)) (hs:S.s1.st.length<200) (hb:S.b.length+10<200) (h5:j≤i+5) :
  ∃ r' x at_,tk S.b (S.l.take at_)=(tk S.b S.l).take p.toNat∧tk S.b (S.l.drop at_)=(tk S.b S.l).drop p.toNat∧at_≤S.l.length ∧
   run T (n+6) (.meth "Sheet" "move") [.ref 9,.int hd,.int i,.int j,.int p] (S.hp r)=.ok (.int S.dn.length) (({ S.s1.mov at_ ((S.sh.take j.toNat).drop i.toNat) with b:=yo S.s1 (yH S.st.length mvs S.b.length ((S.sh.take j.toNat).drop i.toNat)) cus (S.s1.mov at_ ((S.sh.take j.toNat).drop i.toNat)).b ((S.sh.take j.toNat).drop i.toNat),dn:=S.dn++[x] }:Sh).hp r') ∧
   Dy S.s1 (yH S.st.length mvs S.b.length ((S.sh.take j.toNat).drop i.toNat)) cus r'∧Kp S r r'∧∃ q':Nat,r.length≤q'∧x=.tup [.int hd,.str "move",.ref (q'+23)]∧r'[q']? = some (.list (((S.sh.take j.toNat).drop i.toNat).map AV.int)):=by
 have hs0:S.st.length<200:=Nat.lt_trans (Int.ofNat_lt.mp ZP) hs
 have p2:j≤S.b.countP id:=by rw [← O.G.count];exact h2
 have p3:p≤S.b.countP id:=by rw [← O.G.count];exact p1
 have lis:((S.sh.take j.toNat).drop i.toNat).length≤5:=by rw [List.length_drop,List.length_take];exact zGj h0 h1 h5
 generalize his:(S.sh.take j.toNat).drop i.toNat=is at lis
 have hi:∀ x∈is,0≤x∧x<S.le.length:=by rw [← his];exact jv O
 have nd:is.Nodup:=by rw [← his];exact (ndS.sublist (List.take_sublist _ _)).sublist (List.drop_sublist _ _)
 have ec:=QS X (s:=0) (n:=n+1) (r:=r) O h0 h1 h2 (fr:=[some (.ref 9),some (.int hd),some (.int i),some (.int j),some (.int p),none,none,none]) (a:=2) (c:=3) rfl rfl rfl
 rw [his] at ec
 generalize hr1:r++[.list (S.l.map AV.int),.list (S.sh.map AV.int),.list (is.map AV.int)]=r1 at ec
 have hq:r1[r.length+2]? = some (AO.list (is.map AV.int)):=by rw [← hr1,zD];rfl
 have D1:Dy S.s1 mvs cus r1:=by rw [← hr1];have:=D.grow [.list (S.l.map AV.int),.list (S.sh.map AV.int),.list (is.map AV.int)];exact ⟨this.ml,this.cl,this.m,this.c,this.nd⟩
 obtain ⟨g,bh,at_,ea,hA,t1,t2⟩:=z3x X (n:=n+1) (S:=S) (r:=r1) O.G p0 p1
 have lt:=D.lt
 have hsl:=K.sl
 have hle:=O.G.len
 have hsm:=O.G.sm
 have haL:=hA.le
 have sm2:∀ {k:Nat},k<200→k<small:=fun h=>Nat.lt_trans h (by decide)
 obtain ⟨fr',h',e,r2,w6,w7,rfl,rfl,Dz,hq2,_,kp⟩:=wO (t:=.one 7) (src:=.ref (r.length+25)) (cf:=run T (n+5)) (xs:=is.map AV.int)
  (body:=(zJ [(zA okf (.names (.one 6)) (z9 (zH (z6 0) "row") "add" none [(z6 6)])),(zM (z9 (zH (z6 0) "owners") "append" (some .append) [(z6 7)])),(zM (z9 (zn (zH (z6 0) "moved") (z6 7)) "append" (some .append) [(xG [(zK (zI (some (.bi .len))) [(zH (z6 0) "done")]),(z6 6)])]))]))
  (fun k fr h=>∃ r2 w6 w7,fr=[some (.ref 9),some (.int hd),some (.int i),some (.int j),some (.int p),some (.ref (r.length+25)),some w6,w7]∧h=(S.s1.mov at_ (is.take k)).hp r2∧Dy S.s1 (yH S.st.length mvs S.b.length (is.take k)) cus r2∧r2[r.length+2]? = some (AO.list (is.map AV.int))∧At (S.s1.mov at_ (is.take k)).l (S.s1.mov at_ (is.take k)).b w6 (at_+k)∧Kp S r r2)
  (by
   rintro k fr h ⟨r2,w6,w7,rfl,rfl,_,hq2,_,_⟩
   show (match r2[r.length+2]? with | some (.list ys)=>some ys[k]? | _=>none)=_
   rw [hq2])
  (by
   rintro k x fr h ⟨r2,w6,w7,rfl,rfl,Dz,hq2,hAk,kp⟩ hx
   rw [List.getElem?_map] at hx
   obtain ⟨y,hyk,rfl⟩:=yC hx
   obtain ⟨y0,y1⟩:=hi y (yq hyk)
   have hk:k<is.length:=(yj hyk).1
   have lk:(is.take k).length=k:=by rw [List.length_take];exact Nat.min_eq_left (Nat.le_of_lt hk)
   have hbk:S.b.length+k<200:=WP hb (Nat.le_trans (Nat.le_of_lt hk) (Nat.le_trans lis (by decide)))
   have Kz:=K.mov (i:=at_) hs (nd.sublist (List.take_sublist k is)) (fun z hz=>hi z (List.mem_of_mem_take hz)) (by rw [lk];exact hbk)
   have Dz':Dy (S.s1.mov at_ (is.take k)) (yH S.st.length mvs S.b.length (is.take k)) cus r2:=⟨Dz.ml,Dz.cl,Dz.m,Dz.c,Dz.nd⟩
   obtain ⟨f,ps,ds,v,km,kc,e1,e2,e3,e4,e5,e6,e7,e8⟩:=Kz.at_ Dz' y0 y1
   have hkm:km<r.length:=lt km (List.mem_append_left _ (yq (show S.mv[y.toNat]? = some km from e5)))
   have hps:ps.length≤S.s1.st.length:=Kz.ps ps (yq e2)
   have lb:(S.s1.mov at_ (is.take k)).b.length=S.b.length+k:=by show (S.b++List.replicate (is.take k).length false).length=_;rw [zX,List.length_replicate,lk]
   have ll:(S.s1.mov at_ (is.take k)).l.length=S.l.length+k:=by
    show (S.l.take at_++zg S.b.length (is.take k).length++S.l.drop at_).length=_
    rw [zX,zX,yp,lk,List.length_take,List.length_drop,Nat.min_eq_left haL,Nat.add_right_comm,Nat.add_sub_cancel' haL]
   have lo:(S.ow++is.take k).length=S.b.length+k:=by rw [zX,lk,O.ow]
   have D3:=Dz.setM (ps:=ps++[((S.st.length:Int),((S.b.length+k:Nat):Int))]) (show S.s1.mv[y.toNat]? = some km from e5)
   have e1k:is.take (k+1)=is.take k++[y]:=by rw [List.take_succ,hyk];rfl
   have eadd:=z40 X (n:=n+2) (o0:=(S.s1.mov at_ (is.take k)).g0) (o1:=.inst "Sheet" (fS (S.s1.mov at_ (is.take k)).hands)) (o2:=(S.s1.mov at_ (is.take k)).g2) (r:=(S.s1.mov at_ (is.take k)).tl r2) hAk (by rw [ll,hle];exact sm2 hbk) (by rw [lb];exact sm2 hbk)
   have eL:qn (S.s1.mov at_ (is.take k)).l (at_+k) ((S.b.length+k:Nat):Int)=(S.s1.mov at_ (is.take (k+1))).l:=by
    show qn (S.l.take at_++zg S.b.length (is.take k).length++S.l.drop at_) _ _=S.l.take at_++zg S.b.length (is.take (k+1)).length++S.l.drop at_
    rw [W8 (by rw [List.length_take,yp,lk,Nat.min_eq_left haL]),e1k,zX,lk]
    show _=S.l.take at_++zg S.b.length (k+1)++S.l.drop at_
    rw [wA]
   have eB:(S.s1.mov at_ (is.take k)).b++[false]=(S.s1.mov at_ (is.take (k+1))).b:=by
    show S.b++List.replicate (is.take k).length false++[false]=S.b++List.replicate (is.take (k+1)).length false
    rw [e1k,zX,List.append_assoc,z1x];rfl
   rw [lb,eL,eB] at eadd
   let S2:Sh:={ S.s1.mov at_ (is.take k) with l:=(S.s1.mov at_ (is.take (k+1))).l,b:=(S.s1.mov at_ (is.take (k+1))).b }
   have eO:(S.ow++is.take k).map AV.int++[AV.int y]=(S.s1.mov at_ (is.take (k+1))).ow.map AV.int:=by
    show _=(S.ow++is.take (k+1)).map AV.int
    rw [xt,e1k,List.append_assoc]
   have eS:{ S2 with ow:=(S.s1.mov at_ (is.take (k+1))).ow }=S.s1.mov at_ (is.take (k+1)):=rfl
   refine ⟨[some (.ref 9),some (.int hd),some (.int i),some (.int j),some (.int p),some (.ref (r.length+25)),some w6,some (.int y)],[some (.ref 9),some (.int hd),some (.int i),some (.int j),some (.int p),some (.ref (r.length+25)),some (.int ((S.b.length+k:Nat):Int)),some (.int y)],(S.s1.mov at_ (is.take (k+1))).hp (r2.set km (.list ((ps++[((S.st.length:Int),((S.b.length+k:Nat):Int))]).map pr))),rfl,?_,r2.set km (.list ((ps++[((S.st.length:Int),((S.b.length+k:Nat):Int))]).map pr)),_,_,rfl,rfl,?_,?_,?_,?_⟩
   ·rw [z7 (zd (j:=6) (zC (a:=11) (zR (z5 rfl) rfl kS2) rfl z2m (ev1 (z5 rfl) ev0) eadd) (zU rfl))]
    show zJ _ _ [some (.ref 9),some (.int hd),some (.int i),some (.int j),some (.int p),some (.ref (r.length+25)),some (.int ((S.b.length+k:Nat):Int)),some (.int y)] (S2.hp r2)=_
    rw [z7 (jn (a:=14) (zs:=(S.s1.mov at_ (is.take (k+1))).ow.map AV.int) rfl rfl kS3 rfl (z5 rfl) rfl (by rw [List.length_map];show (S.ow++is.take k).length<small;rw [lo];exact sm2 hbk) eO)]
    show zJ _ _ _ ((S.s1.mov at_ (is.take (k+1))).hp r2)=_
    refine (z7 (zZ (v:=.none) (jM (a:=km+23) (ya (zR (z5 rfl) rfl kS6) (z5 rfl) (qX (xs:=S.mv.map rf) rfl y0 (by lia) (by rw [List.getElem?_map,show S.mv[y.toNat]? = some km from e5];rfl))) e7 (ev1 (xi (ev1 (q8 (a:=20) rfl rfl kS9 rfl hst.symm) (ev1 (z5 rfl) ev0))) ev0) ?_))).trans zL
    rw [xD,show ((S.s1.mov at_ (is.take (k+1))).hp r2)[km+23]? = some (.list (ps.map pr)) from e7]
    show (if (ps.map pr).length<small then _ else _)=_
    rw [if_pos (by rw [List.length_map];exact Nat.lt_of_le_of_lt hps (sm2 hs)),show (AV.tup [.int (S.st.length:Nat),.int ((S.b.length+k:Nat):Int)])=pr ((S.st.length:Int),((S.b.length+k:Nat):Int)) from rfl,xt]
    rfl
   ·rw [e1k,Qo,e2,lk]
    exact D3
   ·rw [List.getElem?_set_ne (Nat.ne_of_lt (Nat.lt_of_lt_of_le hkm (Nat.le_add_right _ _)))];exact hq2
   ·rw [e1k]
    have:=At.nextM (S:=S.s1) (i:=at_) (is:=is.take k) (y:=y) haL (fun x hx=>(O.G.rng x hx).2)
    rw [lk] at this
    exact this
   ·intro q o h1 h2 h3
    rw [List.getElem?_set_ne (fun (e:km=q)=>h1 (e▸yq (show S.mv[y.toNat]? = some km from e5)))]
    exact kp q o h1 h2 h3)
  (fr:=[some (.ref 9),some (.int hd),some (.int i),some (.int j),some (.int p),some (.ref (r.length+25)),some bh,none]) (h:=S.s1.hp (r1++g)) ⟨r1++g,bh,none,rfl,by rw [List.take_zero,Sh.mov_nil],by rw [List.take_zero];exact D1.grow g,zB hq,by rw [List.take_zero,Sh.mov_nil];exact hA,fun q o _ _ h=>by rw [← hr1];exact zB (zB h)⟩
 rw [List.length_map] at e Dz
 rw [List.take_length] at e Dz
 have Dz':Dy (S.s1.mov at_ is) (yH S.st.length mvs S.b.length is) cus r2:=⟨Dz.ml,Dz.cl,Dz.m,Dz.c,Dz.nd⟩
 obtain ⟨g2,en⟩:=Wh X (n:=n) (hd:=.int hd) (wd:=.str "move") (q:=r.length+2) (is:=is) (K.mov (i:=at_) hs nd hi (WP hb (Nat.le_trans lis (by decide)))) Dz' hq2 hi (by show S.dn.length<200;rw [← hst];exact hs0)
 refine ⟨r2++g2,.tup [.int hd,.str "move",.ref (r.length+25)],at_,t1,t2,haL,?_,Dz.grow g2,fun q o h1 h2 h3=>zB (kp q o h1 h2 h3),r.length+2,Nat.le_add_right _ _,rfl,zB hq2⟩
 rw [zG X.kBq]
 refine zO (fr:=[some (.ref 9),some (.int hd),some (.int i),some (.int j),some (.int p),none,none,none]) rfl rfl (fr':=[some (.ref 9),some (.int hd),some (.int i),some (.int j),some (.int p),some (.ref (r.length+25)),some w6,w7]) ?_
 unfold kBq
 dsimp only
 rw [z7 (zZ (zC (a:=9) (z5 rfl) rfl ze (ev1 (z5 rfl) ev0) (yP X (n:=n+3) d0 d1)))]
 rw [z7 (zZ (zC (a:=9) (z5 rfl) rfl yG (ev1 (z5 rfl) (ev1 (z5 rfl) ev0)) (xP X (n:=n+1) h0 h1 p2)))]
 rw [z7 (zZ (zC (a:=9) (z5 rfl) rfl zu (ev1 (z5 rfl) ev0) (yf X (n:=n+2) p0 p3)))]
 have et:zj (z6 2) [.Lt,.Lt] [(z6 4),(z6 3)] (run T (n+5)) [some (.ref 9),some (.int hd),some (.int i),some (.int j),some (.int p),none,none,none] (S.hp r)=.ok false (S.hp r):=by
  by_cases hip:i<p
  ·exact yi (z5 rfl) (z5 rfl) (by rw [yS,decide_eq_true hip]) (z5 rfl) (by rw [yS,decide_eq_false fun q=>hp ⟨hip,q⟩])
  ·exact Xo (z5 rfl) (z5 rfl) (by rw [yS,decide_eq_false hip])
 rw [z7 ((zN et).trans zL)]
 rw [z7 (zd (j:=5) ec (zU rfl))]
 rw [z7 (zd (j:=6) (zC (a:=9) (z5 rfl) rfl jN (ev1 (z5 rfl) ev0) ea) (zU rfl))]
 show zJ _ _ [some (.ref 9),some (.int hd),some (.int i),some (.int j),some (.int p),some (.ref (r.length+25)),some bh,none] (S.hp (r1++g))=_
 rw [z7 (WT X (n:=n+5) rfl (hs0))]
 have es:yw (S.s1.hp (r1++g)) (.ref (r.length+25))=some (.ref (r.length+25),is.length):=by
  show (match (r1++g)[r.length+2]? with | some (.list xs)=>some (Src.ref (r.length+25),xs.length) | _=>none)=_
  rw [zB hq]
  show some (_,(is.map AV.int).length)=_
  rw [List.length_map]
 have ef:=wj (en:=false) (x:=z6 5) (fr:=[some (.ref 9),some (.int hd),some (.int i),some (.int j),some (.int p),some (.ref (r.length+25)),some bh,none]) (z5 rfl) es e
 rw [z7 ef]
 exact zP (zo (zC (a:=9) (z5 rfl) rfl YO (ev1 (z5 rfl) (ev1 rfl (ev1 (z5 rfl) ev0))) en))
end
theorem Wv {b:List Bool} {x y:Int} {v:Bool} (hx:0≤x) (hy:0≤y) (hl:y<b.length):fl (b.set y.toNat v) x=if x=y then v else fl b x:=by
 unfold fl
 by_cases h:x=y
 ·subst h
  rw [if_pos rfl,List.getElem?_set_self (by lia)];rfl
 ·rw [if_neg h,List.getElem?_set_ne (fun e=>h (Xr hx hy e.symm))]
theorem zHh {x:Int} (hx:0≤x) {xs:List Int}:∀ {b:List Bool},(∀ y∈xs,0≤y∧y<b.length)→fl (wn b xs) x=if x∈xs then false else fl b x:=by
 induction xs with
 | nil=>intro b _;rw [if_neg List.not_mem_nil];rfl
 | cons y xs ih =>
  intro b hr
  obtain ⟨y0,y1⟩:=hr y (.head _)
  show fl (wn (b.set y.toNat false) xs) x=_
  rw [ih fun z hz=>by rw [List.length_set];exact hr z (.tail _ hz),Wv hx y0 y1]
  by_cases h1:x∈xs
  ·rw [if_pos h1,if_pos (.tail _ h1)]
  ·rw [if_neg h1]
   by_cases h2:x=y
   ·rw [if_pos h2,if_pos (h2▸.head _)]
   ·rw [if_neg h2,if_neg fun q=>by
     rcases List.mem_cons.mp q with q | q
     ·exact h2 q
     ·exact h1 q]
noncomputable def gI (l:List Int) (x:Int):Int:=l[x.toNat]?.getD 0
noncomputable def gM (l:List (List (Int×Int))) (x:Int):List (Int×Int):=l[x.toNat]?.getD []
noncomputable def inS (fi:List Int) (mvs:List (List (Int×Int))) (x i:Int):Prop:=x=gI fi i∨∃ p∈gM mvs i,p.2=x
noncomputable def gC (l:List (List Int)) (x:Int):List Int:=l[x.toNat]?.getD []
theorem zHl {S:Sh} {mvs:List (List (Int×Int))} {i:Int}:inS S.fi mvs (S.cur mvs i) i:=(YT (st:=S.st) (gM mvs i) (gI S.fi i)).imp id fun ⟨p,hp,h⟩=>⟨p,hp,h.symm⟩
noncomputable def Sh.tgt (S:Sh) (mvs:List (List (Int×Int))) (cus:List (List Int)) (x:Int):Bool:=S.shw cus (gI S.ow x) && decide (x=S.cur mvs (gI S.ow x))
structure Own (S:Sh) (mvs:List (List (Int×Int))):Prop where
 seats:∀ (x:Int),0≤x→x<S.b.length→inS S.fi mvs x (gI S.ow x)
 back:∀ (i:Int),0≤i→i<S.le.length→∀ (x:Int),inS S.fi mvs x i→gI S.ow x=i∧0≤x∧x<S.b.length
theorem z1s {S:Sh} {mvs:List (List (Int×Int))} (W:Own S mvs) {cus:List (List Int)} {b:List Bool} (hb:b.length=S.b.length) {x i:Int} (x0:0≤x) (x1:x<S.b.length) (i0:0≤i) (i1:i<S.le.length) :
  fl (ZQ S mvs cus b i) x=if gI S.ow x=i then S.tgt mvs cus x else fl b x:=by
 have f:=W.back i i0 i1 _ (.inl rfl)
 have c:=W.back i i0 i1 _ zHl
 have hb1:(b.set (gI S.fi i).toNat false).length=S.b.length:=List.length_set.trans hb
 have off:fl (wn (b.set (gI S.fi i).toNat false) ((gM mvs i).map (·.2))) x=if gI S.ow x=i then false else fl b x:=by
  rw [zHh x0 (fun y hy=>by
   obtain ⟨p,hp,rfl⟩:=List.mem_map.mp hy
   rw [hb1];exact (W.back i i0 i1 _ (.inr ⟨p,hp,rfl⟩)).2),Wv x0 f.2.1 (by rw [hb];exact f.2.2)]
  by_cases h:gI S.ow x=i
  ·rw [if_pos h]
   rcases h▸W.seats x x0 x1 with q | ⟨p,hp,q⟩
   ·rw [if_pos q]
    split <;> rfl
   ·rw [if_pos (List.mem_map.mpr ⟨p,hp,q⟩)]
  ·rw [if_neg h,if_neg fun q=>by
    obtain ⟨p,hp,q⟩:=List.mem_map.mp q
    exact h (W.back i i0 i1 x (.inr ⟨p,hp,q⟩)).1,if_neg fun q=>h (W.back i i0 i1 x (.inl q)).1]
 have e:ZQ S mvs cus b i=bif S.shw cus i then (wn (b.set (gI S.fi i).toNat false) ((gM mvs i).map (·.2))).set (S.cur mvs i).toNat true else wn (b.set (gI S.fi i).toNat false) ((gM mvs i).map (·.2)):=rfl
 rw [e]
 unfold Sh.tgt
 cases hc:S.shw cus i with
 | true =>
  show fl (List.set _ _ _) x=_
  rw [Wv x0 c.2.1 (by rw [wm,hb1];exact c.2.2),off]
  by_cases h:gI S.ow x=i
  ·rw [if_pos h,if_pos h,h,hc,Bool.true_and]
   by_cases q:x=S.cur mvs i
   ·rw [if_pos q,decide_eq_true q]
   ·rw [if_neg q,decide_eq_false q]
  ·rw [if_neg h,if_neg h,if_neg (fun (q:x=S.cur mvs i)=>h (by rw [q];exact c.1))]
 | false =>
  show fl (wn _ _) x=_
  rw [off]
  by_cases h:gI S.ow x=i
  ·rw [if_pos h,if_pos h,h,hc,Bool.false_and]
  ·rw [if_neg h,if_neg h]
theorem z1r {S:Sh} {mvs:List (List (Int×Int))} (W:Own S mvs) {cus:List (List Int)} {x:Int} (x0:0≤x) (x1:x<S.b.length) {is:List Int}:∀ {b:List Bool},b.length=S.b.length→(∀ i∈is,0≤i∧i<S.le.length) →
  fl (yo S mvs cus b is) x=if gI S.ow x∈is then S.tgt mvs cus x else fl b x:=by
 induction is with
 | nil=>intro b _ _;rw [if_neg List.not_mem_nil];rfl
 | cons i is ih =>
  intro b hb hi
  obtain ⟨i0,i1⟩:=hi i (.head _)
  show fl (yo S mvs cus (ZQ S mvs cus b i) is) x=_
  rw [ih ((X1 b i).trans hb) fun j hj=>hi j (.tail _ hj),z1s W hb x0 x1 i0 i1]
  by_cases h1:gI S.ow x∈is
  ·rw [if_pos h1,if_pos (.tail _ h1)]
  ·rw [if_neg h1]
   by_cases h2:gI S.ow x=i
   ·rw [if_pos h2,if_pos (h2▸.head _)]
   ·rw [if_neg h2,if_neg fun q=>by
     rcases List.mem_cons.mp q with q | q
     ·exact h2 q
     ·exact h1 q]
structure Iw (S:Sh) (mvs:List (List (Int×Int))) (cus:List (List Int)):Prop where
 O:Ok1 S
 K:Sg S mvs cus
 W:Own S mvs
 st:S.st.length=S.dn.length
structure Iv (S:Sh) (mvs:List (List (Int×Int))) (cus:List (List Int)):Prop where
 I:Iw S mvs cus
 flag:∀ (x:Int),0≤x→x<S.b.length→fl S.b x=S.tgt mvs cus x
section
variable {S:Sh} {mvs:List (List (Int×Int))} {cus:List (List Int)}
theorem Iw.wb (I:Iw S mvs cus) {b:List Bool} (h:b.length=S.b.length):Iw (S.wb b) mvs cus :=
 ⟨⟨⟨by show S.l.Perm ((List.range b.length).map _);rw [h];exact I.O.G.perm,by show b.length<200;rw [h];exact I.O.G.sm⟩,I.O.ow.trans h.symm,I.O.own,I.O.le⟩,I.K.wb h,
  ⟨fun x x0 x1=>I.W.seats x x0 (by rw [← h];exact x1),fun i i0 i1 x hx=>by show _∧0≤x∧x<(b.length:Int);rw [h];exact I.W.back i i0 i1 x hx⟩,I.st⟩
theorem Iw.seat (I:Iw S mvs cus) {is:List Int} (hi:∀ i∈is,0≤i∧i<S.le.length) (hf:∀ x:Int,0≤x→x<S.b.length→gI S.ow x∉is→fl S.b x=S.tgt mvs cus x):Iv (S.wb (yo S mvs cus S.b is)) mvs cus:=by
 have hl:(yo S mvs cus S.b is).length=S.b.length:=qO _ _
 refine ⟨I.wb hl,fun x x0 x1=>?_⟩
 have x1:x<S.b.length:=by rw [← hl];exact x1
 refine (z1r I.W x0 x1 rfl hi).trans ?_
 by_cases h:gI S.ow x∈is
 ·rw [if_pos h];rfl
 ·rw [if_neg h];exact hf x x0 x1 h
variable (V:Iv S mvs cus)
include V
theorem Iv.tk_mem {x:Int} (h:x∈tk S.b S.l):(0≤x∧x<S.b.length)∧S.shw cus (gI S.ow x)=true∧x=S.cur mvs (gI S.ow x):=by
 obtain ⟨h1,h2⟩:=List.mem_filter.mp h
 obtain ⟨x0,x1⟩:=V.I.O.G.rng x h1
 rw [V.flag x x0 x1] at h2
 obtain ⟨a,c⟩:=Bool.and_eq_true_iff.mp h2
 exact ⟨⟨x0,x1⟩,a,of_decide_eq_true c⟩
theorem Iv.sh_nodup:S.sh.Nodup:=by
 show ((tk S.b S.l).map fun x=>gI S.ow x).Nodup
 have nd:(tk S.b S.l).Nodup:=V.I.O.G.nodup.filter _
 rw [List.nodup_iff_pairwise_ne,List.pairwise_map]
 refine List.Pairwise.imp_of_mem (fun {x y} hx hy hne e=>hne ?_) (List.nodup_iff_pairwise_ne.mp nd)
 have a:=(V.tk_mem hx).2.2
 have c:=(V.tk_mem hy).2.2
 rw [a,c,e]
end
section
variable {S:Sh} {mvs:List (List (Int×Int))} {cus:List (List Int)}
theorem Iw.own_at (I:Iw S mvs cus) {x:Int} (x0:0≤x) (x1:x<S.b.length):0≤gI S.ow x∧gI S.ow x<S.le.length:=by
 have h2:x.toNat<S.ow.length:=by rw [I.O.ow];exact qb x0 x1
 unfold gI
 rw [yO h2]
 exact I.O.own _ (List.getElem_mem h2)
theorem Xy {st st':List Bool} {ps:List (Int×Int)}:∀ {f:Int},(∀ p∈ps,fl st p.1=fl st' p.1)→yR st f ps=yR st' f ps:=by
 induction ps with
 | nil=>intro f _;rfl
 | cons p ps ih =>
  intro f h
  show yR st (if fl st p.1 then p.2 else f) ps=yR st' (if fl st' p.1 then p.2 else f) ps
  rw [h p (.head _)]
  exact ih fun q hq=>h q (.tail _ hq)
theorem j4 {S':Sh} {mvs':List (List (Int×Int))} {cus':List (List Int)} {x i:Int} (e0:gI S.ow x=i) (e1:gI S'.ow x=i) (ef:gI S'.fi i=gI S.fi i) (em:gM mvs' i=gM mvs i) (ec:gC cus' i=gC cus i) (eb:S'.br[i.toNat]? = S.br[i.toNat]?)
  (hc:∀ d∈gC cus i,fl S.st d=fl S'.st d) (hm:∀ p∈gM mvs i,fl S.st p.1=fl S'.st p.1) (hb:∀ d,S.br[i.toNat]? = some (.int d)→fl S.st d=fl S'.st d):S.tgt mvs cus x=S'.tgt mvs' cus' x:=by
 have c1:S.cur mvs i=S'.cur mvs' i:=by
  show yR S.st (gI S.fi i) (gM mvs i)=yR S'.st (gI S'.fi i) (gM mvs' i)
  rw [ef,em];exact Xy hm
 have c2:S.shw cus i=S'.shw cus' i:=by
  show (QB S.st (S.br[i.toNat]?.getD .none) && !(gC cus i).any (fl S.st))=(QB S'.st (S'.br[i.toNat]?.getD .none) && !(gC cus' i).any (fl S'.st))
  have a1:(gC cus i).any (fl S.st)=(gC cus i).any (fl S'.st):=by
   rw [Bool.eq_iff_iff,List.any_eq_true,List.any_eq_true]
   exact ⟨fun ⟨d,h,e⟩=>⟨d,h,by rw [← hc d h];exact e⟩,fun ⟨d,h,e⟩=>⟨d,h,by rw [hc d h];exact e⟩⟩
  rw [ec,eb,a1]
  congr 1
  cases h:S.br[i.toNat]? with
  | none=>rfl
  | some v =>
   cases v with
   | int d=>exact hb d h
   | _=>rfl
 unfold Sh.tgt
 rw [e0,e1,c1,c2]
theorem Q4 {st:List Bool} {d:Int} (h0:0≤d) (h1:d<st.length):fl st d=fl (st++[true]) d:=by
 unfold fl;rw [List.getElem?_append_left (qb h0 h1)]
end
theorem wB {a k j:Nat} (h:j<k):(zg a k)[j]? = some ((a+j:Nat):Int):=by
 unfold zg
 rw [List.getElem?_map,List.getElem?_range h];rfl
theorem xS {l m:List Int} {x:Int} (h0:0≤x) (h1:x<l.length):gI (l++m) x=gI l x:=by
 unfold gI;rw [List.getElem?_append_left (qb h0 h1)]
theorem xx {l m:List Int} {x v:Int} {j:Nat} (h0:x=((l.length+j:Nat):Int)) (h1:m[j]? = some v):gI (l++m) x=v:=by
 unfold gI
 rw [h0,Int.toNat_natCast,List.getElem?_append_right (Nat.le_add_right _ _),Nat.add_sub_cancel_left,h1];rfl
theorem ZE {mvs:List (List (Int×Int))} {k:Nat} {i:Int}:gM (mvs++List.replicate k []) i=gM mvs i:=by
 unfold gM
 by_cases h:i.toNat<mvs.length
 ·rw [List.getElem?_append_left h]
 ·rw [List.getElem?_append_right (Nat.not_lt.mp h),List.getElem?_eq_none (l:=mvs) (Nat.not_lt.mp h),List.getElem?_replicate]
  split <;> rfl
theorem WC {l:List Int} {b b':List Bool} (G:Good l b) {i k:Nat} (h:b'.length=b.length+k) (hs:b'.length<200):Good (l.take i++zg b.length k++l.drop i) b':=by
 refine ⟨?_,hs⟩
 have e:(List.range b'.length).map (fun (k:Nat)=>(k:Int))=(List.range b.length).map (fun (k:Nat)=>(k:Int))++zg b.length k:=by
  rw [h,List.range_add,List.map_append,List.map_map];rfl
 rw [e]
 have p1:(l.take i++zg b.length k++l.drop i).Perm (l++zg b.length k):=by
  rw [List.append_assoc]
  conv=>rhs;rw [← List.take_append_drop i l,List.append_assoc]
  exact List.Perm.append_left _ List.perm_append_comm
 exact p1.trans (G.perm.append_right _)
theorem Xz {cus:List (List Int)} {k:Nat} {i:Int}:gC (cus++List.replicate k []) i=gC cus i:=by
 unfold gC
 by_cases h:i.toNat<cus.length
 ·rw [List.getElem?_append_left h]
 ·rw [List.getElem?_append_right (Nat.not_lt.mp h),List.getElem?_eq_none (l:=cus) (Nat.not_lt.mp h),List.getElem?_replicate]
  split <;> rfl
theorem zJc {l:List (List Int)} {i d:Int} (h:d∈gC l i):i.toNat<l.length:=by
 unfold gC at h
 cases e:l[i.toNat]? with
 | none=>rw [e] at h;cases h
 | some vs=>exact (yj e).1
theorem zJb {l:List (List (Int×Int))} {i:Int} {p:Int×Int} (h:p∈gM l i):i.toNat<l.length:=by
 unfold gM at h
 cases e:l[i.toNat]? with
 | none=>rw [e] at h;cases h
 | some vs=>exact (yj e).1
noncomputable abbrev Sh.sd (S:Sh) (x:AV):Sh:={ S with st:=S.st++[true],dn:=S.dn++[x] }
theorem Sg.sd {S:Sh} {mvs:List (List (Int×Int))} {cus:List (List Int)} (K:Sg S mvs cus) (h:S.s1.st.length<200) (x:AV):Sg (S.sd x) mvs cus :=
 have K:=K.st1 h
 ⟨K.fi,K.br,K.mv,K.cu,K.fr,K.mr,K.dr,K.bn,K.ps,K.cs,K.sl,K.st,K.sb⟩
section
variable {S:Sh} {mvs:List (List (Int×Int))} {cus:List (List Int)} (I:Iw S mvs cus) {i q:Nat} {x:AV} {d:AV} {cs:List Nat}
include I
theorem Iw.put_own:Own ((S.sd x).adds i d q cs) (mvs++List.replicate cs.length []):=by
 have lb:((S.sd x).adds i d q cs).b.length=S.b.length+cs.length:=by show (S.b++List.replicate cs.length true).length=_;rw [zX,List.length_replicate]
 have ll:((S.sd x).adds i d q cs).le.length=S.le.length+cs.length:=zX
 have hf:=I.K.fi
 have ho:=I.O.ow
 have new:∀ j,j<cs.length→gI (S.ow++zg S.le.length cs.length) ((S.b.length+j:Nat):Int)=((S.le.length+j:Nat):Int)∧gI (S.fi++zg S.b.length cs.length) ((S.le.length+j:Nat):Int)=((S.b.length+j:Nat):Int):=fun j hj =>
  ⟨xx (by rw [ho]) (wB hj),xx (by rw [hf]) (wB hj)⟩
 refine ⟨fun x x0 x1=>?_,fun s s0 s1 x hx=>?_⟩
 ·rw [lb] at x1
  show inS (S.fi++zg S.b.length cs.length) _ x (gI (S.ow++zg S.le.length cs.length) x)
  by_cases h:x<S.b.length
  ·obtain ⟨a,c⟩:=I.own_at x0 h
   rw [xS x0 (by rw [ho];exact h)]
   unfold inS
   rw [xS a (by rw [hf];exact c),ZE]
   exact I.W.seats x x0 h
  ·obtain ⟨e1,e2⟩:=new (x.toNat - S.b.length) (XR x0 x1 h)
   have ex:((S.b.length+(x.toNat - S.b.length):Nat):Int)=x:=XU x0 h
   rw [ex] at e1 e2
   rw [e1]
   exact .inl e2.symm
 ·rw [ll] at s1
  rw [lb]
  show gI (S.ow++zg S.le.length cs.length) x=s∧_
  have hx':x=gI (S.fi++zg S.b.length cs.length) s∨∃ p∈gM (mvs++List.replicate cs.length []) s,p.2=x:=hx
  rw [ZE] at hx'
  by_cases h:s<S.le.length
  ·rw [xS s0 (by rw [hf];exact h)] at hx'
   obtain ⟨a,c,e⟩:=I.W.back s s0 h x hx'
   rw [xS c (by rw [ho];exact e)]
   exact ⟨a,c,QG _ e⟩
  ·obtain ⟨e1,e2⟩:=new (s.toNat - S.le.length) (XR s0 s1 h)
   have es:((S.le.length+(s.toNat - S.le.length):Nat):Int)=s:=XU s0 h
   rw [es] at e1 e2
   rw [e2] at hx'
   have hm:gM mvs s=[]:=by
    unfold gM
    rw [List.getElem?_eq_none (by rw [I.K.mv];lia)];rfl
   rw [hm] at hx'
   rcases hx' with hx' | ⟨p,hp,_⟩
   ·subst hx'
    exact ⟨e1,Int.natCast_nonneg _,Int.ofNat_lt.mpr (Nat.add_lt_add_left (XR s0 s1 h) _)⟩
   ·cases hp
theorem Iw.fls {j:Int}:(∀ d∈gC cus j,fl S.st d=fl (S.st++[true]) d)∧(∀ p∈gM mvs j,fl S.st p.1=fl (S.st++[true]) p.1)∧∀ d,S.br[j.toNat]? = some (.int d)→fl S.st d=fl (S.st++[true]) d:=by
 refine ⟨fun d hd=>?_,fun p hp=>?_,fun d hd=>?_⟩
 ·have e:=yO (zJc hd)
  obtain ⟨q0,q1⟩:=I.K.dr _ (yq e) d (by unfold gC at hd;rw [e] at hd;exact hd)
  exact Q4 q0 q1
 ·have e:=yO (zJb hp)
  obtain ⟨⟨q0,q1⟩,_⟩:=I.K.mr _ (yq e) p (by unfold gM at hp;rw [e] at hp;exact hp)
  exact Q4 q0 q1
 ·rcases I.K.bn _ (yq hd) with q | ⟨d',q,q0,q1⟩
  ·cases q
  ·cases q;exact Q4 q0 q1
theorem Iw.put_new {y:Int} (y0:0≤y) (h:¬ y<S.b.length) (y1:y<((S.b.length+cs.length:Nat):Int)):gI (S.ow++zg S.le.length cs.length) y∈zg S.le.length cs.length:=by
 have hj:=XR y0 y1 h
 rw [xx (j:=y.toNat - S.b.length) (by rw [I.O.ow];exact (XU y0 h).symm) (wB hj)]
 exact List.mem_map.mpr ⟨_,List.mem_range.mpr hj,rfl⟩
theorem Iw.put (hs:S.s1.st.length<200) (hb:S.b.length+cs.length<200) (he:S.le.length+cs.length<200) :
  Iw ((S.sd x).adds i (.int S.dn.length) q cs) (mvs++List.replicate cs.length []) (cus++List.replicate cs.length []):=by
 have hst:=I.st
 have K2:=(I.K.sd hs x).adds (i:=i) (q:=q) (d:=S.dn.length) (cs:=cs) ⟨Int.natCast_nonneg _,by rw [← hst];exact ZP⟩ hb he
 have lb:((S.sd x).adds i (.int S.dn.length) q cs).b.length=S.b.length+cs.length:=by show (S.b++List.replicate cs.length true).length=_;rw [zX,List.length_replicate]
 have ll:((S.sd x).adds i (.int S.dn.length) q cs).le.length=S.le.length+cs.length:=zX
 refine ⟨⟨WC I.O.G lb (by rw [lb];exact hb),?_,?_,K2.sl⟩,K2,I.put_own,?_⟩
 ·rw [lb];show (S.ow++zg S.le.length cs.length).length=_
  rw [zX,yp,I.O.ow]
 ·intro j hj
  rw [ll]
  rcases wc (show j∈S.ow++zg S.le.length cs.length from hj) with hj | hj
  ·exact ⟨(I.O.own j hj).1,QG _ (I.O.own j hj).2⟩
  ·exact ⟨Int.le_trans (Int.natCast_nonneg _) (xb hj).1,(xb hj).2⟩
 ·show (S.st++[true]).length=(S.dn++[x]).length
  rw [zX,zX,hst];rfl
omit I
theorem Iv.put (V:Iv S mvs cus) (hs:S.s1.st.length<200) (hb:S.b.length+cs.length<200) (he:S.le.length+cs.length<200) :
  Iv ({ S.s1.adds i (.int S.dn.length) q cs with b:=yo (S.s1.adds i (.int S.dn.length) q cs) (mvs++List.replicate cs.length []) (cus++List.replicate cs.length []) (S.s1.adds i (.int S.dn.length) q cs).b (zg S.le.length cs.length),dn:=S.dn++[x] }:Sh) (mvs++List.replicate cs.length []) (cus++List.replicate cs.length []):=by
 have I:=V.I
 have I2:=I.put (i:=i) (q:=q) (x:=x) (cs:=cs) hs hb he
 have lb:((S.sd x).adds i (.int S.dn.length) q cs).b.length=S.b.length+cs.length:=by show (S.b++List.replicate cs.length true).length=_;rw [zX,List.length_replicate]
 refine I2.seat (is:=zg S.le.length cs.length) (fun j hj=>by have:=xb hj;show 0≤j∧j<((S.le++cs).length:Int);rw [zX];exact ⟨Int.le_trans (Int.natCast_nonneg _) this.1,this.2⟩) fun y y0 y1 hn=>?_
 by_cases h:y<S.b.length
 ·obtain ⟨a,c⟩:=I.own_at y0 h
  have e:fl (S.b++List.replicate cs.length true) y=fl S.b y:=by unfold fl;rw [List.getElem?_append_left (qb y0 h)]
  refine (e.trans (V.flag y y0 h)).trans ?_
  refine j4 rfl (xS y0 (by rw [I.O.ow];exact h)) (xS a (by rw [I.K.fi];exact c)) ZE Xz (List.getElem?_append_left (by rw [I.K.br];exact qb a c)) I.fls.1 I.fls.2.1 I.fls.2.2
 ·exact absurd (I.put_new y0 h (by rw [← lb];exact y1)) hn
end
section
variable {S:Sh} {mvs:List (List (Int×Int))} {cus:List (List Int)} {is:List Int} {x:AV}
theorem Iw.cut_at (I:Iw S mvs cus) (nd:is.Nodup) (hi:∀ i∈is,0≤i∧i<S.le.length) {j:Int} (j0:0≤j):gC (yr S.st.length cus is) j=if j∈is then gC cus j++[(S.st.length:Int)] else gC cus j:=by
 unfold gC
 rw [XB (d:=S.st.length) j0 nd (fun i h=>by rw [I.K.cu];exact hi i h)]
 by_cases h:j∈is
 ·rw [if_pos h,if_pos h,yO (l:=cus) (i:=j.toNat) (by rw [I.K.cu];exact qb (hi j h).1 (hi j h).2)];rfl
 ·rw [if_neg h,if_neg h]
theorem Iw.cut (I:Iw S mvs cus) (nd:is.Nodup) (hi:∀ i∈is,0≤i∧i<S.le.length) (hs:S.s1.st.length<200):Iw (S.sd x) mvs (yr S.st.length cus is):=by
 have K:=I.K.cut hs nd hi
 refine ⟨⟨I.O.G,I.O.ow,I.O.own,I.O.le⟩,⟨K.fi,K.br,K.mv,K.cu,K.fr,K.mr,K.dr,K.bn,K.ps,K.cs,K.sl,K.st,K.sb⟩,⟨I.W.seats,I.W.back⟩,?_⟩
 ·show (S.st++[true]).length=(S.dn++[x]).length
  rw [zX,zX,I.st];rfl
theorem Iv.cut (V:Iv S mvs cus) (nd:is.Nodup) (hi:∀ i∈is,0≤i∧i<S.le.length) (hs:S.s1.st.length<200) :
  Iv ({ S.s1 with b:=yo S.s1 mvs (yr S.st.length cus is) S.b is,dn:=S.dn++[x] }:Sh) mvs (yr S.st.length cus is):=by
 have I:=V.I
 refine (I.cut (x:=x) nd hi hs).seat (is:=is) hi fun y y0 y1 hn=>(V.flag y y0 y1).trans ?_
 exact j4 rfl rfl rfl rfl ((I.cut_at nd hi (I.own_at y0 y1).1).trans (if_neg hn)) rfl I.fls.1 I.fls.2.1 I.fls.2.2
end
section
variable {S:Sh} {mvs:List (List (Int×Int))} {cus:List (List Int)} (I:Iw S mvs cus) {a:Nat} {is:List Int} {x:AV}
include I
theorem Iw.mv_at (nd:is.Nodup) (hi:∀ i∈is,0≤i∧i<S.le.length) {s:Int} (s0:0≤s) :
  (s∉is→gM (yH S.st.length mvs S.b.length is) s=gM mvs s)∧∀ k:Nat,is[k]? = some s→gM (yH S.st.length mvs S.b.length is) s=gM mvs s++[((S.st.length:Int),((S.b.length+k:Nat):Int))]:=by
 obtain ⟨m1,m2⟩:=X6 (d:=S.st.length) (j:=s) s0 (mvs:=mvs) (n:=S.b.length) nd (fun z hz=>by rw [I.K.mv];exact hi z hz)
 refine ⟨fun h=>?_,fun k h=>?_⟩
 ·unfold gM;rw [m1 h]
 ·have hs:=hi s (yq h)
  have e:=yO (l:=mvs) (i:=s.toNat) (by rw [I.K.mv];lia)
  unfold gM
  rw [m2 k h,e];rfl
theorem Iw.mov_own (nd:is.Nodup) (hi:∀ i∈is,0≤i∧i<S.le.length):Own ((S.sd x).mov a is) (yH S.st.length mvs S.b.length is):=by
 have lb:((S.sd x).mov a is).b.length=S.b.length+is.length:=by show (S.b++List.replicate is.length false).length=_;rw [zX,List.length_replicate]
 have ho:=I.O.ow
 refine ⟨fun x x0 x1=>?_,fun s s0 s1 x hx=>?_⟩
 ·rw [lb] at x1
  show inS S.fi _ x (gI (S.ow++is) x)
  by_cases h:x<S.b.length
  ·obtain ⟨a0,c⟩:=I.own_at x0 h
   rw [xS x0 (by rw [ho];exact h)]
   rcases I.W.seats x x0 h with e | ⟨p,hp,e⟩
   ·exact .inl e
   ·refine .inr ⟨p,?_,e⟩
    by_cases q:gI S.ow x∈is
    ·obtain ⟨k,hk⟩:=List.getElem?_of_mem q
     rw [(I.mv_at nd hi a0).2 k hk]
     exact List.mem_append_left _ hp
    ·rw [(I.mv_at nd hi a0).1 q];exact hp
  ·have hk:x.toNat - S.b.length<is.length:=XR x0 x1 h
   have e:=yO hk
   rw [xx (l:=S.ow) (m:=is) (x:=x) (j:=x.toNat - S.b.length) (by rw [ho];exact (XU x0 h).symm) e]
   refine .inr ⟨((S.st.length:Int),((S.b.length+(x.toNat - S.b.length):Nat):Int)),?_,?_⟩
   ·rw [(I.mv_at nd hi (hi _ (List.getElem_mem hk)).1).2 _ e]
    exact List.mem_append_right _ (.head _)
   ·show ((S.b.length+(x.toNat - S.b.length):Nat):Int)=x
    exact XU x0 h
 ·have s1:s<S.le.length:=s1
  rw [lb]
  show gI (S.ow++is) x=s∧_
  have old:inS S.fi mvs x s→gI (S.ow++is) x=s∧0≤x∧x<((S.b.length+is.length:Nat):Int):=fun hx=>by
   obtain ⟨a0,c,e⟩:=I.W.back s s0 s1 x hx
   rw [xS c (by rw [ho];exact e)]
   exact ⟨a0,c,QG _ e⟩
  rcases hx with e | ⟨p,hp,e⟩
  ·exact old (.inl e)
  ·by_cases q:s∈is
   ·obtain ⟨k,hk⟩:=List.getElem?_of_mem q
    have hl:=(yj hk).1
    rw [(I.mv_at nd hi s0).2 k hk] at hp
    rcases wc hp with hp | hp
    ·exact old (.inr ⟨p,hp,e⟩)
    ·rw [List.mem_singleton] at hp
     subst hp
     have e:((S.b.length+k:Nat):Int)=x:=e
     subst e
     exact ⟨xx (j:=k) (by rw [ho]) hk,Int.natCast_nonneg _,Int.ofNat_lt.mpr (Nat.add_lt_add_left hl _)⟩
   ·rw [(I.mv_at nd hi s0).1 q] at hp
    exact old (.inr ⟨p,hp,e⟩)
theorem Iw.mov (nd:is.Nodup) (hi:∀ i∈is,0≤i∧i<S.le.length) (hs:S.s1.st.length<200) (hb:S.b.length+is.length<200):Iw ((S.sd x).mov a is) (yH S.st.length mvs S.b.length is) cus:=by
 have K:=I.K.mov (i:=a) hs nd hi hb
 have lb:((S.sd x).mov a is).b.length=S.b.length+is.length:=by show (S.b++List.replicate is.length false).length=_;rw [zX,List.length_replicate]
 refine ⟨⟨WC I.O.G lb (by rw [lb];exact hb),?_,?_,I.O.le⟩,⟨K.fi,K.br,K.mv,K.cu,K.fr,K.mr,K.dr,K.bn,K.ps,K.cs,K.sl,K.st,K.sb⟩,I.mov_own nd hi,?_⟩
 ·rw [lb];show (S.ow++is).length=_
  rw [zX,I.O.ow]
 ·intro j hj
  rcases wc (show j∈S.ow++is from hj) with hj | hj
  ·exact I.O.own j hj
  ·exact hi j hj
 ·show (S.st++[true]).length=(S.dn++[x]).length
  rw [zX,zX,I.st];rfl
omit I
theorem Iv.mov (V:Iv S mvs cus) (nd:is.Nodup) (hi:∀ i∈is,0≤i∧i<S.le.length) (hs:S.s1.st.length<200) (hb:S.b.length+is.length<200) :
  Iv ({ S.s1.mov a is with b:=yo S.s1 (yH S.st.length mvs S.b.length is) cus (S.s1.mov a is).b is,dn:=S.dn++[x] }:Sh) (yH S.st.length mvs S.b.length is) cus:=by
 have I:=V.I
 have lb:((S.sd x).mov a is).b.length=S.b.length+is.length:=by show (S.b++List.replicate is.length false).length=_;rw [zX,List.length_replicate]
 refine (I.mov (x:=x) (a:=a) nd hi hs hb).seat (is:=is) hi fun y y0 y1 hn=>?_
 by_cases h:y<S.b.length
 ·have e:fl (S.b++List.replicate is.length false) y=fl S.b y:=by unfold fl;rw [List.getElem?_append_left (qb y0 h)]
  have eo:gI (S.ow++is) y=gI S.ow y:=xS y0 (by rw [I.O.ow];exact h)
  have hn:gI (S.ow++is) y∉is:=hn
  rw [eo] at hn
  exact (e.trans (V.flag y y0 h)).trans (j4 rfl eo rfl ((I.mv_at nd hi (I.own_at y0 h).1).1 hn) rfl rfl I.fls.1 I.fls.2.1 I.fls.2.2)
 ·have hk:=XR y0 (by rw [← lb];exact y1) h
  have e:=yO hk
  refine absurd ?_ hn
  show gI (S.ow++is) y∈is
  rw [xx (j:=y.toNat - S.b.length) (by rw [I.O.ow];exact (XU y0 h).symm) e]
  exact List.getElem_mem hk
end
set_option genInjectivity false
set_option genSizeOf false
theorem ZA:((" !\"#$&'()*+,-./0123456789:;<=>?@ABCDEFGHIJKLMNOPQRSTUVWXYZ[\\]^_`" : Str)++("abcdefghijklmnopqrstuvwxyz{|}~\n" : Str))=LET∧LET.cps.toList.length=95∧(" !\"#$&'()*+,-./0123456789:;<=>?@ABCDEFGHIJKLMNOPQRSTUVWXYZ[\\]^_`" : Str).length+("abcdefghijklmnopqrstuvwxyz{|}~\n" : Str).length≤95:=by decide +kernel
theorem z0k (z:Int):0≤z.fmod 95∧z.fmod 95<95:=⟨Int.fmod_nonneg_of_pos _ (by decide),Int.fmod_lt_of_pos _ (by decide)⟩
theorem Jm (z:Int):∃ c,LET.cps[(z.fmod 95).toNat]? = some c∧c∈LET.cps.toList:=by
 have h:=z0k z
 have hl:(z.fmod 95).toNat<LET.cps.toList.length:=by rw [ZA.2.1];exact (Int.toNat_lt (z0k z).1).mpr (z0k z).2
 refine ⟨LET.cps.toList[(z.fmod 95).toNat],?_,List.getElem_mem hl⟩
 rw [← Array.getElem?_toList]
 exact yO hl
theorem xM {cf:CF} {fr:AFr} {h h1:Hp} {x:XE} {z d:Int} (e:x cf fr h=.ok (.int z) h1) (hd:0<d∧d<1073741824):zV .FloorDiv x (z8 (.int d)) cf fr h=.ok (.int (z.fdiv d)) h1:=xI e rfl (by rw [z3q,if_pos ⟨Int.ne_of_gt hd.1,Int.ofNat_lt.mp (by rw [Int.natAbs_of_nonneg (Int.le_of_lt hd.1)];exact hd.2)⟩])
theorem YD {cf:CF} {fr:AFr} {h h1 h2:Hp} {x y:XE} {z d:Int} (e:x cf fr h=.ok (.int z) h1) (e':y cf fr h1=.ok (.int d) h2) (hd:0<d):zV .Mod x y cf fr h=.ok (.int (z.fmod d)) h2:=xI e e' (by rw [Y1,if_neg (Int.ne_of_gt hd)])
theorem qe {cf:CF} {fr:AFr} {h h1:Hp} {x:XE} {z d:Int} (e:x cf fr h=.ok (.int z) h1) (hd:0<d):zV .Mod x (z8 (.int d)) cf fr h=.ok (.int (z.fmod d)) h1:=YD e rfl hd
theorem qw {cf:CF} {fr:AFr} {h h1 h2:Hp} {x y:XE} {a c:Int} (e:x cf fr h=.ok (.int a) h1) (e':y cf fr h1=.ok (.int c) h2):zV .Add x y cf fr h=.ok (.int (a+c)) h2:=xI e e' Y2
section
variable {T:Tab} {okf:Str→Str→Bool} (X:TT T okf) {n:Nat}
include X
theorem QN {c m:Int} {h:Hp} (m0:0≤m) (m1:m≤100):∃ cs o,run T (n+2) (.fn "_law_text_by") [.int c,.int m] h=.ok (.str (tx cs)) (h++[o])∧okT cs∧(cs.length:Int)=m:=by
 rw [yc X.kA7]
 let F:Nat→Nat:=fun k=>LET.cps[(((YG c (0+(k:Int))).fdiv 8).fmod 95).toNat]?.getD 0
 let l:List Nat:=List.range (m - 0).toNat
 have hl:l.length=(m - 0).toNat:=List.length_range
 have er:(zK (zI (some (.bi .range))) [(z6 1)]) (run T (n+1)) [some (.int c),some (.int m),some (.str LET)] h=.ok (.range 0 m) h:=by
  refine xl (ev1 (z5 rfl) ev0) ?_
  rw [Z1,if_pos (Int.ofNat_lt.mp (by rw [Int.natAbs_of_nonneg m0];exact Int.lt_of_le_of_lt m1 (by decide)))]
 have ec:=ZH (fun k:Nat=>AV.int (0+(k:Int))) (own:=1) (i:=3) (test:=y8 .And []) (elt:=(zn (z6 2) (zV .Mod (zV .FloorDiv (zK (zI (some (.fn "_law_mixed"))) [(z6 0),(z6 3)]) (z8 (.int 8))) (z8 (.int 95))))) (l:=l) (p:=fun _=>true) (f:=fun k=>ch (F k)) er (by show some (Src.imm (xK 0 m),(m - 0).toNat)=_;rw [hl];rfl) (zU rfl) (by rw [hl];show _<1048576;lia)
  (fun fr' a1 a2 x hx a3=>rfl)
  (fun fr' a1 a2 x hx a3=>by
   have a0:fr'[0]? = some (some (.int c)):=a2 0 (by decide)
   have a4:fr'[2]? = some (some (.str LET)):=a2 2 (by decide)
   have:=z0k ((YG c (0+(x:Int))).fdiv 8)
   refine ya (z5 a4) (qe (xM (zc (ev1 (z5 a0) (ev1 (z5 a3) ev0)) (Wj X)) ⟨by decide,by decide⟩) (by decide)) ?_
   obtain ⟨v,hv,_⟩:=Jm ((YG c (0+(x:Int))).fdiv 8)
   rw [z5d (qH.mpr ⟨(z0k _).1,Int.lt_trans (z0k _).2 (by decide)⟩)]
   show _=some (ch (LET.cps[_]?.getD 0))
   rw [hv];rfl)
 rw [List.filter_eq_self.mpr (fun _ _=>rfl)] at ec
 have e2:l.map (fun k=>ch (F k))=(l.map F).map (fun c=>AV.str ⟨#[c]⟩):=by rw [List.map_map];rfl
 have hg:(h++[AO.list (l.map fun k=>ch (F k))])[h.length]? = some (AO.list ((l.map F).map (fun c=>AV.str ⟨#[c]⟩))):=by rw [← e2];exact zQ _ _ []
 have ej:=Qs (sep := "") hg QR (by
  rw [QP,List.length_map,List.length_map,hl,Int.sub_zero]
  show m.toNat+_ * 0≤_
  rw [Nat.mul_zero]
  exact Nat.le_trans (Int.toNat_le.mpr m1) (by decide))
 rw [YV] at ej
 refine ⟨l.map F,.list (l.map fun k=>ch (F k)),?_,fun v hv=>?_,by rw [List.length_map,hl,Int.sub_zero];exact Int.toNat_of_nonneg m0⟩
 ·refine zO (fr:=[some (.int c),some (.int m),none]) rfl rfl (fr':=[some (.int c),some (.int m),some (.str LET)]) ?_
  unfold kA7
  dsimp only
  rw [z7 (zd (j:=2) rfl (zU rfl))]
  rw [z7 (zd (j:=2) (v:=.str LET) (xI (z5 rfl) rfl (by rw [Jh,if_pos (Nat.le_trans ZA.2.2 (by decide)),ZA.1])) (zU rfl))]
  exact zP (zo (z5v rfl (ev1 ec ev0) ej))
 ·obtain ⟨k,_,rfl⟩:=List.mem_map.mp hv
  obtain ⟨u,hu,hm⟩:=Jm ((YG c (0+(k:Int))).fdiv 8)
  show LET.cps[_]?.getD 0∈_
  rw [hu];exact hm
end
inductive Deed where
 | put (p:Int) (cs:List Nat)
 | cut (i j:Int)
 | mov (i j p:Int)
noncomputable def Deed.av (hd:Int):Deed→AV
 | .put p cs=>.tup [.int hd,.str "put",.int 0,.int 0,.int p,.str (tx cs)]
 | .cut i j=>.tup [.int hd,.str "cut",.int i,.int j,.int 0,.str ""]
 | .mov i j p=>.tup [.int hd,.str "move",.int i,.int j,.int p,.str ""]
noncomputable def Deed.ok (m:Int):Deed→Prop
 | .put p cs=>0≤p∧p≤m∧okT cs∧cs≠[]∧cs.length≤4
 | .cut i j=>0≤i∧i<j∧j≤m
 | .mov i j p=>0≤i∧i<j∧j≤m∧j≤i+5∧0≤p∧p≤m∧¬ (i<p∧p<j)
theorem wok:PyData.strOk ("put" : Str)=true∧PyData.strOk ("cut" : Str)=true∧PyData.strOk ("move" : Str)=true:=by decide +kernel
theorem weq:(("put" : Str) == ("put" : Str))=true∧(("cut" : Str) == ("put" : Str))=false∧(("cut" : Str) == ("cut" : Str))=true∧(("move" : Str) == ("put" : Str))=false∧(("move" : Str) == ("cut" : Str))=false:=by decide +kernel
section
variable {h:Hp}
theorem zJk:xQ .Eq (.str "put") (.str "put") h=some true:=(qj wok.1 wok.1).trans (congrArg some weq.1)
theorem zJn:xQ .Eq (.str "cut") (.str "put") h=some false:=(qj wok.2.1 wok.1).trans (congrArg some weq.2.1)
theorem zJo:xQ .Eq (.str "cut") (.str "cut") h=some true:=(qj wok.2.1 wok.2.1).trans (congrArg some weq.2.2.1)
theorem zJl:xQ .Eq (.str "move") (.str "put") h=some false:=(qj wok.2.2 wok.1).trans (congrArg some weq.2.2.2.1)
theorem zJm:xQ .Eq (.str "move") (.str "cut") h=some false:=(qj wok.2.2 wok.2.1).trans (congrArg some weq.2.2.2.2)
end
theorem fmr (z:Int) {d:Int} (h:0<d):0≤z.fmod d∧z.fmod d<d:=⟨Int.fmod_nonneg_of_pos _ h,Int.fmod_lt_of_pos _ h⟩
theorem zJ0 {m:Int} (h:¬ m=0) (h':0≤m):(if (1:Int)<m then m else 1)=m:=by
 by_cases q:1<m
 ·rw [if_pos q]
 ·rw [if_neg q];exact Int.le_antisymm (Int.lt_iff_le_and_ne.mpr ⟨h',Ne.symm h⟩) (Int.not_lt.mp q)
theorem zJh {bg x m:Int} (b1:bg<m) (x0:0≤x) (x1:x<5):bg<(if bg+1+x<m then bg+1+x else m)∧(if bg+1+x<m then bg+1+x else m)≤m∧(if bg+1+x<m then bg+1+x else m)≤bg+5:=by
 have h5:bg+1+x≤bg+5:=by rw [Int.add_assoc];exact Int.add_le_add_left (show 1+x≤1+4 from Int.add_le_add_left (Int.le_of_lt_add_one x1) 1) bg
 by_cases q:bg+1+x<m
 ·rw [if_pos q];exact ⟨Int.lt_of_lt_of_le (Int.lt_add_one_of_le (Int.le_refl bg)) (Int.le_add_of_nonneg_right x0),Int.le_of_lt q,h5⟩
 ·rw [if_neg q];exact ⟨b1,Int.le_refl _,Int.le_trans (Int.not_lt.mp q) h5⟩
theorem zJ1 {bg en p m:Int} (b0:0≤bg) (e1:bg<en) (e2:en≤m) (h:p=bg∨p=en):0≤p∧p≤m∧¬ (bg<p∧p<en):=by
 rcases h with rfl | rfl
 ·exact ⟨b0,Int.le_of_lt (Int.lt_of_lt_of_le e1 e2),fun h=>Int.lt_irrefl _ h.1⟩
 ·exact ⟨Int.le_of_lt (Int.lt_of_le_of_lt b0 e1),e2,fun h=>Int.lt_irrefl _ h.2⟩
theorem zH4 {m:Int}:0<(if (1:Int)<m then m else 1):=by
 by_cases q:1<m
 ·rw [if_pos q];exact Int.lt_trans (by decide) q
 ·rw [if_neg q];decide
theorem z5s {x:Int} (h:0≤x∧x<4):0≤1+x∧1+x≤100:=⟨Int.add_nonneg (by decide) h.1,Int.le_trans (Int.add_le_add_left (Int.le_of_lt h.2) 1) (by decide)⟩
theorem z26 {c:Nat} {x:Int} (hl:(c:Int)=1+x) (h:0≤x∧x<4):0<c∧c≤4:=by lia
theorem zGo {x:Int} (h:0≤x∧x<2):x=0∨x=1:=by lia
section
variable {T:Tab} {okf:Str→Str→Bool} (X:TT T okf) {n:Nat}
include X
theorem z39 {z hands:Int} {m:Nat} {h:Hp} (hm:m≤200) (hh:0<hands):∃ hd d g,run T (n+3) (.fn "_law_deed_by") [.int z,.int m,.int hands] h=.ok (Deed.av hd d) (h++g)∧0≤hd∧hd<hands∧d.ok m:=by
 rw [yc X.kA6]
 let hd:=z.fmod hands
 let kd:=(z.fdiv 9).fmod 8
 let mx:Int:=if (1:Int)<m then m else 1
 have mx0:0<mx:=zH4
 let bg:=(z.fdiv 72).fmod mx
 let e0:=bg+1+(z.fdiv 1009).fmod 5
 let en:Int:=if e0<m then e0 else m
 let pl:=(z.fdiv 5003).fmod (m+1)
 have r1:=fmr z hh
 have r2:=fmr (z.fdiv 72) mx0
 have r3:=fmr (z.fdiv 1009) (show (0:Int)<5 by decide)
 have r4:=fmr (z.fdiv 5003) (Int.lt_add_one_of_le (Int.natCast_nonneg m))
 have hF:∀ {v:AV} {h':Hp},(∃ fr',(zJ [(sIf (y8 .Or [(zj (z6 4) [.Lt] [(z8 (.int 3))]),(zj (z6 1) [.Eq] [(z8 (.int 0))])]) (zJ [(zi (xG [(z6 3),(z8 (.str "put")),(z8 (.int 0)),(z8 (.int 0)),(z6 7),(zK (zI (some (.fn "_law_text_by"))) [(z6 0),(zV .Add (z8 (.int 1)) (zV .Mod (zV .FloorDiv (z6 0) (z8 (.int 30011))) (z8 (.int 4))))])]))]) (zJ [])),(sIf (zj (z6 4) [.Lt] [(z8 (.int 5))]) (zJ [(zi (xG [(z6 3),(z8 (.str "cut")),(z6 5),(z6 6),(z8 (.int 0)),(z8 (.str ""))]))]) (zJ [])),(sIf (zj (z6 5) [.Lt,.Lt] [(z6 7),(z6 6)]) (zJ [(zA okf (.names (.one 7)) (zn (zT [(z6 5),(z6 6)]) (zV .Mod (zV .FloorDiv (z6 0) (z8 (.int 60013))) (z8 (.int 2)))))]) (zJ [])),(zi (xG [(z6 3),(z8 (.str "move")),(z6 5),(z6 6),(z6 7),(z8 (.str ""))]))]) (run T (n+2)) [some (.int z),some (.int m),some (.int hands),some (.int hd),some (.int kd),some (.int bg),some (.int en),some (.int pl)] h=.ok (.ret v) fr' h')→yW (kA6 okf) (run T (n+2)) [.int z,.int m,.int hands] h=.ok v h':=by
  rintro v h' ⟨fr',e⟩
  refine zO (fr:=[some (.int z),some (.int m),some (.int hands),none,none,none,none,none]) rfl rfl (fr':=fr') ?_
  unfold kA6
  dsimp only
  rw [z7 (zd (j:=3) (YD (z5 rfl) (z5 rfl) hh) (zU rfl))]
  rw [z7 (zd (j:=4) (qe (xM (z5 rfl) ⟨by decide,by decide⟩) (by decide)) (zU rfl))]
  rw [z7 (zd (j:=5) (YD (d:=mx) (xM (z5 rfl) ⟨by decide,by decide⟩) (xl (ev1 rfl (ev1 (z5 rfl) ev0)) zHn) mx0) (zU rfl))]
  rw [z7 (zd (j:=6) (v:=.int en) (xl (ev1 (z5 rfl) (ev1 (qw (qw (z5 rfl) rfl) (qe (xM (z5 rfl) ⟨by decide,by decide⟩) (by decide))) ev0)) zHm) (zU rfl))]
  rw [z7 (zd (j:=7) (YD (d:=m+1) (xM (z5 rfl) ⟨by decide,by decide⟩) (qw (z5 rfl) rfl) (Int.lt_add_one_of_le (Int.natCast_nonneg m))) (zU rfl))]
  exact e
 by_cases hk:kd<3∨(m:Int)=0
 ·have r5:=fmr (z.fdiv 30011) (show (0:Int)<4 by decide)
  obtain ⟨cs,o,et,ok,hl⟩:=QN X (n:=n) (c:=z) (m:=1+(z.fdiv 30011).fmod 4) (h:=h) (z5s r5).1 (z5s r5).2
  refine ⟨hd,.put pl cs,[o],hF ⟨_,zP ((yM (h1:=h) ?_).trans (zP (zo (xi (ev1 (z5 rfl) (ev1 rfl (ev1 rfl (ev1 rfl (ev1 (z5 rfl) (ev1 (zc (ev1 (z5 rfl) (ev1 (qw rfl (qe (xM (z5 rfl) ⟨by decide,by decide⟩) (by decide))) ev0)) et) ev0)))))))))) ⟩,r1.1,r1.2,r4.1,Int.le_of_lt_add_one r4.2,ok,fun q=>absurd (z26 hl r5).1 (by rw [q];exact Nat.lt_irrefl _),(z26 hl r5).2⟩
  by_cases h3:kd<3
  ·exact jk (zb (z5 rfl) rfl (by rw [yS,decide_eq_true h3]))
  ·exact yv (zb (z5 rfl) rfl (by rw [yS,decide_eq_false h3])) (jk (zb (z5 rfl) rfl (by rw [xN,qK,decide_eq_true (hk.resolve_left h3)])))
 ·have k3:¬ kd<3:=fun q=>hk (.inl q)
  have m0:¬ (m:Int)=0:=fun q=>hk (.inr q)
  have hmx:mx=m:=by exact zJ0 m0 (Int.natCast_nonneg _)
  have b0:0≤bg:=r2.1
  have b1:bg<m:=by rw [← hmx];exact r2.2
  have e1:bg<en∧en≤m∧en≤bg+5:=zJh b1 r3.1 r3.2
  have p0:0≤pl:=r4.1
  have p1:pl≤m:=Int.le_of_lt_add_one r4.2
  have s1:y8 .Or [(zj (z6 4) [.Lt] [(z8 (.int 3))]),(zj (z6 1) [.Eq] [(z8 (.int 0))])] (run T (n+2)) [some (.int z),some (.int m),some (.int hands),some (.int hd),some (.int kd),some (.int bg),some (.int en),some (.int pl)] h=.ok false h :=
   yv (zb (z5 rfl) rfl (by rw [yS,decide_eq_false k3])) (yv (zb (z5 rfl) rfl (by rw [xN,qK,decide_eq_false m0])) qU)
  by_cases k5:kd<5
  ·refine ⟨hd,.cut bg en,[],hF ⟨[some (.int z),some (.int m),some (.int hands),some (.int hd),some (.int kd),some (.int bg),some (.int en),some (.int pl)],?_⟩,r1.1,r1.2,b0,e1.1,e1.2.1⟩
   rw [z7 ((zN s1).trans zL),List.append_nil]
   exact zP ((yM (zb (z5 rfl) rfl (by rw [yS,decide_eq_true k5]))).trans (zP (zo (xi (ev1 (z5 rfl) (ev1 rfl (ev1 (z5 rfl) (ev1 (z5 rfl) (ev1 rfl (ev1 rfl ev0))))))))))
  ·have s2:zj (z6 4) [.Lt] [(z8 (.int 5))] (run T (n+2)) [some (.int z),some (.int m),some (.int hands),some (.int hd),some (.int kd),some (.int bg),some (.int en),some (.int pl)] h=.ok false h:=zb (z5 rfl) rfl (by rw [yS,decide_eq_false k5])
   by_cases hb:bg<pl∧pl<en
   ·have r6:=fmr (z.fdiv 60013) (show (0:Int)<2 by decide)
    obtain ⟨p',ep,hp'⟩:∃ p':Int,we (h++[.list [.int bg,.int en]]) (.ref h.length) (.int ((z.fdiv 60013).fmod 2))=some (.int p')∧(p'=bg∨p'=en):=by
     have hg:(h++[AO.list [.int bg,.int en]])[h.length]? = some (.list [.int bg,.int en]):=zQ _ _ []
     rcases zGo r6 with q | q
     ·refine ⟨bg,?_,.inl rfl⟩
      rw [q,xn rfl,hg];rfl
     ·refine ⟨en,?_,.inr rfl⟩
      rw [q,xn rfl,hg];rfl
    refine ⟨hd,.mov bg en p',[.list [.int bg,.int en]],hF ⟨[some (.int z),some (.int m),some (.int hands),some (.int hd),some (.int kd),some (.int bg),some (.int en),some (.int p')],?_⟩,r1.1,r1.2,b0,e1.1,e1.2.1,e1.2.2,zJ1 b0 e1.1 e1.2.1 hp'⟩
    rw [z7 ((zN s1).trans zL),z7 ((zN s2).trans zL)]
    rw [z7 ((yM (yi (z5 rfl) (z5 rfl) (by rw [yS,decide_eq_true hb.1]) (z5 rfl) (by rw [yS,decide_eq_true hb.2]))).trans ((z7 (zd (j:=7) (ya (yD (ev1 (z5 rfl) (ev1 (z5 rfl) ev0))) (qe (xM (z5 rfl) ⟨by decide,by decide⟩) (by decide)) ep) (zU rfl))).trans zL))]
    exact zP (zo (xi (ev1 (z5 rfl) (ev1 rfl (ev1 (z5 rfl) (ev1 (z5 rfl) (ev1 (z5 rfl) (ev1 rfl ev0))))))))
   ·have s3:zj (z6 5) [.Lt,.Lt] [(z6 7),(z6 6)] (run T (n+2)) [some (.int z),some (.int m),some (.int hands),some (.int hd),some (.int kd),some (.int bg),some (.int en),some (.int pl)] h=.ok false h:=by
     by_cases q:bg<pl
     ·exact yi (z5 rfl) (z5 rfl) (by rw [yS,decide_eq_true q]) (z5 rfl) (by rw [yS,decide_eq_false fun w=>hb ⟨q,w⟩])
     ·exact Xo (z5 rfl) (z5 rfl) (by rw [yS,decide_eq_false q])
    refine ⟨hd,.mov bg en pl,[],hF ⟨[some (.int z),some (.int m),some (.int hands),some (.int hd),some (.int kd),some (.int bg),some (.int en),some (.int pl)],?_⟩,r1.1,r1.2,b0,e1.1,e1.2.1,e1.2.2,p0,p1,hb⟩
    rw [z7 ((zN s1).trans zL),z7 ((zN s2).trans zL),z7 ((zN s3).trans zL),List.append_nil]
    exact zP (zo (xi (ev1 (z5 rfl) (ev1 rfl (ev1 (z5 rfl) (ev1 (z5 rfl) (ev1 (z5 rfl) (ev1 rfl ev0))))))))
end
theorem qk {cf:CF} {fr:AFr} {h h1 h2:Hp} {x o:XE} {v:AV} {a:Nat} {c name:Str} {okf:Str→Str→Bool} {fs fs':List (Str×AV)} (e:x cf fr h=.ok v h1) (eo:o cf fr h1=.ok (.ref a) h2) (ha:h2[a]? = some (.inst c fs)) (hok:okf c name=true) (hl:fs.length<100) (hf:qY name v fs=fs'):zA okf (.attr o name) x cf fr h=.ok .next fr (h2.set a (.inst c fs')):=by
 unfold zA
 rw [e]
 show Out.bindS (o cf fr h1) fr _=_
 rw [eo]
 show (match h2[a]? with
   | some (.inst c fs)=>if okf c name && decide (fs.length<100) then OS.ok .next fr (h2.set a (.inst c (qY name v fs))) else .stuck
   | _=>.stuck)=_
 rw [ha]
 show (if okf c name && decide (fs.length<100) then OS.ok .next fr (h2.set a (.inst c (qY name v fs))) else .stuck)=_
 rw [hok,decide_eq_true hl,hf];rfl
noncomputable abbrev sh0 (g0:Z9) (g2:AO) (hands:Int):Sh:=⟨g0,g2,hands,[],[],[],[],[],[],[],[],[],[],[]⟩
noncomputable abbrev sh1 (g0:Z9) (g2:AO) (hands:Int) (cs:List Nat):Sh:=⟨g0,g2,hands,zg 0 cs.length,List.replicate cs.length true,zg 0 cs.length,cs,zg 0 cs.length,(List.range cs.length).map (fun j=>1+2 * j),List.replicate cs.length .none,(List.range cs.length).map (fun j=>1+2 * j+1),[],[],[]⟩
theorem z1p (g0:Z9) (g2:AO) (hands:Int) (cs:List Nat):(sh0 g0 g2 hands).adds 0 .none 1 cs=sh1 g0 g2 hands cs:=by
 exact congrArg (fun l=>({ sh1 g0 g2 hands cs with l:=l }:Sh)) (List.append_nil (zg 0 cs.length))
theorem jw {k:Nat} {x:Int} (x0:0≤x) (x1:x<k):gI (zg 0 k) x=x:=by
 unfold gI
 rw [wB ((Int.toNat_lt x0).mpr x1)]
 show ((0+x.toNat:Nat):Int)=x
 rw [Nat.zero_add];exact Int.toNat_of_nonneg x0
theorem z2z {k:Nat} {x:Int}:gM (List.replicate k []) x=[]:=ZE (mvs:=[]) (k:=k) (i:=x)
theorem Zs {α:Type} {k:Nat} {l:List α} (h:l∈List.replicate k ([]:List α)):l=[]:=List.eq_of_mem_replicate h
theorem zHd {k:Nat} {x:Int}:gC (List.replicate k []) x=[]:=Xz (cus:=[]) (k:=k) (i:=x)
theorem iv1 (g0:Z9) (g2:AO) (hands:Int) {cs:List Nat} (hc:cs.length<200):Iv (sh1 g0 g2 hands cs) (List.replicate cs.length []) (List.replicate cs.length []):=by
 have lb:(sh1 g0 g2 hands cs).b.length=cs.length:=List.length_replicate
 have fb:∀ (x:Int),0≤x→x<cs.length→fl (sh1 g0 g2 hands cs).b x=true:=fun x x0 x1=>by
  unfold fl
  show (List.replicate cs.length true)[x.toNat]?.getD false=true
  rw [List.getElem?_replicate,if_pos ((Int.toNat_lt x0).mpr x1)];rfl
 refine ⟨⟨⟨⟨?_,by rw [lb];exact hc⟩,?_,fun i hi=>?_,hc⟩,⟨yp _ _,List.length_replicate,List.length_replicate,List.length_replicate,fun i hi=>?_,fun ps hp p hq=>?_,fun ps hp p hq=>?_,fun v hv=>?_,fun ps hp=>?_,fun ps hp=>?_,hc,zU rfl,by rw [lb];exact hc⟩,⟨fun x x0 x1=>?_,fun i i0 i1 x hx=>?_⟩,rfl⟩,fun x x0 x1=>?_⟩
 ·rw [lb]
  show (zg 0 cs.length).Perm _
  unfold zg
  simp only [Nat.zero_add]
  exact List.Perm.refl _
 ·rw [lb];exact yp _ _
 ·have:=xb hi
  rw [Nat.zero_add] at this;exact this
 ·have:=xb hi
  rw [Nat.zero_add] at this;rw [lb];exact this
 ·rw [Zs hp] at hq;cases hq
 ·rw [Zs hp] at hq;cases hq
 ·exact .inl (List.eq_of_mem_replicate hv)
 ·rw [Zs hp];exact Nat.zero_le _
 ·rw [Zs hp];exact Nat.zero_le _
 ·rw [lb] at x1
  show inS (zg 0 cs.length) _ x (gI (zg 0 cs.length) x)
  rw [jw x0 x1]
  exact .inl (jw x0 x1).symm
 ·have i1:i<cs.length:=i1
  rw [lb]
  have hx:x=gI (zg 0 cs.length) i∨∃ p∈gM (List.replicate cs.length []) i,p.2=x:=hx
  rw [z2z,jw i0 i1] at hx
  rcases hx with rfl | ⟨p,hp,_⟩
  ·exact ⟨jw i0 i1,i0,i1⟩
  ·cases hp
 ·rw [lb] at x1
  rw [fb x x0 x1]
  unfold Sh.tgt
  have e1:gI (zg 0 cs.length) x=x:=jw x0 x1
  have e2:(sh1 g0 g2 hands cs).shw (List.replicate cs.length []) x=true:=by
   unfold Sh.shw
   show (QB [] ((List.replicate cs.length AV.none)[x.toNat]?.getD .none) && !(gC (List.replicate cs.length []) x).any _)=true
   rw [zHd,List.getElem?_replicate,if_pos (qb x0 x1)];rfl
  have e3:(sh1 g0 g2 hands cs).cur (List.replicate cs.length []) x=x:=by
   show yR [] (gI (zg 0 cs.length) x) (gM (List.replicate cs.length []) x)=x
   rw [z2z,e1];rfl
  show true=((sh1 g0 g2 hands cs).shw (List.replicate cs.length []) (gI (zg 0 cs.length) x) && decide (x=(sh1 g0 g2 hands cs).cur (List.replicate cs.length []) (gI (zg 0 cs.length) x)))
  rw [e1,e2,e3,decide_eq_true rfl];rfl
noncomputable abbrev rF1 (k:Nat):List (Str×AV):=[("line",.ref (k+1))]
noncomputable abbrev rF2 (k:Nat):List (Str×AV):=[("line",.ref (k+1)),("flags",.ref (k+2))]
noncomputable abbrev fZl (d:Int) (m:Nat):List (Str×AV):=[("hands",.int d),("row",.ref (m+2)),("owners",.ref (m+5)),("letters",.ref (m+6)),("firsts",.ref (m+7)),("moved",.ref (m+8)),("bringers",.ref (m+9)),("cutters",.ref (m+10)),("done",.ref (m+11)),("standing",.ref (m+12)),("lost",.ref (m+13))]
theorem xH {cf:CF} {fr:AFr} {h:Hp} {okf:Str→Str→Bool} {c name:Str} {fs fs':List (Str×AV)} {l l':Hp} (f0:fr[0]? = some (some (.ref h.length))) (ok:okf c name=true) (z:fs.length<100) {k:Nat} (hk:l.length+1=k) (hf:qY name (.ref (h.length+k)) fs=fs') (hl:l++[.list []]=l'):zA okf (.attr (z6 0) name) (zT []) cf fr (h++(.inst c fs::l))=.ok .next fr (h++(.inst c fs'::l')):=by
 have e1:zT [] cf fr (h++(.inst c fs::l))=.ok (.ref (h.length+k)) (h++(.inst c fs::l')):=(yD ev0).trans (by
  rw [zX,List.append_assoc,← hk,← hl];rfl)
 have:=qk (okf:=okf) e1 (z5 (h:=h++(.inst c fs::l')) f0) (zQ h _ _) ok z hf
 rw [set_gap] at this
 exact this
section
variable {T:Tab} {okf:Str→Str→Bool} (X:TT T okf) {n:Nat}
include X
theorem Qc {h:Hp}:run T (n+1) (.cls "Row") [] h=.ok (.ref h.length) (h++[.inst "Row" (rF2 h.length),.list [],.list []]):=by
 rw [j8 X.row X.kB6]
 have e:yW (kB6 okf) (run T n) [.ref h.length] (h++[.inst "Row" []])=.ok .none (h++[.inst "Row" (rF2 h.length),.list [],.list []]):=by
  refine yI (fr:=[some (.ref h.length)]) rfl rfl (fr':=[some (.ref h.length)]) ?_
  unfold kB6
  dsimp only
  refine (z7 (qk (a:=h.length) (yD ev0) (z5 rfl) (show ((h++[AO.inst "Row" []])++[AO.list []])[h.length]? = some (.inst "Row" []) by rw [List.append_assoc];exact zQ _ _ _) X.kCj (zU rfl) (show qY "line" (AV.ref (h++[AO.inst "Row" []]).length) []=rF1 h.length by rw [zX];rfl))).trans ?_
  have e1:((h++[AO.inst "Row" []])++[AO.list []]).set h.length (.inst "Row" (rF1 h.length))=h++[.inst "Row" (rF1 h.length),.list []]:=by rw [List.append_assoc];exact set_gap _ _ _ _
  rw [e1]
  refine (z7 (qk (a:=h.length) (yD ev0) (z5 rfl) (show ((h++[AO.inst "Row" (rF1 h.length),.list []])++[AO.list []])[h.length]? = some (.inst "Row" (rF1 h.length)) by rw [List.append_assoc];exact zQ _ _ _) X.kCe (zU rfl) (show qY "flags" (AV.ref (h++[AO.inst "Row" (rF1 h.length),.list []]).length) (rF1 h.length)=rF2 h.length by rw [zX];rfl))).trans ?_
  have e2:((h++[AO.inst "Row" (rF1 h.length),.list []])++[AO.list []]).set h.length (.inst "Row" (rF2 h.length))=h++[.inst "Row" (rF2 h.length),.list [],.list []]:=by rw [List.append_assoc];exact set_gap _ _ _ _
  rw [e2]
  exact zL
 rw [e];rfl
theorem W9 {h H:Hp} {cs:List Nat} {d:Int} {v:AV} (ok:okT cs) (hc:cs.length≤200) (h1:1≤d) (h9:d≤9) (eb:run T (n+4) (.meth "Sheet" "bring") [.ref h.length,.str (tx cs),.none,.none] (h++[.inst "Sheet" (fZl d h.length),.list (cs.map fun _=>AV.bool true),.inst "Row" (rF2 (h.length+2)),.list [],.list [],.list [],.list [],.list [],.list [],.list [],.list [],.list [],.list [],.list []])=.ok v H):run T (n+5) (.cls "Sheet") [.str (tx cs),.int d] h=.ok (.ref h.length) H:=by
 have et:=YX X (n:=n+3) ok hc (hp:=h++[.inst "Sheet" []])
 rw [List.append_assoc] at et
 generalize AO.list (cs.map fun _=>AV.bool true)=o at et eb
 have er:=Qc X (n:=n+3) (h:=h++[.inst "Sheet" ((fZl d h.length).take 1),o])
 rw [zX,List.append_assoc] at er
 rw [j8 X.sheet X.kBj,yI (F:=kBj okf) (args:=[.ref h.length,.str (tx cs),.int d]) (fr:=[some (.ref h.length),some (.str (tx cs)),some (.int d)]) rfl rfl (fr':=[some (.ref h.length),some (.str (tx cs)),some (.int d)]) (h':=H) ?_]
 ·rfl
 unfold kBj
 dsimp only
 refine (z7 ((zN (zx (b:=true) (yZ (v:=.bool true) (zc (ev1 (z5 rfl) ev0) et) rfl))).trans zL)).trans ?_
 refine (z7 ((zN (yv (zx (b:=true) (yZ (v:=.bool true) (zc (ev1 (z5 rfl) ev0) (yE X (n:=n+3))) rfl)) (yv (zx (b:=true) (yi rfl (z5 rfl) (by rw [xV,decide_eq_true h1]) rfl (by rw [xV,decide_eq_true h9]))) qU))).trans zL)).trans ?_
 have s1:=qk (okf:=okf) (name := "hands") (fs':=(fZl d h.length).take 1) (z5 (cf:=run T (n+4)) (fr:=[some (.ref h.length),some (.str (tx cs)),some (.int d)]) (i:=2) (h:=h++[.inst "Sheet" [],o]) rfl) (z5 (i:=0) rfl) (zQ h _ _) X.kCc (zU rfl) rfl
 rw [set_gap] at s1
 refine (z7 s1).trans ?_
 have s2:=(qk (okf:=okf) (name := "row") (fs':=(fZl d h.length).take 2) (ZR (cf:=run T (n+4)) (fr:=[some (.ref h.length),some (.str (tx cs)),some (.int d)]) ev0 er) (z5 (i:=0) rfl) (zQ h _ _) X.kCn (zU rfl) rfl).trans (congrArg (OS.ok _ _) (set_gap h _ _ _))
 refine (z7 s2).trans ?_
 refine (z7 (xH (fs':=(fZl d h.length).take 3) (k:=5) rfl X.kB5 (zU rfl) rfl rfl rfl)).trans ?_
 refine (z7 (xH (fs':=(fZl d h.length).take 4) (k:=6) rfl X.kBy (zU rfl) rfl rfl rfl)).trans ?_
 refine (z7 (xH (fs':=(fZl d h.length).take 5) (k:=7) rfl X.kB7 (zU rfl) rfl rfl rfl)).trans ?_
 refine (z7 (xH (fs':=(fZl d h.length).take 6) (k:=8) rfl X.kCa (zU rfl) rfl rfl rfl)).trans ?_
 refine (z7 (xH (fs':=(fZl d h.length).take 7) (k:=9) rfl X.kBg (zU rfl) rfl rfl rfl)).trans ?_
 refine (z7 (xH (fs':=(fZl d h.length).take 8) (k:=10) rfl X.kBs (zU rfl) rfl rfl rfl)).trans ?_
 refine (z7 (xH (fs':=(fZl d h.length).take 9) (k:=11) rfl X.kCi (zU rfl) rfl rfl rfl)).trans ?_
 refine (z7 (xH (fs':=(fZl d h.length).take 10) (k:=12) rfl X.kBo (zU rfl) rfl rfl rfl)).trans ?_
 refine (z7 (xH (fs':=(fZl d h.length).take 11) (k:=13) rfl X.kCl (zU rfl) rfl rfl rfl)).trans ?_
 exact (z7 (zZ (zC (a:=h.length) (z5 rfl) (zQ h _ _) rfl (ev1 (z5 rfl) (ev1 rfl (ev1 rfl ev0))) eb))).trans zL
theorem zJ8 {g0:Z9} {cs:List Nat} {hands:Int} (ok:okT cs) (hc:cs.length≤60) (h1:1≤hands) (h9:hands≤9):∃ g2 r,run T (n+5) (.cls "Sheet") [.str (tx cs),.int hands] [g0.a0,g0.a1,g0.a2,g0.a3,g0.a4,g0.a5,g0.a6,g0.a7,g0.a8]=.ok (.ref 9) ((sh1 g0 g2 hands cs).hp r)∧Dy (sh1 g0 g2 hands cs) (List.replicate cs.length []) (List.replicate cs.length []) r:=by
 refine ⟨.list (cs.map fun _=>AV.bool true),.list ((zg 0 cs.length).map AV.int)::List.replicate (2 * cs.length) (.list []),?_,?_⟩
 ·have eb:=z3m X (n:=n) (S:=sh0 g0 (.list (cs.map fun _=>AV.bool true)) hands) (r:=[]) (bh:=.none) (d:=.none) (i:=0) (cs:=cs) (.inl ⟨rfl,rfl⟩) ⟨Nat.zero_le _,Nat.zero_le _,Nat.zero_le _,Nat.zero_le _,Nat.zero_le _,Nat.zero_le _,Nat.zero_le _,Nat.zero_le _⟩ (fun x hx=>by cases hx) (by lia)
  rw [show (sh0 g0 (.list (cs.map fun _=>AV.bool true)) hands).adds 0 .none (([]:Hp).length+1) cs=sh1 g0 (.list (cs.map fun _=>AV.bool true)) hands cs from z1p _ _ _ _] at eb
  exact W9 X (h:=[g0.a0,g0.a1,g0.a2,g0.a3,g0.a4,g0.a5,g0.a6,g0.a7,g0.a8]) ok (by lia) h1 h9 eb
 ·have D0:Dy (sh0 g0 (.list (cs.map fun _=>AV.bool true)) hands) [] [] []:=⟨rfl,rfl,(fun i k ps h1 _=>by cases h1),(fun i k ps h1 _=>by cases h1),List.nodup_nil⟩
  have:=D0.adds (i:=0) (d:=.none) (cs:=cs) (o:=.list ((zg 0 cs.length).map AV.int))
  rw [show (([]:Hp).length+1)=1 from rfl,z1p,List.nil_append,List.nil_append,List.nil_append] at this
  exact this
end
noncomputable def Kps (S:Sh) (r:Hp) (S':Sh) (r':Hp):Prop:=∀ (q:Nat) (o:AO),q∉S.mv→q∉S.cu→r[q]? = some o→r'[q]? = some o∧q∉S'.mv∧q∉S'.cu
theorem Kps.trans {S S' S'':Sh} {r r' r'':Hp} (a:Kps S r S' r') (b:Kps S' r' S'' r''):Kps S r S'' r'':=fun q o h1 h2 h3=>let ⟨c,d,e⟩:=a q o h1 h2 h3;b q o d e c
structure Bs (hands:Int) (c k:Nat) (P:List Nat) (S:Sh) (mvs:List (List (Int×Int))) (cus:List (List Int)) (r:Hp):Prop where
 V:Iv S mvs cus
 D:Dy S mvs cus r
 p:∀ q∈P,q<r.length∧q∉S.mv∧q∉S.cu
 hd:S.hands=hands
 bb:S.b.length≤c+5 * k
 bl:S.le.length≤c+4 * k
 bn:S.dn.length≤k
theorem Ok1.tkl {S:Sh} (O:Ok1 S):S.sh.length=(tk S.b S.l).length∧S.sh.length<200:=by
 have h1:S.sh.length=(tk S.b S.l).length:=List.length_map _
 have h2:(tk S.b S.l).length≤S.l.length:=List.length_filter_le (fl S.b) S.l
 refine ⟨h1,?_⟩
 rw [h1]
 exact Nat.lt_of_le_of_lt h2 (O.G.len▸O.G.sm)
theorem Dy.ge {S:Sh} {mvs:List (List (Int×Int))} {cus:List (List Int)} {r:Hp} (D:Dy S mvs cus r) {q:Nat} (h:r.length≤q):q∉S.mv∧q∉S.cu :=
 ⟨fun m=>absurd (D.lt q (List.mem_append_left _ m)) (Nat.not_lt.mpr h),fun m=>absurd (D.lt q (List.mem_append_right _ m)) (Nat.not_lt.mpr h)⟩
theorem Kps.p {S S':Sh} {r r':Hp} {P:List Nat} (K:Kps S r S' r') (p:∀ q∈P,q<r.length∧q∉S.mv∧q∉S.cu):∀ q∈P,q<r'.length∧q∉S'.mv∧q∉S'.cu:=fun q h=>by
 obtain ⟨p1,p2,p3⟩:=p q h
 obtain ⟨a,b⟩:=K q _ p2 p3 (yO p1)
 exact ⟨(yj a).1,b⟩
theorem J5 {a c m k:Nat} (h:a≤c+m * k):a≤c+m * (k+1):=Nat.le_trans h (Nat.add_le_add_left (Nat.mul_le_mul_left m (Nat.le_succ k)) c)
theorem J4 {a c m k j:Nat} (h:a≤c+m * k) (h':j≤m):a+j≤c+m * (k+1):=by rw [Nat.mul_succ,← Nat.add_assoc];exact Nat.add_le_add h h'
section
variable {T:Tab} {okf:Str→Str→Bool} (X:TT T okf) {n:Nat} {S:Sh} {r:Hp} {mvs:List (List (Int×Int))} {cus:List (List Int)} {P:List Nat} {hands:Int} {c k:Nat}
include X
theorem do_ (A:Bs hands c k P S mvs cus r) (hk:c+5 * k<190) {hd:Int} {d:Deed} (d0:0≤hd) (d1:hd<hands) (ok:d.ok S.sh.length) :
  ∃ S' mvs' cus' r',run T (n+7) (.fn "_law_do") [.ref 9,d.av hd] (S.hp r)=.ok (.int S.dn.length) (Sh.hp S' r')∧Bs hands c (k+1) P S' mvs' cus' r'∧Kps S r S' r'∧S'.g0=S.g0∧S'.st=S.st++[true]∧S'.lo=S.lo∧(okT S.le→okT S'.le):=by
 have I:=A.V.I
 obtain ⟨l1,l3⟩:=I.O.tkl
 have d1:hd<S.hands:=by rw [A.hd];exact d1
 have bb:=A.bb
 have bl:=A.bl
 have bn:=A.bn
 have k4:c+4 * k≤c+5 * k:=Nat.add_le_add_left (Nat.mul_le_mul_right k (by decide)) c
 have hs:S.s1.st.length<200:=by
  rw [Xk,I.st]
  exact Nat.lt_of_le_of_lt (Nat.succ_le_succ (Nat.le_trans bn (Nat.le_trans (Nat.le_mul_of_pos_left k (by decide)) (Nat.le_add_left _ _)))) (Nat.lt_of_lt_of_le (Nat.succ_lt_succ hk) (by decide))
 have hb:S.b.length+10<200:=Nat.add_lt_add_right (Nat.lt_of_le_of_lt bb hk) 10
 have he:S.le.length+4<200:=Nat.lt_of_lt_of_le (Nat.add_lt_add_right (Nat.lt_of_le_of_lt (Nat.le_trans bl k4) hk) 4) (by decide)
 have dnl:∀ x:AV,(S.dn++[x]).length≤k+1:=fun x=>by rw [zX];exact Nat.succ_le_succ bn
 rw [yc X.kCk]
 cases d with
 | put p ts =>
  obtain ⟨p0,p1,okt,ne,c4⟩:=ok
  have hb':=WP hb (Nat.le_trans c4 (by decide))
  have he':=WP he c4
  obtain ⟨r',i,q,x,_,_,_,e,D',kp,hq,q',eq',lq',rfl,hq'⟩:=zI3 X (n:=n) I.O I.K A.D I.st d0 d1 p0 (by rw [← l1];exact p1) okt ne (Nat.le_trans c4 (by decide)) hb' he' hs
  have mem:∀ {q':Nat} {f:Nat→Nat} {l:List Nat},q'∈l++(List.range ts.length).map f→(∀ j,q'≠f j)→q'∈l:=fun hm hf=>by
   rcases wc hm with hm | hm
   ·exact hm
   ·obtain ⟨k,_,hk⟩:=List.mem_map.mp hm
    exact absurd hk.symm (hf k)
  have K:Kps S r ({ S.s1.adds i (.int S.dn.length) q ts with b:=yo (S.s1.adds i (.int S.dn.length) q ts) (mvs++List.replicate ts.length []) (cus++List.replicate ts.length []) (S.s1.adds i (.int S.dn.length) q ts).b (zg S.le.length ts.length),dn:=S.dn++[.tup [.int hd,.str "put",.ref (q'+23)]] }:Sh) r':=by
   intro q' o a c h
   have hl:=(yj h).1
   refine ⟨kp q' o a c h,fun hm=>a (mem hm fun j e=>?_),fun hm=>c (mem hm fun j e=>?_)⟩
   ·exact absurd hl (Nat.not_lt.mpr (e▸Nat.le_trans hq (Nat.le_add_right _ _)))
   ·exact absurd hl (Nat.not_lt.mpr (e▸Nat.le_trans hq (Nat.le_trans (Nat.le_add_right _ _) (Nat.le_succ _))))
  have lB:(yo (S.s1.adds i (.int S.dn.length) q ts) (mvs++List.replicate ts.length []) (cus++List.replicate ts.length []) (S.s1.adds i (.int S.dn.length) q ts).b (zg S.le.length ts.length)).length=S.b.length+ts.length:=by
   rw [qO]
   show (S.b++List.replicate ts.length true).length=_
   rw [zX,List.length_replicate]
  refine ⟨_,_,_,r',?_,⟨A.V.put hs hb' he',⟨D'.ml,D'.cl,D'.m,D'.c,D'.nd⟩,K.p A.p,A.hd,?_,?_,dnl _⟩,K,rfl,rfl,rfl,fun h c hc=>(wc hc).elim (h c) (okt c)⟩
  ·refine zO (fr:=[some (.ref 9),some (Deed.av hd (.put p ts)),none,none,none,none,none,none]) rfl rfl (fr':=[some (.ref 9),some (Deed.av hd (.put p ts)),some (.int hd),some (.str "put"),some (.int 0),some (.int 0),some (.int p),some (.str (tx ts))]) ?_
   unfold kCk
   dsimp only
   refine (z7 (Xl (z5 rfl) rfl)).trans ?_
   exact zP ((yM (zb (z5 rfl) rfl zJk)).trans (zP (zo (zC (a:=9) (z5 rfl) rfl YN (ev1 (z5 rfl) (ev1 (z5 rfl) (ev1 (z5 rfl) ev0))) e))))
  ·rw [lB];exact J4 bb (Nat.le_trans c4 (by decide))
  ·show (S.le++ts).length≤_
   rw [zX];exact J4 bl c4
 | cut i j =>
  obtain ⟨i0,i1,j1⟩:=ok
  obtain ⟨r',x,e,D',kp,q',lq',rfl,hq'⟩:=zK1 X (n:=n) I.O I.K A.D I.st A.V.sh_nodup d0 d1 i0 i1 (by rw [← l1];exact j1) hs
  have nd:((S.sh.take j.toNat).drop i.toNat).Nodup:=(A.V.sh_nodup.sublist (List.take_sublist _ _)).sublist (List.drop_sublist _ _)
  have hi:=jv I.O (i:=i.toNat) (j:=j.toNat)
  have K:Kps S r ({ S.s1 with b:=yo S.s1 mvs (yr S.st.length cus ((S.sh.take j.toNat).drop i.toNat)) S.b ((S.sh.take j.toNat).drop i.toNat),dn:=S.dn++[.tup [.int hd,.str "cut",.ref (q'+23)]] }:Sh) r':=fun q o a c h=>⟨kp q o a c h,a,c⟩
  refine ⟨_,_,_,r',?_,⟨A.V.cut nd hi hs,⟨D'.ml,D'.cl,D'.m,D'.c,D'.nd⟩,K.p A.p,A.hd,?_,J5 bl,dnl _⟩,K,rfl,rfl,rfl,id⟩
  ·refine zO (fr:=[some (.ref 9),some (Deed.av hd (.cut i j)),none,none,none,none,none,none]) rfl rfl (fr':=[some (.ref 9),some (Deed.av hd (.cut i j)),some (.int hd),some (.str "cut"),some (.int i),some (.int j),some (.int 0),some (.str "")]) ?_
   unfold kCk
   dsimp only
   refine (z7 (Xl (z5 rfl) rfl)).trans ?_
   refine (z7 ((zN (zb (z5 rfl) rfl zJn)).trans zL)).trans ?_
   exact zP ((yM (zb (z5 rfl) rfl zJo)).trans (zP (zo (zC (a:=9) (z5 rfl) rfl Z8 (ev1 (z5 rfl) (ev1 (z5 rfl) (ev1 (z5 rfl) ev0))) e))))
  ·show (yo _ _ _ _ _).length≤_
   rw [qO];exact J5 bb
 | mov i j p =>
  obtain ⟨i0,i1,j1,j5,p0,p1,hp⟩:=ok
  obtain ⟨r',x,at_,_,_,_,e,D',kp,q',lq',rfl,hq'⟩:=zJ2 X (n:=n) I.O I.K A.D I.st A.V.sh_nodup d0 d1 i0 i1 (by rw [← l1];exact j1) p0 (by rw [← l1];exact p1) hp hs hb j5
  have nd:((S.sh.take j.toNat).drop i.toNat).Nodup:=(A.V.sh_nodup.sublist (List.take_sublist _ _)).sublist (List.drop_sublist _ _)
  have hi:=jv I.O (i:=i.toNat) (j:=j.toNat)
  have l5:((S.sh.take j.toNat).drop i.toNat).length≤5:=by rw [List.length_drop,List.length_take];exact zGj i0 i1 j5
  have lB:(yo S.s1 (yH S.st.length mvs S.b.length ((S.sh.take j.toNat).drop i.toNat)) cus (S.s1.mov at_ ((S.sh.take j.toNat).drop i.toNat)).b ((S.sh.take j.toNat).drop i.toNat)).length=S.b.length+((S.sh.take j.toNat).drop i.toNat).length:=by
   rw [qO]
   show (S.b++List.replicate _ false).length=_
   rw [zX,List.length_replicate]
  have K:Kps S r ({ S.s1.mov at_ ((S.sh.take j.toNat).drop i.toNat) with b:=yo S.s1 (yH S.st.length mvs S.b.length ((S.sh.take j.toNat).drop i.toNat)) cus (S.s1.mov at_ ((S.sh.take j.toNat).drop i.toNat)).b ((S.sh.take j.toNat).drop i.toNat),dn:=S.dn++[.tup [.int hd,.str "move",.ref (q'+23)]] }:Sh) r':=fun q o a c h=>⟨kp q o a c h,a,c⟩
  refine ⟨_,_,_,r',?_,⟨A.V.mov nd hi hs (WP hb (Nat.le_trans l5 (by decide))),⟨D'.ml,D'.cl,D'.m,D'.c,D'.nd⟩,K.p A.p,A.hd,?_,J5 bl,dnl _⟩,K,rfl,rfl,rfl,id⟩
  ·refine zO (fr:=[some (.ref 9),some (Deed.av hd (.mov i j p)),none,none,none,none,none,none]) rfl rfl (fr':=[some (.ref 9),some (Deed.av hd (.mov i j p)),some (.int hd),some (.str "move"),some (.int i),some (.int j),some (.int p),some (.str "")]) ?_
   unfold kCk
   dsimp only
   refine (z7 (Xl (z5 rfl) rfl)).trans ?_
   refine (z7 ((zN (zb (z5 rfl) rfl zJl)).trans zL)).trans ?_
   refine (z7 ((zN (zb (z5 rfl) rfl zJm)).trans zL)).trans ?_
   exact zP (zo (zC (a:=9) (z5 rfl) rfl wK (ev1 (z5 rfl) (ev1 (z5 rfl) (ev1 (z5 rfl) (ev1 (z5 rfl) ev0)))) e))
  ·rw [lB];exact J4 bb l5
end
section
variable {S:Sh} {r:Hp} {mvs:List (List (Int×Int))} {cus:List (List Int)} {P:List Nat} {hands:Int} {c k:Nat}
theorem Bs.grow (A:Bs hands c k P S mvs cus r) (g:Hp) {P':List Nat} (hP:∀ q∈P',q∈P∨(r.length≤q∧q<(r++g).length)):Bs hands c k P' S mvs cus (r++g):=by
 refine ⟨A.V,A.D.grow g,fun q hq=>?_,A.hd,A.bb,A.bl,A.bn⟩
 rcases hP q hq with m | m
 ·obtain ⟨p1,p2⟩:=A.p q m
  exact ⟨by rw [zX];exact Nat.lt_of_lt_of_le p1 (Nat.le_add_right _ _),p2⟩
 ·exact ⟨m.2,A.D.ge m.1⟩
end
set_option genInjectivity false
set_option genSizeOf false
theorem xT {h:Int}:List.lookup ("sign_at" : Str) (fS h)=none:=rfl
theorem JU {h:Int}:List.lookup ("text" : Str) (fS h)=none:=rfl
theorem Xv {h:Int}:List.lookup ("many" : Str) (fS h)=none:=rfl
theorem qx {h:Int}:List.lookup ("last_standing" : Str) (fS h)=none:=rfl
theorem wL {h:Int}:List.lookup ("last_gone" : Str) (fS h)=none:=rfl
section
variable {T:Tab} {okf:Str→Str→Bool} (X:TT T okf) {n:Nat} {S:Sh} {r:Hp} {mvs:List (List (Int×Int))} {cus:List (List Int)}
include X
theorem Wi {i:Int} (h0:0≤i) (h1:i<S.dn.length):run T (n+2) (.meth "Sheet" "need_deed") [.ref 9,.int i] (S.hp r)=.ok .none (S.hp r):=by
 rw [zG X.kAi]
 exact yI (fr:=[some (.ref 9),some (.int i)]) rfl rfl (fr':=[some (.ref 9),some (.int i)]) ((z7 ((zN (yv (zx (b:=true) (yZ (v:=.bool true) (zc (ev1 (z5 rfl) ev0) (yE X)) rfl)) (yv (zx (b:=true) (yi rfl (z5 rfl) (by rw [xV,decide_eq_true h0]) (q8 (a:=20) rfl rfl kS9 rfl rfl) (by rw [yS,decide_eq_true h1]))) qU))).trans zL)).trans zL)
theorem Ww:run T (n+1) (.meth "Sheet" "deeds") [.ref 9] (S.hp r)=.ok (.int S.dn.length) (S.hp r):=by
 rw [zG X.kA5]
 exact zO (fr:=[some (.ref 9)]) rfl rfl (fr':=[some (.ref 9)]) (zP (r:=[]) (zo (q8 (cf:=run T n) (fr:=[some (.ref 9)]) (h:=S.hp r) (a:=20) (ys:=S.dn) rfl rfl kS9 rfl rfl)))
theorem z49 {i:Int} (h0:0≤i) (h1:i<S.dn.length) (hst:S.st.length=S.dn.length) (hs:S.st.length<200):run T (n+3) (.meth "Sheet" "stands") [.ref 9,.int i] (S.hp r)=.ok (.bool (fl S.st i)) (S.hp r):=by
 rw [zG X.kAx]
 exact zO (fr:=[some (.ref 9),some (.int i)]) rfl rfl (fr':=[some (.ref 9),some (.int i)]) ((z7 (zZ (zC (a:=9) (z5 rfl) rfl wJ (ev1 (z5 rfl) ev0) (Wi X (n:=n) h0 h1)))).trans (zP (zo (ya (zR (z5 rfl) rfl z2u) (z5 rfl) (jF (b:=S.st) rfl h0 (by rw [hst];exact h1) (Nat.le_trans (Nat.le_of_lt hs) (by decide)))))))
theorem jh (I:Iw S mvs cus) {p:Nat} {x:Int} (hx:(tk S.b S.l)[p]? = some x):∃ g,run T (n+4) (.meth "Sheet" "sign_at") [.ref 9,.int p] (S.hp r)=.ok (.int (gI S.ow x)) (S.hp (r++g)):=by
 have hl:=(yj hx).1
 obtain ⟨x0,x1⟩:=I.O.G.rng x (List.mem_filter.mp (yq hx)).1
 obtain ⟨g,e⟩:=zGg X (n:=n) (l:=S.l) (b:=S.b) (o0:=S.g0) (o1:=.inst "Sheet" (fS S.hands)) (o2:=S.g2) (r:=S.tl r) (p:=p) (Int.natCast_nonneg _) (Int.ofNat_lt.mpr hl) I.O.G
 rw [Int.toNat_natCast,hx] at e
 have e':run T (n+3) (.meth "Row" "find") [.ref 11,.int p] (S.hp r)=.ok (.int x) (S.hp (r++g)):=e
 refine ⟨g,?_⟩
 rw [zG X.kAr]
 have ho:x.toNat<S.ow.length:=by rw [I.O.ow];lia
 refine zO (fr:=[some (.ref 9),some (.int p)]) rfl rfl (fr':=[some (.ref 9),some (.int p)]) (zP (zo (ya (zR (z5 rfl) rfl kS3) (zC (a:=11) (zR (z5 rfl) rfl kS2) rfl Xw (ev1 (z5 rfl) ev0) e') (Zv (l:=S.ow) rfl x0 ?_ ?_))))
 ·unfold gI;rw [yO ho];rfl
 ·rw [I.O.ow];exact Nat.le_of_lt I.O.G.sm'.2
theorem z5r (K:Ok1 S):∃ g,run T (n+5) (.meth "Sheet" "text") [.ref 9] (S.hp r)=.ok (.str (tx S.cs)) (S.hp (r++g)):=by
 have lsm:=K.G.sm'
 have hsl:S.sh.length<200:=K.tkl.2
 refine ⟨[.list (S.l.map AV.int),.list (S.sh.map AV.int),.list (S.cs.map ch)],?_⟩
 rw [zG X.kBl]
 have es:=WX X (n:=n) (r:=r) K
 have e1:z9 (z6 0) "shown" none [] (run T (n+4)) [some (.ref 9)] (S.hp r)=.ok (.ref (r.length+24)) (S.hp (r++[.list (S.l.map AV.int),.list (S.sh.map AV.int)])):=zC (a:=9) (z5 rfl) rfl YM ev0 es
 have hg:(S.hp (r++[.list (S.l.map AV.int),.list (S.sh.map AV.int)]))[r.length+24]? = some (.list (S.sh.map AV.int)):=by
  show (r++[.list (S.l.map AV.int),.list (S.sh.map AV.int)])[r.length+1]? = _
  rw [zD];rfl
 have ec:=qP AV.int (own:=1) (i:=1) (test:=y8 .And []) (elt:=zn (zH (z6 0) "letters") (z6 1)) (l:=S.sh) (p:=fun _=>true) (f:=fun x=>ch (S.le[x.toNat]?.getD 0)) e1 hg (zU rfl) (Nat.lt_trans hsl (by decide))
  (fun fr' a1 a2 x hx a3=>rfl)
  (fun fr' a1 a2 x hx a3=>by
   have a0:=a2 0 (by decide)
   have c0:=z5 (cf:=run T (n+4)) (h:=S.hp (r++[.list (S.l.map AV.int),.list (S.sh.map AV.int)])) (show fr'[0]? = some (some (.ref 9)) from a0)
   have c1:=z5 (cf:=run T (n+4)) (h:=S.hp (r++[.list (S.l.map AV.int),.list (S.sh.map AV.int)])) a3
   obtain ⟨y0,y1⟩:=K.sh_mem hx
   have h2:=qb y0 y1
   exact ya (zR c0 rfl kS4) c1 (qX rfl y0 (Int.lt_trans y1 (Int.lt_trans (Int.ofNat_lt.mpr K.le) (by decide))) (by show (S.le.map ch)[x.toNat]? = _;rw [List.getElem?_map,yO h2];rfl)))
 rw [List.filter_eq_self.mpr (fun _ _=>rfl)] at ec
 have l1:(S.hp (r++[.list (S.l.map AV.int),.list (S.sh.map AV.int)])).length=r.length+25:=by
  show (r++[AO.list (S.l.map AV.int),.list (S.sh.map AV.int)]).length+23=_
  rw [zX];rfl
 have l2:S.hp (r++[.list (S.l.map AV.int),.list (S.sh.map AV.int)])++[.list (S.sh.map fun x=>ch (S.le[x.toNat]?.getD 0))]=S.hp (r++[.list (S.l.map AV.int),.list (S.sh.map AV.int),.list (S.cs.map ch)]):=by
  unfold Sh.cs
  rw [List.map_map]
  show S.hp ((r++[.list (S.l.map AV.int),.list (S.sh.map AV.int)])++[_])=_
  rw [List.append_assoc];rfl
 rw [l1,l2] at ec
 have hg2:(S.hp (r++[.list (S.l.map AV.int),.list (S.sh.map AV.int),.list (S.cs.map ch)]))[r.length+25]? = some (.list (S.cs.map fun c=>AV.str ⟨#[c]⟩)):=by
  show (r++[.list (S.l.map AV.int),.list (S.sh.map AV.int),.list (S.cs.map ch)])[r.length+2]? = _
  rw [zD];rfl
 have ej:=Qs (sep := "") hg2 QR (by
  rw [QP]
  show S.cs.length+_ * 0≤_
  rw [Nat.mul_zero,show S.cs.length=S.sh.length from List.length_map _]
  exact Nat.le_of_lt (Nat.lt_trans hsl (by decide)))
 rw [YV] at ej
 exact zO (fr:=[some (.ref 9)]) rfl rfl (zP (zo (z5v (h1:=S.hp r) rfl (ev1 ec ev0) ej)))
theorem z2i:run T (n+1) (.meth "Sheet" "many") [.ref 9] (S.hp r)=.ok (.int S.le.length) (S.hp r):=by
 rw [zG X.kBi]
 exact zO (fr:=[some (.ref 9)]) rfl rfl (fr':=[some (.ref 9)]) (zP (r:=[]) (zo (q8 (cf:=run T n) (fr:=[some (.ref 9)]) (h:=S.hp r) (a:=15) (ys:=S.le.map ch) rfl rfl kS4 rfl (List.length_map _))))
end
noncomputable abbrev cNo (i j:Nat) (w:Str):XE:=xB (z6 i) 1 (.one j) (y8 .And [(zj (zK (zI (some (.fn "_law_refusal"))) [(z6 j)]) [.NotEq] [(xG [(z8 (.str w))])])]) (z6 j)
noncomputable def q_law_word (okf:Str→Str→Bool) (isx:Str→Str→Option Bool):Fn:=⟨1,2,(zJ [(zA okf (.names (.one 1)) (zT [(xc isx (zI (some (.bi .isinstance))) [(z6 0),(zI (some (.cls "BadText")))]),(xc isx (zI (some (.bi .isinstance))) [(z6 0),(zI (some (.cls "NoPlace")))]),(xc isx (zI (some (.bi .isinstance))) [(z6 0),(zI (some (.cls "NoSeat")))]),(xc isx (zI (some (.bi .isinstance))) [(z6 0),(zI (some (.cls "NoHand")))])])),(zA okf (.names (.one 1)) (zV .Add (z6 1) (zT [(xc isx (zI (some (.bi .isinstance))) [(z6 0),(zI (some (.cls "NoDeed")))]),(xc isx (zI (some (.bi .isinstance))) [(z6 0),(zI (some (.cls "NoMark")))])]))),(sIf (y8 .Or [(yn (yT (xc isx (zI (some (.bi .isinstance))) [(z6 0),(zI (some (.bi .valErr)))]))),(zj (z9 (z6 1) "count" (some .count) [(z8 (.bool true))]) [.NotEq] [(z8 (.int 1))])]) (zJ [(zi (xG [(z8 (.str "other"))]))]) (zJ [])),(zi (xG [(zn (zT [(z8 (.str "text")),(z8 (.str "place")),(z8 (.str "seat")),(z8 (.str "hand")),(z8 (.str "deed")),(z8 (.str "mark"))]) (z9 (z6 1) "index" (some .index) [(z8 (.bool true))]))]))])⟩
noncomputable def kBd (okf:Str→Str→Bool) (exm:Str→Str→Bool):Fn:=⟨1,2,(zJ [(YB (fun c=>exm c "StickError") "_law_word" (zJ [(zM (zK (z6 0) []))])),(zi (xG [(z8 (.str "none"))]))])⟩
noncomputable def kCg (okf:Str→Str→Bool):Fn:=⟨2,3,(zJ [(zA okf (.names (.one 2)) (zT [(Zo (z8 (.int 1))),(z6 1),(zV .Add (zV .Add (z6 1) (z8 (.int 1))) (zV .Mod (z6 0) (zV .Pow (z8 (.int 10)) (z8 (.int 12))))),(z8 (.bool true)),(z8 .none),(z8 (.str "0")),(zT [(z8 (.int 0))]),wZ,(z8 (.bool false)),(zV .Sub (Zo (z8 (.int 1))) (zV .Mod (z6 0) (zV .Pow (z8 (.int 10)) (z8 (.int 12))))),(xG [(z8 (.int 0))])])),(zi (zn (z6 2) (zV .Mod (zV .FloorDiv (z6 0) (z8 (.int 7))) (z8 (.int 11)))))])⟩
noncomputable def kB2 (okf:Str→Str→Bool) (L:Nat→LamS):Fn:=⟨1,7,(wG [3,4,5,6] (zJ [(zA okf (.cell 5) (zK (zI (some (.cls "Row"))) [])),(xz (.one 1) (zK (zI (some (.bi .range))) [(z8 (.int 3))]) false (zJ [(zM (z9 (zF 5) "take" none [(z9 (zF 5) "add" none [(z8 .none)]),(wV (z6 1) [.Lt] [(z8 (.int 2))])]))])),(zA okf (.cell 6) (zK (zI (some (.fn "_law_odd"))) [(z6 0),(z8 (.int 3))])),(zA okf (.cell 3) (cIf (zj (zF 6) [.Is] [(z8 .none)]) (z8 (.int 0)) (zF 6))),(zA okf (.names (.one 2)) (zT [(zy (L 0) [5,6] 1),(zy (L 1) [5,6] 1),(zy (L 2) [5,6] 1)])),(zA okf (.names (.one 2)) (zV .Add (z6 2) (zT [(zy (L 3) [5,6] 1),(zy (L 4) [5,6] 1)]))),(sIf (zj (zF 6) [.IsNot] [(z8 .none)]) (zJ [(zM (z9 (z6 2) "append" (some .append) [(zy (L 5) [3,5] 1)]))]) (zJ [])),(zA okf (.cell 4) (zK (zI (some (.fn "_law_odd"))) [(z6 0),(z8 (.int 2))])),(sIf (zj (cNo 2 7 "seat") [.NotEq] [(zT [])]) (zJ [(zi (z8 (.bool false)))]) (zJ [])),(zi (wa .And [(wV (zK (zI (some (.fn "_law_refusal"))) [(zy (L 6) [4,5] 1)]) [.Eq] [(xG [(z8 (.str "place"))])]),(wV (z9 (zF 5) "order" none []) [.Eq] [(zT [(z8 (.int 2)),(z8 (.int 1)),(z8 (.int 0))])]),(wV (z9 (zF 5) "all_taken" none []) [.Eq] [(z8 (.int 2))])]))]))⟩
noncomputable def dA (okf:Str→Str→Bool) (L:Nat→LamS) (r:List XS):List XS:=(zA okf (.names (.one 3)) (zT [(zy (L 7) [6,7,0,9] 2),(zy (L 8) [4,5,6,0] 2)]))::(zA okf (.names (.one 3)) (zV .Add (z6 3) (zT [(zy (L 9) [4,5,6,7,0] 2),(zy (L 10) [6,0] 2)])))::(zA okf (.names (.one 3)) (zV .Add (z6 3) (zT [(zy (L 11) [6,0] 2),(zy (L 12) [6,0] 2)])))::(zM (z9 (z6 3) "append" (some .append) [(zy (L 13) [6,0] 2)]))::r
noncomputable def dB (okf:Str→Str→Bool) (L:Nat→LamS) (r:List XS):List XS:=(zA okf (.names (.one 3)) (zT [(zy (L 14) [7,0,9] 2),(zy (L 15) [4,0,8] 2)]))::(zA okf (.names (.one 3)) (zV .Add (z6 3) (zT [(zy (L 16) [5,0] 2),(zy (L 17) [5,0] 2)])))::(zA okf (.names (.one 3)) (zV .Add (z6 3) (zT [(zy (L 18) [4,7,0,8] 2),(zy (L 19) [4,0] 2)])))::(zA okf (.names (.one 3)) (zV .Add (z6 3) (zT [(zy (L 20) [0,8] 2),(zy (L 21) [0] 2)])))::(sIf (zj (zF 8) [.Gt] [(z8 (.int 1))]) (zJ [(zM (z9 (z6 3) "append" (some .append) [(zy (L 22) [0,8] 2)])),(zM (z9 (z6 3) "append" (some .append) [(zy (L 23) [7,0,8] 2)])),(zM (z9 (z6 3) "append" (some .append) [(zy (L 24) [0] 2)]))]) (zJ []))::r
noncomputable def kBz (okf:Str→Str→Bool) (L:Nat→LamS):Fn:=⟨3,10,(wG [0,4,5,6,7,8,9] (zJ ((zA okf (.cell 8) (z9 (zF 0) "size" none []))::(zA okf (.cell 6) (zK (zI (some (.fn "_law_odd"))) [(z6 1),(z6 2)]))::(zA okf (.cell 7) (zK (zI (some (.fn "_law_odd"))) [(z6 1),(zV .Add (zF 8) (z8 (.int 1)))]))::(zA okf (.cell 5) (zK (zI (some (.fn "_law_odd"))) [(z6 1),(zV .Add (zF 8) (z8 (.int 1)))]))::(zA okf (.cell 4) (zK (zI (some (.fn "_law_odd"))) [(z6 1),(zF 8)]))::(zA okf (.cell 9) (zn (zT [(z8 (.str "")),(z8 .none),(z8 (.int 5)),(zT [(z8 (.str "a"))]),(z8 (.str "\t")),(z8 (.str "a\tb")),(z8 (.bool true))]) (zV .Mod (zV .FloorDiv (z6 1) (z8 (.int 7))) (z8 (.int 7)))))::dA okf L ((sIf (zj (cNo 3 10 "hand") [.NotEq] [(zT [])]) (zJ [(zi (z8 (.bool false)))]) (zJ []))::dB okf L ((sIf (zj (cNo 3 10 "place") [.NotEq] [(zT [])]) (zJ [(zi (z8 (.bool false)))]) (zJ []))::(zi (wV (zK (zI (some (.fn "_law_refusal"))) [(zy (L 25) [0,8,9] 2)]) [.Eq] [(xG [(z8 (.str "text"))])]))::[])))))⟩
noncomputable def nA (okf:Str→Str→Bool) (L:Nat→LamS) (r:List XS):List XS:=(zA okf (.names (.one 2)) (zT [(zy (L 26) [0,5] 3),(zy (L 27) [0,5] 3),(zy (L 28) [0,5] 3)]))::(sIf (zj (z9 (zF 0) "many" none []) [.Gt] [(z8 (.int 0))]) (zJ [(zA okf (.names (.one 2)) (zV .Add (z6 2) (zT [(zy (L 29) [0,5] 3),(zy (L 30) [0,5] 3)])))]) (zJ []))::r
noncomputable def kBf (okf:Str→Str→Bool) (L:Nat→LamS):Fn:=⟨2,6,(wG [0,3,4,5] (zJ ((zA okf (.cell 5) (zK (zI (some (.fn "_law_odd"))) [(z6 1),(z9 (zF 0) "many" none [])]))::(zA okf (.cell 3) (zK (zI (some (.fn "_law_odd"))) [(z6 1),(z9 (zF 0) "deeds" none [])]))::nA okf L ((sIf (zj (cNo 2 6 "seat") [.NotEq] [(zT [])]) (zJ [(zi (z8 (.bool false)))]) (zJ []))::(zA okf (.names (.one 2)) (zT [(zy (L 31) [3,0] 3),(zy (L 32) [3,0] 3),(zy (L 33) [3,0] 3)]))::(zM (z9 (z6 2) "append" (some .append) [(zy (L 34) [3,0] 3)]))::(xz (.cell 4) (zK (zI (some (.bi .range))) [(z9 (zF 0) "deeds" none [])]) false (zJ [(sIf (zj (zK (zI (some (.fn "_law_refusal"))) [(zy (L 35) [4,0] 3)]) [.NotEq] [(xG [(z8 (.str "deed"))])]) (zJ [(zi (z8 (.bool false)))]) (zJ []))]))::(zi (wV (cNo 2 6 "deed") [.Eq] [(zT [])]))::[]))))⟩
noncomputable def mA (okf:Str→Str→Bool) (L:Nat→LamS) (r:List XS):List XS:=(zA okf (.names (.one 5)) (zT [(zy (L 36) [6,1] 4),(zy (L 37) [6,11,2] 4),(zy (L 38) [7,2] 4)]))::(zM (z9 (z6 5) "append" (some .append) [(zy (L 39) [6,2] 4)]))::r
noncomputable def mB (okf:Str→Str→Bool) (L:Nat→LamS) (r:List XS):List XS:=(zA okf (.names (.one 5)) (zT [(zy (L 40) [1,9] 4),(zy (L 41) [1,9] 4),(zy (L 42) [1,9] 4)]))::(zA okf (.names (.one 5)) (zV .Add (z6 5) (zT [(zy (L 43) [10,2] 4),(zy (L 44) [10,2] 4)])))::r
noncomputable def kB0 (okf:Str→Str→Bool) (L:Nat→LamS):Fn:=⟨5,12,(wG [1,2,6,7,8,9,10,11] (zJ ((zA okf (.cell 11) (z9 (z6 0) "size" none []))::(zA okf (.cell 6) (zK (zI (some (.fn "_law_odd"))) [(z6 3),(zF 11)]))::(zA okf (.cell 7) (zK (zI (some (.fn "_law_odd"))) [(z6 3),(zV .Add (zF 11) (z8 (.int 1)))]))::(zA okf (.cell 8) (zK (zI (some (.fn "_law_odd"))) [(z6 3),(z6 4)]))::(zA okf (.cell 9) (zK (zI (some (.fn "_law_odd"))) [(z6 3),(zK (zI (some (.bi .len))) [(z9 (zF 1) "numbers" none [])])]))::(zA okf (.cell 10) (zK (zI (some (.fn "_law_odd"))) [(z6 3),(zK (zI (some (.bi .len))) [(z9 (zF 2) "numbers" none [])])]))::mA okf L ((sIf (zj (cNo 5 12 "place") [.NotEq] [(zT [])]) (zJ [(zi (z8 (.bool false)))]) (zJ []))::mB okf L ((sIf (zj (cNo 5 12 "mark") [.NotEq] [(zT [])]) (zJ [(zi (z8 (.bool false)))]) (zJ []))::(zi (wV (zK (zI (some (.fn "_law_refusal"))) [(zy (L 45) [6,8,1] 4)]) [.Eq,.Eq] [(xG [(z8 (.str "hand"))]),(zK (zI (some (.fn "_law_refusal"))) [(zy (L 46) [8,1] 4)])]))::[])))))⟩
noncomputable def zJ6 (okf:Str→Str→Bool) (L:Nat→LamS):List XS:=[(zA okf (.cell 9) (zn (zT [(z8 (.int 0)),(z8 (.int 10)),(Zo (z8 (.int 1))),(z8 (.bool true)),(z8 .none),(z8 (.str "2")),(zT [(z8 (.int 1))]),(zV .Pow (z8 (.int 10)) (z8 (.int 9)))]) (zV .Mod (zV .FloorDiv (z6 4) (z8 (.int 19))) (z8 (.int 8))))),(zA okf (.cell 8) (zn (zT [(z8 .none),(z8 (.int 5)),(zT [(z8 (.str "a"))]),(z8 (.str "\t")),(z8 (.str "a\tb")),(z8 (.bool true)),wZ]) (zV .Mod (zV .FloorDiv (z6 4) (z8 (.int 23))) (z8 (.int 7))))),(sIf (y8 .Or [(zj (zK (zI (some (.fn "_law_refusal"))) [(zy (L 47) [8,9] 0)]) [.NotEq] [(xG [(z8 (.str "text"))])]),(zj (zK (zI (some (.fn "_law_refusal"))) [(zy (L 48) [9] 0)]) [.NotEq] [(xG [(z8 (.str "hand"))])])]) (zJ [(zi (z8 (.bool false)))]) (zJ [])),(zi (wV (zK (zI (some (.fn "_law_refusal"))) [(zy (L 49) [] 0)]) [.Eq,.Eq] [(xG [(z8 (.str "deed"))]),(zK (zI (some (.fn "_law_refusal"))) [(zy (L 50) [10] 0)])]))]
noncomputable def zJ5 (okf:Str→Str→Bool) (L:Nat→LamS):List XS:=(zA okf (.names (.one 5)) (zK (zI (some (.cls "Marks"))) [(zF 10)]))::(zA okf (.names (.one 6)) (zK (zI (some (.cls "Threads"))) [(zF 10)]))::(sIf (zj (z9 (zF 10) "size" none []) [.Gt] [(z8 (.int 0))]) (zJ [(zM (z9 (z6 5) "stick" none [(z8 (.int 0)),(z8 (.int 0))])),(zM (z9 (z6 6) "tie" none [(z8 (.int 0)),(z9 (zF 10) "size" none [])]))]) (zJ []))::(zA okf (.names (.one 4)) (zK (zI (some (.fn "_law_mixed"))) [(zK (zI (some (.fn "_law_cell_at"))) [(z6 0),(z8 (.int 3))]),(z8 (.int 5))]))::(zA okf (.names (.one 7)) (zT [(z9 (zF 10) "text" none []),(z9 (zF 10) "deeds" none []),(z9 (zF 10) "many" none []),(z9 (zF 10) "shown" none []),(z9 (z6 5) "numbers" none []),(z9 (z6 6) "numbers" none [])]))::(sIf (y8 .Or [(yn (yT (zK (zI (some (.fn "_law_rows"))) [(z6 4)]))),(yn (yT (zK (zI (some (.fn "_law_deeds"))) [(zF 10),(zV .FloorDiv (z6 4) (z8 (.int 11))),(z6 2)]))),(yn (yT (zK (zI (some (.fn "_law_numbers"))) [(zF 10),(zV .FloorDiv (z6 4) (z8 (.int 13)))])))]) (zJ [(zi (z8 (.bool false)))]) (zJ []))::(sIf (yn (yT (zK (zI (some (.fn "_law_marks"))) [(zF 10),(z6 5),(z6 6),(zV .FloorDiv (z6 4) (z8 (.int 17))),(z6 2)]))) (zJ [(zi (z8 (.bool false)))]) (zJ []))::(sIf (zj (z6 7) [.NotEq] [(zT [(z9 (zF 10) "text" none []),(z9 (zF 10) "deeds" none []),(z9 (zF 10) "many" none []),(z9 (zF 10) "shown" none []),(z9 (z6 5) "numbers" none []),(z9 (z6 6) "numbers" none [])])]) (zJ [(zi (z8 (.bool false)))]) (zJ []))::(sIf (y8 .Or [(zj (z9 (zF 10) "put" none [(z8 (.int 0)),(z8 (.int 0)),(z8 (.str "z"))]) [.NotEq] [(zn (z6 7) (z8 (.int 1)))]),(zj (z9 (zF 10) "text" none []) [.NotEq] [(zV .Add (z8 (.str "z")) (zn (z6 7) (z8 (.int 0))))]),(zj (z9 (zF 10) "sign_at" none [(z8 (.int 0))]) [.NotEq] [(zn (z6 7) (z8 (.int 2)))])]) (zJ [(zi (z8 (.bool false)))]) (zJ []))::zJ6 okf L
noncomputable def kCp (okf:Str→Str→Bool) (L:Nat→LamS):Fn:=⟨1,11,(wG [8,9,10] (zJ ((zA okf (.names (.one 1)) (zK (zI (some (.fn "_law_text_by"))) [(zK (zI (some (.fn "_law_cell_at"))) [(z6 0),(z8 (.int 1))]),(zV .Mod (zK (zI (some (.fn "_law_size_by"))) [(zK (zI (some (.fn "_law_cell_at"))) [(z6 0),(z8 (.int 0))])]) (z8 (.int 20)))]))::(zA okf (.names (.one 2)) (zV .Add (z8 (.int 1)) (zV .Mod (zK (zI (some (.fn "_law_cell_at"))) [(z6 0),(z8 (.int 2))]) (z8 (.int 9)))))::(zA okf (.cell 10) (zK (zI (some (.cls "Sheet"))) [(z6 1),(z6 2)]))::(xz (.many [3,4]) (Ym (z6 0) (z8 (.int 5)) (z8 (.int 9))) true (zJ [(zM (zK (zI (some (.fn "_law_do"))) [(zF 10),(zK (zI (some (.fn "_law_deed_by"))) [(zK (zI (some (.fn "_law_mixed"))) [(z6 4),(z6 3)]),(z9 (zF 10) "size" none []),(z6 2)])]))]))::zJ5 okf L)))⟩
noncomputable def zH9:List XE:=[yL 2 (z9 (zF 0) "take" none [(zF 1),(z8 (.bool true))]),yL 2 (z9 (zF 0) "is_taken" none [(zF 1)]),yL 2 (z9 (zF 0) "ahead" none [(zF 1)]),yL 2 (z9 (zF 0) "is_ahead" none [(zF 1),(z8 (.int 0))]),yL 2 (z9 (zF 0) "is_ahead" none [(z8 (.int 1)),(zF 1)]),yL 2 (z9 (zF 1) "add" none [(zF 0)]),yL 2 (z9 (zF 1) "find" none [(zF 0)]),yL 4 (z9 (zF 2) "put" none [(zF 0),(zF 1),(zF 3)]),yL 4 (z9 (zF 3) "cut" none [(zF 2),(zF 0),(zF 1)]),yL 5 (z9 (zF 4) "move" none [(zF 2),(zF 0),(zF 1),(zF 3)]),yL 2 (zK (zI (some (.fn "undo"))) [(zF 1),(zF 0)]),yL 2 (zK (zI (some (.fn "redo"))) [(zF 1),(zF 0)]),yL 2 (z9 (zF 1) "last_standing" none [(zF 0)]),yL 2 (z9 (zF 1) "last_gone" none [(zF 0)]),yL 3 (z9 (zF 1) "put" none [(z8 (.int 0)),(zF 0),(zF 2)]),yL 3 (z9 (zF 1) "cut" none [(z8 (.int 0)),(zF 0),(zF 2)]),yL 2 (z9 (zF 1) "cut" none [(z8 (.int 0)),(z8 (.int 0)),(zF 0)]),yL 2 (z9 (zF 1) "move" none [(z8 (.int 0)),(z8 (.int 0)),(zF 0),(z8 (.int 0))]),yL 4 (z9 (zF 2) "move" none [(z8 (.int 0)),(zF 0),(zF 3),(zF 1)]),yL 2 (z9 (zF 1) "sign_at" none [(zF 0)]),yL 2 (z9 (zF 0) "cut" none [(z8 (.int 0)),(zF 1),(zF 1)]),yL 1 (z9 (zF 0) "move" none [(z8 (.int 0)),(z8 (.int 0)),(z8 (.int 0)),(z8 (.int 0))]),yL 2 (z9 (zF 0) "move" none [(z8 (.int 0)),(z8 (.int 0)),(zF 1),(z8 (.int 1))]),yL 3 (z9 (zF 1) "move" none [(z8 (.int 0)),(z8 (.int 0)),(zF 2),(zF 0)]),yL 1 (z9 (zF 0) "cut" none [(z8 (.int 0)),(z8 (.int 1)),(z8 (.int 1))]),yL 3 (z9 (zF 0) "put" none [(z8 (.int 0)),(zF 1),(zF 2)]),yL 2 (z9 (zF 0) "letter" none [(zF 1)]),yL 2 (z9 (zF 0) "place_of" none [(zF 1)]),yL 2 (z9 (zF 0) "is_ahead" none [(zF 1),(zF 1)]),yL 2 (z9 (zF 0) "is_ahead" none [(z8 (.int 0)),(zF 1)]),yL 2 (z9 (zF 0) "is_ahead" none [(zF 1),(z8 (.int 0))]),yL 2 (z9 (zF 1) "deed" none [(zF 0)]),yL 2 (z9 (zF 1) "stands" none [(zF 0)]),yL 2 (z9 (zF 1) "take_back" none [(zF 0)]),yL 2 (z9 (zF 1) "do_again" none [(zF 0)]),yL 2 (z9 (zF 1) "do_again" none [(zF 0)]),yL 2 (z9 (zF 1) "stick" none [(z8 (.int 0)),(zF 0)]),yL 3 (z9 (zF 2) "tie" none [(zF 0),(zF 1)]),yL 2 (z9 (zF 1) "tie" none [(z8 (.int 0)),(zF 0)]),yL 2 (z9 (zF 1) "over" none [(zF 0)]),yL 2 (z9 (zF 0) "drop" none [(zF 1)]),yL 2 (z9 (zF 0) "sign" none [(zF 1)]),yL 2 (z9 (zF 0) "told" none [(zF 1)]),yL 2 (z9 (zF 1) "drop" none [(zF 0)]),yL 2 (z9 (zF 1) "told" none [(zF 0)]),yL 3 (z9 (zF 2) "stick" none [(zF 1),(zF 0)]),yL 2 (z9 (zF 1) "of" none [(zF 0)]),yL 2 (zK (zI (some (.cls "Sheet"))) [(zF 0),(zF 1)]),yL 1 (zK (zI (some (.cls "Sheet"))) [(z8 (.str "a")),(zF 0)]),yL 0 (zK (zI (some (.fn "undo"))) [(zK (zI (some (.cls "Sheet"))) [(z8 (.str "a")),(z8 (.int 1))]),(z8 (.int 0))]),yL 1 (zK (zI (some (.fn "redo"))) [(zF 0),(z8 (.int 0))])]
noncomputable def qL:List Str:=List.replicate 7 ("_law_rows" : Str)++List.replicate 19 ("_law_deeds" : Str)++List.replicate 10 ("_law_numbers" : Str)++List.replicate 11 ("_law_marks" : Str)++List.replicate 4 ("law" : Str)
structure TL (T:Tab) (okf exm:Str→Str→Bool) (isx:Str→Str→Option Bool) (L:Nat→LamS):Prop where
 tt:TT T okf
 exm_:["BadText", "NoPlace", "NoSeat", "NoHand", "NoDeed", "NoMark"].all (fun c=>exm c "StickError")=true
 isx_:["BadText", "NoPlace", "NoSeat", "NoHand", "NoDeed", "NoMark"].all (fun c=>isx c "" == some true && ["BadText", "NoPlace", "NoSeat", "NoHand", "NoDeed", "NoMark"].all fun d=>isx c d == some (c == d))=true
 q_law_word:T.word "_law_word" = some (q_law_word okf isx)
 kBd:T.what "_law_refusal" = some (.fn (kBd okf exm))
 kCg:T.what "_law_odd" = some (.fn (kCg okf))
 kB2:T.what "_law_rows" = some (.fn (kB2 okf L))
 kBz:T.what "_law_deeds" = some (.fn (kBz okf L))
 kBf:T.what "_law_numbers" = some (.fn (kBf okf L))
 kB0:T.what "_law_marks" = some (.fn (kB0 okf L))
 kCp:T.what "law" = some (.fn (kCp okf L))
 lams:(List.range 51).map (fun k=>T.lam (L k))=zH9.map some
 qs:(List.range 51).map (fun k=>(L k).q)=qL
theorem TL.lam {T:Tab} {okf exm:Str→Str→Bool} {isx:Str→Str→Option Bool} {L:Nat→LamS} (X:TL T okf exm isx L) (k:Nat) {x:XE} (h:zH9[k]? = some x) (hk:k<51:=by decide):T.lam (L k)=some x:=by
 have e:=congrArg (fun l=>l[k]?) X.lams
 have e:((List.range 51).map (fun k=>T.lam (L k)))[k]? = (zH9.map some)[k]? := e
 rw [List.getElem?_map,List.getElem?_range hk,List.getElem?_map,h] at e
 exact Option.some.inj e
theorem TL.q {T:Tab} {okf exm:Str→Str→Bool} {isx:Str→Str→Option Bool} {L:Nat→LamS} (X:TL T okf exm isx L) (k:Nat) {x:Str} (h:qL[k]? = some x) (hk:k<51:=by decide):(L k).q=x:=by
 have e:=congrArg (fun l=>l[k]?) X.qs
 have e:((List.range 51).map (fun k=>(L k).q))[k]? = qL[k]? := e
 rw [List.getElem?_map,List.getElem?_range hk,h] at e
 exact Option.some.inj e
end Mine.LS
end
section
set_option genInjectivity false
set_option genSizeOf false
namespace Mine
open PySem
section
variable {cf:CF} {fr:AFr} {h h1 h2 h3:Hp} {x y o i f:XE} {xs:List XE} {v w:AV} {vs:List AV} {a j:Nat} {okf:Str→Str→Bool} {c:Str} {t:XT} {s:XS} {r:List XS}
theorem zE (e:fr[j]? = some (some (.ref a))) (ha:h[a]? = some (.cell (some v))):zF j cf fr h=.ok v h:=by
 unfold zF wC wy
 rw [e]
 show Out.of (match h[a]? with | some (.cell v)=>some v | _=>none).join h=_
 rw [ha];rfl
theorem qT {u:Option AV} (e:x cf fr h=.ok v h1) (ej:fr[j]? = some (some (.ref a))) (ha:h1[a]? = some (.cell u)) (hh:h1.set a (.cell (some v))=h2):zA okf (.cell j) x cf fr h=.ok .next fr h2:=by
 unfold zA
 rw [e]
 show (match qG fr h1 j v with | some h₂=>OS.ok .next fr h₂ | none=>.stuck)=_
 unfold qG wC wy
 rw [ej]
 show (match (match h1[a]? with | some (.cell v)=>some v | _=>none).map (fun _=>h1.set a (.cell (some v))) with | some h₂=>OS.ok .next fr h₂ | none=>.stuck)=_
 rw [ha,← hh];rfl
theorem zq {l:LamS} {is cs:List Nat} {ix:Nat} (ht:h[ix]? = some (.tab l.q)) (hc:yd (wC fr) is=some cs):zy l is ix cf fr h=.ok (.lam l cs) h:=by
 unfold zy JF
 rw [ht]
 show Out.of (if l.q=l.q then _ else none) h=_
 rw [if_pos rfl,hc];rfl
theorem z4u {l:LamS} {cs:List Nat} {res:Out AV} (e:f cf fr h=.ok (.lam l cs) h1) (ec:cf (.lam l) (cs.map AV.ref) h1=res):zK f [] cf fr h=res:=by
 unfold zK
 rw [e];exact ec
theorem We {xs' ys:List AV} {b:Nat} (e:x cf fr h=.ok (.ref a) h1) (e':y cf fr h1=.ok (.ref b) h2) (ha:h2[a]? = some (.list xs')) (hb:h2[b]? = some (.list ys)) (z:xs'.length+ys.length≤small):zV .Add x y cf fr h=.ok (.ref h2.length) (h2++[.list (xs'++ys)]):=by
 refine xI e e' ?_
 show ofP ((y7 h2 a).bind fun xs=>(y7 h2 b).bind fun ys=>if xs.length+ys.length≤small then some (.ref h2.length,h2++[.list (xs++ys)]) else none)=_
 rw [YR ha]
 show ofP ((y7 h2 b).bind fun ys=>if xs'.length+ys.length≤small then some (.ref h2.length,h2++[.list (xs'++ys)]) else none)=_
 rw [YR hb]
 show ofP (if _ then _ else _)=_
 rw [if_pos z];rfl
theorem zp (e:x cf fr h=.exc c h1):zM x cf fr h=.exc false c fr h1:=by unfold zM;rw [e];rfl
theorem z20 (e:x cf fr h=.exc c h1):zi x cf fr h=.exc false c fr h1:=by unfold zi;rw [e];rfl
theorem Xm {t:NTgt} (e:x cf fr h=.exc c h1):zA okf (.names t) x cf fr h=.exc false c fr h1:=by unfold zA;rw [e];rfl
theorem z1z (e:x cf fr h=.exc c h1):yT x cf fr h=.exc c h1:=by unfold yT;rw [e];rfl
theorem zGw (e:t cf fr h=.exc c h1):yn t cf fr h=.exc c h1:=by unfold yn;rw [e];rfl
theorem zJ9 {s':XS} (e:t cf fr h=.exc c h1):sIf t s s' cf fr h=.exc false c fr h1:=by unfold sIf;rw [e];rfl
theorem zm {nw:Bool} {fr1:AFr} (e:s cf fr h=.exc nw c fr1 h1):zJ (s::r) cf fr h=.exc nw c fr1 h1:=by
 show (match s cf fr h with | .ok .next fr₁ h₁=>zJ r cf fr₁ h₁ | o=>o)=_
 rw [e]
theorem yN {s':XS} (e:t cf fr h=.ok true h1):sIf t (zJ [yh c]) s' cf fr h=.exc true c fr h1:=by unfold sIf;rw [e];rfl
theorem zY {F:Fn} {args:List AV} {fr fr':AFr} {nw:Bool} (hn:args.length=F.np) (hf:args.map some++List.replicate (F.nl - F.np) none=fr) (e:F.body cf fr h=.exc nw c fr' h1):yW F cf args h=.exc c h1:=by
 unfold yW;rw [if_pos hn,hf,e]
theorem zJy (e:x cf fr h=.exc c h1):evs (x::xs) cf fr h=.exc c h1:=by
 show Out.bind (x cf fr h) _=_
 rw [e];rfl
theorem zGx (e:o cf fr h=.ok v h1) (e':i cf fr h1=.exc c h2):zn o i cf fr h=.exc c h2:=by
 unfold zn
 rw [e]
 show Out.bind (i cf fr h1) _=_
 rw [e'];rfl
theorem wH {ops:List CmpOp} {rs:List XE} {b:Bool} (e:zj x ops rs cf fr h=.ok b h1):wV x ops rs cf fr h=.ok (.bool b) h1:=by unfold wV;rw [e];rfl
theorem zGz (e:t cf fr h=.ok true h1) {res:Out AV} (e':x cf fr h1=res):cIf t x y cf fr h=res:=by unfold cIf;rw [e];exact e'
theorem zH0 (e:t cf fr h=.ok false h1) {res:Out AV} (e':y cf fr h1=res):cIf t x y cf fr h=res:=by unfold cIf;rw [e];exact e'
theorem z21 {k:Int} (e:x cf fr h=.ok (.int k) h1):Zo x cf fr h=.ok (.int (-k)) h1:=by unfold Zo;rw [e];rfl
end
noncomputable def cfr:List Nat→AFr→Nat→AFr×Hp
 | [],fr,_=>(fr,[])
 | i::is,fr,n=>((cfr is (fr.set i (some (.ref n))) (n+1)).1,.cell (fr[i]?).join::(cfr is (fr.set i (some (.ref n))) (n+1)).2)
theorem Yj:∀ (is:List Nat) (fr:AFr) (h:Hp),yu is fr h=((cfr is fr h.length).1,h++(cfr is fr h.length).2)
 | [],fr,h=>by show (fr,h)=(fr,h++[]);rw [List.append_nil]
 | i::is,fr,h=>by
  show yu is (fr.set i (some (.ref h.length))) (h++[.cell (fr[i]?).join])=_
  rw [Yj is,zX,List.append_assoc];rfl
theorem jm {is:List Nat} {b:XS} {cf:CF} {fr fr1:AFr} {h g:Hp} {m:Nat} {res:OS} (hm:h.length=m) (e:cfr is fr m=(fr1,g)) (eb:b cf fr1 (h++g)=res):wG is b cf fr h=res:=by
 unfold wG
 rw [Yj,hm,e];exact eb
theorem yA {α:Type} (g l:List α) (k:Nat) (x:α):(g++l).set (g.length+k) x=g++l.set k x:=by
 rw [List.set_append,if_neg (Nat.not_lt.mpr (Nat.le_add_right _ _)),Nat.add_sub_cancel_left]
theorem zW {T:Tab} {n w:Nat} {l:LamS} {x:XE} {args:List AV} {h:Hp} (e:T.lam l=some (yL w x)) (hw:args.length=w):run T (n+1) (.lam l) args h=x (run T n) (args.map some) h:=by
 show (match T.lam l with | some x=>x (run T n) (args.map some) h | none=>.stuck)=_
 rw [e]
 exact if_pos (by rw [List.length_map];exact hw)
end Mine
namespace Mine.LS
open Mine PySem
set_option maxRecDepth 100000
set_option maxHeartbeats 1000000
noncomputable abbrev Cl (h:Hp) (c:Nat) (v:AV):Prop:=h[c]? = some (.cell (some v))
noncomputable def NW (h:Hp) (v:AV):Prop:=v=.none∨(∃ b,v=.bool b)∨(∃ s,v=.str s)∨(∃ xs,v=.tup xs)∨∃ a o,v=.ref a∧h[a]? = some o∧((∃ xs,o=.list xs)∨∃ d,o=.dict d)
theorem NW.app {h:Hp} {v:AV} (w:NW h v) (g:Hp):NW (h++g) v:=by
 rcases w with w | w | w | w | ⟨a,o,w,e,d⟩
 ·exact .inl w
 ·exact .inr (.inl w)
 ·exact .inr (.inr (.inl w))
 ·exact .inr (.inr (.inr (.inl w)))
 ·exact .inr (.inr (.inr (.inr ⟨a,o,w,zB e,d⟩)))
theorem NW.set {h:Hp} {v:AV} (w:NW h v) {k:Nat} {u u':Option AV} (hk:h[k]? = some (.cell u)):NW (h.set k (.cell u')) v:=by
 rcases w with w | w | w | w | ⟨a,o,w,e,d⟩
 ·exact .inl w
 ·exact .inr (.inl w)
 ·exact .inr (.inr (.inl w))
 ·exact .inr (.inr (.inr (.inl w)))
 ·refine .inr (.inr (.inr (.inr ⟨a,o,w,?_,d⟩)))
  rw [List.getElem?_set_ne]
  ·exact e
  ·rintro rfl
   rw [hk] at e;cases e
   rcases d with ⟨_,d⟩ | ⟨_,d⟩ <;> cases d
noncomputable def Od (h:Hp) (b:Int) (v:AV):Prop:=NW h v∨∃ i,v=.int i∧¬ (0≤i∧i<b)
theorem Od.app {h:Hp} {b:Int} {v:AV} (w:Od h b v) (g:Hp):Od (h++g) b v:=w.imp (·.app g) id
theorem Od.set {h:Hp} {b:Int} {v:AV} (w:Od h b v) {k:Nat} {u u':Option AV} (hk:h[k]? = some (.cell u)):Od (h.set k (.cell u')) b v:=w.imp (·.set hk) id
theorem NW.isi {h:Hp} {v:AV} (w:NW h v):z2v h v .int=some false∨∃ b,v=.bool b:=by
 rcases w with rfl | w | ⟨_,rfl⟩ | ⟨_,rfl⟩ | ⟨a,o,rfl,e,d⟩
 ·exact .inl rfl
 ·exact .inr w
 ·exact .inl rfl
 ·exact .inl rfl
 ·left
  show Wr h a=_
  unfold Wr y7 xy
  rw [e]
  rcases d with ⟨_,rfl⟩ | ⟨_,rfl⟩ <;> rfl
theorem Od.isA {h:Hp} {b:Int} {v:AV} (w:Od h b v):v=.none∨isA v .none=some false:=by
 rcases w with (rfl | ⟨_,rfl⟩ | ⟨_,rfl⟩ | ⟨_,rfl⟩ | ⟨a,o,rfl,e,d⟩) | ⟨_,rfl,_⟩
 ·exact .inl rfl
 all_goals exact .inr rfl
section
variable {T:Tab} {okf:Str→Str→Bool} (X:TT T okf) {n:Nat}
include X
theorem ZW {h:Hp} {v:AV} (w:NW h v):run T (n+1) (.fn "is_whole") [v] h=.ok (.bool false) h:=by
 rw [yc X.kB1]
 refine zO (fr:=[some v]) rfl rfl (fr':=[some v]) (zP (zo ?_))
 rcases w.isi with w | ⟨b,rfl⟩
 ·rw [wW,xl (ev1 (z5 rfl) (ev1 rfl ev0)) ((QD).trans (by rw [w]))];rfl
 ·rfl
theorem qg {h:Hp} {fr:AFr} {i:Nat} {E:XE} {v:AV} {lo b:Int} {op:CmpOp} (hv:fr[i]? = some (some v)) (eE:E (run T (n+1)) fr h=.ok (.int b) h) (w:NW h v∨∃ k,v=.int k∧(k<lo∨xQ op (.int k) (.int b) h=some false)) :
  y8 .Or [yn (yT (zK (zI (some (.fn "is_whole"))) [z6 i])),yn (zj (z8 (.int lo)) [.LtE,op] [z6 i,E])] (run T (n+1)) fr h=.ok true h:=by
 rcases w with w | ⟨k,rfl,w⟩
 ·exact jk (zx (b:=false) (yZ (zc (ev1 (z5 hv) ev0) (ZW X w)) rfl))
 ·refine yv (zx (b:=true) (yZ (v:=.bool true) (zc (ev1 (z5 hv) ev0) (yE X)) rfl)) ?_
  by_cases hk:k<lo
  ·exact jk (zx (b:=false) (Xo rfl (z5 hv) (by rw [xV,decide_eq_false (Int.not_le.mpr hk)])))
  ·rcases w with w | w
   ·exact absurd w hk
   ·exact jk (zx (b:=false) (yi rfl (z5 hv) (by rw [xV,decide_eq_true (Int.not_lt.mp hk)]) eE w))
end
theorem Od.lt {h:Hp} {b:Int} {v:AV} (w:Od h b v):NW h v∨∃ k,v=.int k∧(k<0∨xQ .Lt (.int k) (.int b) h=some false):=w.imp id fun ⟨k,e,q⟩=>⟨k,e,by
 by_cases hk:k<0
 ·exact .inl hk
 ·exact .inr (by rw [yS,decide_eq_false fun z=>q ⟨Int.not_lt.mp hk,z⟩])⟩
theorem Od.le {h:Hp} {b:Int} {v:AV} (w:Od h (b+1) v):NW h v∨∃ k,v=.int k∧(k<0∨xQ .LtE (.int k) (.int b) h=some false):=w.imp id fun ⟨k,e,q⟩=>⟨k,e,by
 by_cases hk:k<0
 ·exact .inl hk
 ·exact .inr (by rw [xV,decide_eq_false fun z=>q ⟨Int.not_lt.mp hk,Int.lt_add_one_of_le z⟩])⟩
noncomputable def qQ:List (Str×Str):=[("BadText", "text"),("NoPlace", "place"),("NoSeat", "seat"),("NoHand", "hand"),("NoDeed", "deed"),("NoMark", "mark")]
theorem j9 {isx:Str→Str→Option Bool} {b:Bool} {cf:CF} {fr:AFr} {h:Hp} {c d:Str} (e:fr[0]? = some (some (.exc c))) (hd:(if d = "" then none else some d)=some d) (hi:isx c d=some b):xc isx (zI (some (.bi .isinstance))) [z6 0,zI (some (.cls d))] cf fr h=.ok (.bool b) h:=by
 unfold xc
 show Out.bind0 (evs [z6 0,zI (some (.cls d))] cf fr h) _=_
 rw [ev1 (z5 e) (ev1 rfl ev0)]
 show Out.of (Option.bind (if d = "" then none else some d) fun d=>(isx c d).map AV.bool) h=_
 rw [hd]
 show Out.of ((isx c d).map AV.bool) h=_
 rw [hi];rfl
theorem z23 {isx:Str→Str→Option Bool} {b:Bool} {cf:CF} {fr:AFr} {h:Hp} {c:Str} (e:fr[0]? = some (some (.exc c))) (hi:isx c "" = some b):xc isx (zI (some (.bi .isinstance))) [z6 0,zI (some (.bi .valErr))] cf fr h=.ok (.bool b) h:=by
 unfold xc
 show Out.bind0 (evs [z6 0,zI (some (.bi .valErr))] cf fr h) _=_
 rw [ev1 (z5 e) (ev1 rfl ev0)]
 show Out.of ((isx c "").map AV.bool) h=_
 rw [hi];rfl
theorem WB {h:Hp} {a k:Nat} {l:List Bool} (e:h[a]? = some (.list (l.map AV.bool))) (hk:(l.map PyData.bool).findIdx? (fun y=>PyData.eqv y (.bool true))=some k):jP h (.ref a) (.bool true)=some k:=by
 unfold jP;rw [YA e,YL];exact hk
section
variable {T:Tab} {okf exm:Str→Str→Bool} {isx:Str→Str→Option Bool} {L:Nat→LamS} (X:TL T okf exm isx L) {n:Nat}
theorem z0w {c w:Str} {b0 b1 b2 b3 b4 b5:Bool} {k:Nat} {h:Hp} (hw:T.word "_law_word" = some (q_law_word okf isx)) (hv:isx c "" = some true)
  (h0:isx c "BadText" = some b0) (h1:isx c "NoPlace" = some b1) (h2:isx c "NoSeat" = some b2) (h3:isx c "NoHand" = some b3) (h4:isx c "NoDeed" = some b4) (h5:isx c "NoMark" = some b5)
  (hc:[b0,b1,b2,b3,b4,b5].countP id=1) (hk:([b0,b1,b2,b3,b4,b5].map PyData.bool).findIdx? (fun y=>PyData.eqv y (.bool true))=some k) (k6:k≤6) (ht:([.str "text",.str "place",.str "seat",.str "hand",.str "deed",.str "mark"]:List AV)[k]? = some (.str w)) :
  ∃ g,run T (n+1) (.word "_law_word") [.exc c] h=.ok (.tup [.str w]) (h++g):=by
 let A:AO:=.list [.bool b0,.bool b1,.bool b2,.bool b3]
 let B:AO:=.list [.bool b4,.bool b5]
 let C:AO:=.list ([b0,b1,b2,b3,b4,b5].map AV.bool)
 let D:AO:=.list [.str "text",.str "place",.str "seat",.str "hand",.str "deed",.str "mark"]
 refine ⟨[A,B,C,D],?_⟩
 show (match T.word "_law_word" with | some f=>yW f (fun _ _ _=>.stuck) [.exc c] h | none=>.stuck)=_
 rw [hw]
 have g0:(h++[A,B,C])[h.length+2]? = some C:=zD h _ 2
 have g1:(h++[A,B,C,D])[h.length+2]? = some C:=zD h _ 2
 have g2:(h++[A,B,C,D])[h.length+3]? = some D:=zD h _ 3
 have l3:(h++[A,B,C]).length=h.length+3:=zX
 have l2:(h++[A,B]).length=h.length+2:=zX
 have l1:(h++[A]).length=h.length+1:=zX
 have a2:h++[A]++[B]=h++[A,B]:=List.append_assoc _ _ _
 have a3:h++[A,B]++[C]=h++[A,B,C]:=List.append_assoc _ _ _
 have a4:h++[A,B,C]++[D]=h++[A,B,C,D]:=List.append_assoc _ _ _
 refine zO (fr:=[some (.exc c),none]) rfl rfl (fr':=[some (.exc c),some (.ref (h.length+2))]) ?_
 unfold q_law_word
 dsimp only
 refine (z7 (zd (j:=1) (yD (h1:=h) (vs:=[.bool b0,.bool b1,.bool b2,.bool b3]) (ev1 (j9 rfl rfl h0) (ev1 (j9 rfl rfl h1) (ev1 (j9 rfl rfl h2) (ev1 (j9 rfl rfl h3) ev0))))) (zU rfl))).trans ?_
 show zJ _ _ [some (.exc c),some (.ref h.length)] (h++[A])=_
 have eb:=yD (h1:=h++[A]) (vs:=[.bool b4,.bool b5]) (cf:=fun _ _ _=>.stuck) (fr:=[some (.exc c),some (.ref h.length)]) (ev1 (j9 (isx:=isx) rfl rfl h4) (ev1 (j9 rfl rfl h5) ev0))
 have eb':zT _ _ [some (.exc c),some (.ref h.length)] (h++[A])=.ok (.ref (h.length+1)) (h++[A,B]):=eb.trans (by rw [l1];exact congrArg _ a2)
 have ea:=We (x:=z6 1) (fr:=[some (.exc c),some (.ref h.length)]) (z5 rfl) eb' (zD h [A,B] 0) (zD h [A,B] 1) (zU rfl)
 rw [l2] at ea
 refine (z7 (zd (j:=1) ea (zU rfl))).trans ?_
 show zJ _ _ [some (.exc c),some (.ref (h.length+2))] (h++[A,B]++[C])=_
 rw [a3]
 have em:yQ .count (.ref (h.length+2)) [.bool true] (h++[A,B,C])=.ok (.int 1) (h++[A,B,C]):=by
  rw [YJ,g0]
  show Out.of ((wQ _ _ _).map _) _=_
  rw [wP g0,hc];rfl
 refine (z7 ((zN (yv (zx (b:=true) (yZ (v:=.bool true) (z23 rfl hv) rfl)) (yv (zb (v:=.int 1) (w:=.int 1) (jM (a:=h.length+2) (z5 rfl) g0 (ev1 rfl ev0) em) rfl (by rw [wS,qK];rfl)) qU))).trans zL)).trans ?_
 have el:zT [(z8 (.str "text")),(z8 (.str "place")),(z8 (.str "seat")),(z8 (.str "hand")),(z8 (.str "deed")),(z8 (.str "mark"))] (fun _ _ _=>.stuck) [some (.exc c),some (.ref (h.length+2))] (h++[A,B,C])=.ok (.ref (h.length+3)) (h++[A,B,C,D]):=(yD (ev1 rfl (ev1 rfl (ev1 rfl (ev1 rfl (ev1 rfl (ev1 rfl ev0))))))).trans (by rw [l3];exact congrArg _ a4)
 have ei:yQ .index (.ref (h.length+2)) [.bool true] (h++[A,B,C,D])=.ok (.int k) (h++[A,B,C,D]):=by
  rw [Qt,g1]
  show (match jP _ _ _ with | some k=>Out.ok (AV.int k) _ | none=>.stuck)=_
  rw [WB g1 hk]
 have ej:we (h++[A,B,C,D]) (.ref (h.length+3)) (.int k)=some (.str w):=by
  rw [xn (qf (Nat.le_trans k6 (by decide))),g2];exact ht
 exact zP (zo (xi (ev1 (ya el (jM (a:=h.length+2) (z5 rfl) g1 (ev1 rfl ev0) ei) ej) ev0)))
include X
theorem ja {c d:String} (hc:c∈["BadText", "NoPlace", "NoSeat", "NoHand", "NoDeed", "NoMark"]) (hd:d∈["BadText", "NoPlace", "NoSeat", "NoHand", "NoDeed", "NoMark"]):isx c d=some (c == d)∧isx c "" = some true:=by
 have:=List.all_eq_true.mp X.isx_ c hc
 rw [Bool.and_eq_true] at this
 exact ⟨eq_of_beq (List.all_eq_true.mp this.2 d hd),eq_of_beq this.1⟩
omit X in
theorem QH {c w:Str} (hc:(c,w)∈qQ):∃ (c':String) (k:Nat),c=Str.ofString c'∧c'∈["BadText", "NoPlace", "NoSeat", "NoHand", "NoDeed", "NoMark"]∧[c' == "BadText",c' == "NoPlace",c' == "NoSeat",c' == "NoHand",c' == "NoDeed",c' == "NoMark"].countP id=1∧([c' == "BadText",c' == "NoPlace",c' == "NoSeat",c' == "NoHand",c' == "NoDeed",c' == "NoMark"].map PyData.bool).findIdx? (fun y=>PyData.eqv y (.bool true))=some k∧k≤6∧([.str "text",.str "place",.str "seat",.str "hand",.str "deed",.str "mark"]:List AV)[k]? = some (.str w):=by
 simp only [qQ,List.mem_cons,List.not_mem_nil,or_false] at hc
 rcases hc with hc | hc | hc | hc | hc | hc <;> cases hc
 ·exact ⟨"BadText",0,rfl,.head _,by decide +kernel,by decide +kernel,by decide,rfl⟩
 ·exact ⟨"NoPlace",1,rfl,.tail _ (.head _),by decide +kernel,by decide +kernel,by decide,rfl⟩
 ·exact ⟨"NoSeat",2,rfl,.tail _ (.tail _ (.head _)),by decide +kernel,by decide +kernel,by decide,rfl⟩
 ·exact ⟨"NoHand",3,rfl,.tail _ (.tail _ (.tail _ (.head _))),by decide +kernel,by decide +kernel,by decide,rfl⟩
 ·exact ⟨"NoDeed",4,rfl,.tail _ (.tail _ (.tail _ (.tail _ (.head _)))),by decide +kernel,by decide +kernel,by decide,rfl⟩
 ·exact ⟨"NoMark",5,rfl,.tail _ (.tail _ (.tail _ (.tail _ (.tail _ (.head _))))),by decide +kernel,by decide +kernel,by decide,rfl⟩
theorem zHr {c w:Str} (hc:(c,w)∈qQ) {h:Hp}:∃ g,run T (n+1) (.word "_law_word") [.exc c] h=.ok (.tup [.str w]) (h++g):=by
 obtain ⟨c',k,rfl,mc,a,b,d,e⟩:=QH hc
 exact z0w X.q_law_word (ja X mc mc).2 (ja X mc (.head _)).1 (ja X mc (.tail _ (.head _))).1 (ja X mc (.tail _ (.tail _ (.head _)))).1 (ja X mc (.tail _ (.tail _ (.tail _ (.head _))))).1 (ja X mc (.tail _ (.tail _ (.tail _ (.tail _ (.head _)))))).1 (ja X mc (.tail _ (.tail _ (.tail _ (.tail _ (.tail _ (.head _))))))).1 a b d e
noncomputable def Rf (T:Tab) (n:Nat) (l:LamS) (cs:List Nat) (w:Str) (h:Hp):Prop:=∃ g,run T n (.fn "_law_refusal") [.lam l cs] h=.ok (.tup [.str w]) (h++g)
theorem xX {c w:Str} (hc:(c,w)∈qQ) {l:LamS} {cs:List Nat} {h g:Hp} (e:run T (n+1) (.lam l) (cs.map AV.ref) h=.exc c (h++g)):Rf T (n+2) l cs w h:=by
 obtain ⟨g',e'⟩:=zHr X (n:=n) hc (h:=h++g)
 have hx:exm c "StickError" = true:=by
  obtain ⟨c',k,rfl,mc,_⟩:=QH hc
  exact List.all_eq_true.mp X.exm_ c' mc
 refine ⟨g++g',?_⟩
 rw [yc X.kBd]
 refine zO (fr:=[some (.lam l cs),none]) rfl rfl (fr':=[none,none]) (zP ?_)
 unfold YB
 rw [zm (zp (z4u (z5 rfl) e))]
 show (if false=false∧exm c "StickError" = true then (match run T (n+1) (.word "_law_word") [.exc c] (h++g) with | .ok v h₂=>OS.ok (.ret v) _ h₂ | _=>.stuck) else .stuck)=_
 rw [if_pos ⟨rfl,hx⟩,e',List.append_assoc];rfl
end
theorem z0v:(qQ.all fun p=>PyData.strOk p.2)=true:=by decide +kernel
theorem xR {h:Hp} {c w:Str} (hc:(c,w)∈qQ):aEq h (.tup [.str w]) (.tup [.str w])=some true:=by
 have hw:=List.all_eq_true.mp z0v _ hc
 have e:toD h 8 (.tup [.str w])=some (.tuple [.str w]):=by
  show (yd (toD h 7) [.str w]).map PyData.tuple=_
  rw [xE (y:=.str w) (ys:=[]) (show toD h 7 (.str w)=some (.str w) by show (if PyData.strOk w then some (PyData.str w) else none)=_;rw [if_pos hw]) rfl];rfl
 rw [ZJ e e]
 show some ((w == w) && true)=_
 rw [beq_self_eq_true];rfl
theorem z5q {h:Hp} {a b:Nat} (ha:h[a]? = some (.list [])) (hb:h[b]? = some (.list [])):aEq h (.ref a) (.ref b)=some true:=ZJ (jf ha rfl) (jf hb rfl)
noncomputable def Zp (T:Tab) (n:Nat) (w:Str) (h:Hp):List (LamS×List Nat)→Prop
 | []=>True
 | p::r=>Rf T n p.1 p.2 w h∧Zp T n w h r
theorem Zp.at {T:Tab} {n k:Nat} {w:Str} {h:Hp} {p:LamS×List Nat} {ls:List (LamS×List Nat)} (a:Zp T n w h ls) (hk:ls[k]? = some p):Rf T n p.1 p.2 w h:=by
 induction ls generalizing k with
 | nil=>cases hk
 | cons q r ih =>
  cases k with
  | zero=>cases hk;exact a.1
  | succ k=>exact ih a.2 hk
theorem Zp.app {T:Tab} {n:Nat} {w:Str} {h:Hp} {l l':List (LamS×List Nat)} (b:Zp T n w h l') (a:Zp T n w h l):Zp T n w h (l++l'):=by
 induction l with
 | nil=>exact b
 | cons q r ih=>exact ⟨a.1,ih a.2⟩
theorem z5n {T:Tab} {n:Nat} {c w:Str} (hc:(c,w)∈qQ) {fr:AFr} {h:Hp} {i j a:Nat} {ls:List (LamS×List Nat)} (hi:fr[i]? = some (some (.ref a))) (ha:h[a]? = some (.list (ls.map fun p=>AV.lam p.1 p.2))) (hj:fr.length=j)
  (hR:∀ g,Zp T n w (h++g) ls) :
  ∃ g,cNo i j w (run T n) fr h=.ok (.ref (h++g).length) (h++g++[.list []]):=by
 have key:∀ (m k:Nat) (g:Hp) (fr':AFr),k+m=ls.length→fr'.length=j+1→∃ g',yt (.one j) (y8 .And [(zj (zK (zI (some (.fn "_law_refusal"))) [(z6 j)]) [.NotEq] [(xG [(z8 (.str w))])])]) (z6 j) (.ref a) (m+1) k [] (run T n) fr' (h++g)=.ok [] (h++g'):=by
  intro m
  induction m with
  | zero =>
   intro k g fr' hk hl
   refine ⟨g,?_⟩
   rw [jI]
   show (match (match (h++g)[a]? with | some (.list ys)=>some ys[k]? | _=>none) with | none=>Out.stuck | some none=>.ok [] (h++g) | some (some x)=>_)=_
   rw [zB ha]
   show (match some (ls.map fun p=>AV.lam p.1 p.2)[k]? with | none=>Out.stuck | some none=>.ok [] (h++g) | some (some x)=>_)=_
   rw [List.getElem?_eq_none (by rw [List.length_map,← hk];exact Nat.le_refl _)]
  | succ m ih =>
   intro k g fr' hk hl
   have hk':k<ls.length:=by rw [← hk];exact Nat.lt_add_of_pos_right (Nat.succ_pos m)
   obtain ⟨g1,e1⟩:=(hR g).at (yO hk')
   obtain ⟨g',e'⟩:=ih (k+1) (g++g1) (fr'.set j (some (.lam ls[k].1 ls[k].2))) (by rw [← hk,Nat.add_assoc,Nat.add_comm 1]) (by rw [List.length_set];exact hl)
   refine ⟨g',?_⟩
   rw [jI]
   show (match (match (h++g)[a]? with | some (.list ys)=>some ys[k]? | _=>none) with | none=>Out.stuck | some none=>.ok [] (h++g) | some (some x)=>_)=_
   rw [zB ha]
   show (match some (ls.map fun p=>AV.lam p.1 p.2)[k]? with | none=>Out.stuck | some none=>.ok [] (h++g) | some (some x)=>_)=_
   rw [List.getElem?_map,yO hk']
   show (match NTgt.bind (.one j) (.lam ls[k].1 ls[k].2) fr' with | none=>Out.stuck | some fr₁=>_)=_
   rw [show NTgt.bind (.one j) (.lam ls[k].1 ls[k].2) fr'=some (fr'.set j (some (.lam ls[k].1 ls[k].2))) from if_pos (by rw [hl];exact Nat.lt_succ_self _)]
   dsimp only
   have gj:(fr'.set j (some (AV.lam ls[k].1 ls[k].2)))[j]? = some (some (.lam ls[k].1 ls[k].2)):=by rw [List.getElem?_set_self (by rw [hl];exact Nat.lt_succ_self _)]
   rw [Z6 (zb (zc (ev1 (z5 gj) ev0) e1) (xi (ev1 rfl ev0)) (by rw [wS,xR hc];rfl))]
   rw [List.append_assoc]
   exact e'
 obtain ⟨g',e'⟩:=key ls.length 0 [] (fr++List.replicate 1 none) (Nat.zero_add _) (by rw [zX,hj];rfl)
 rw [List.append_nil] at e'
 refine ⟨g',?_⟩
 unfold cNo xB
 rw [z5 hi]
 simp only [Out.bind_ok]
 rw [show yw h (.ref a)=some (.ref a,(ls.map fun p=>AV.lam p.1 p.2).length) by
  show (match h[a]? with | some (.list xs)=>some (Src.ref a,xs.length) | _=>none)=_
  rw [ha]]
 dsimp only
 rw [List.length_map,e']
 rfl
theorem wR {T:Tab} {n:Nat} {c w:Str} (hc:(c,w)∈qQ) {fr:AFr} {h:Hp} {i j a:Nat} {ls:List (LamS×List Nat)} (hi:fr[i]? = some (some (.ref a))) (ha:h[a]? = some (.list (ls.map fun p=>AV.lam p.1 p.2))) (hj:fr.length=j)
  (hR:∀ g,Zp T n w (h++g) ls) :
  ∃ g,zj (cNo i j w) [.NotEq] [zT []] (run T n) fr h=.ok false (h++g)∧zj (cNo i j w) [.Eq] [zT []] (run T n) fr h=.ok true (h++g):=by
 obtain ⟨g,e⟩:=z5n hc hi ha hj hR
 have q:aEq (h++g++[AO.list []]++[AO.list []]) (.ref (h++g).length) (.ref (h++g++[AO.list []]).length)=some true:=z5q (zB (zQ _ _ [])) (zQ _ _ [])
 refine ⟨g++[.list [],.list []],?_,?_⟩
 ·rw [zb e (yD ev0) (b:=false) (by rw [wS,q];rfl),List.append_assoc,List.append_assoc];rfl
 ·rw [zb e (yD ev0) (b:=true) (by rw [xN,q]),List.append_assoc,List.append_assoc];rfl
set_option genInjectivity false
set_option genSizeOf false
theorem z07 {h:Int}:List.lookup ("letter" : Str) (fS h)=none:=rfl
theorem ZU {h:Int}:List.lookup ("place_of" : Str) (fS h)=none:=rfl
theorem wr {h:Int}:List.lookup ("is_ahead" : Str) (fS h)=none:=rfl
theorem z53 {h:Int}:List.lookup ("deed" : Str) (fS h)=none:=rfl
theorem Xu {h:Int}:List.lookup ("take_back" : Str) (fS h)=none:=rfl
theorem ZV {h:Int}:List.lookup ("do_again" : Str) (fS h)=none:=rfl
noncomputable def Bt (h:Hp) (v:AV):Prop:=v=.none∨(∃ b,v=.bool b)∨(∃ i,v=.int i)∨(∃ s,(v=.str s)∧(s = "\t" ∨ s = "a\tb"))∨∃ a o,v=.ref a∧h[a]? = some o∧((∃ xs,o=.list xs)∨∃ d,o=.dict d)
theorem Bt.app {h:Hp} {v:AV} (w:Bt h v) (g:Hp):Bt (h++g) v:=by
 rcases w with w | w | w | w | ⟨a,o,w,e,d⟩
 ·exact .inl w
 ·exact .inr (.inl w)
 ·exact .inr (.inr (.inl w))
 ·exact .inr (.inr (.inr (.inl w)))
 ·exact .inr (.inr (.inr (.inr ⟨a,o,w,zB e,d⟩)))
theorem Bt.set {h:Hp} {v:AV} (w:Bt h v) {k:Nat} {u u':Option AV} (hk:h[k]? = some (.cell u)):Bt (h.set k (.cell u')) v:=by
 rcases w with w | w | w | w | ⟨a,o,w,e,d⟩
 ·exact .inl w
 ·exact .inr (.inl w)
 ·exact .inr (.inr (.inl w))
 ·exact .inr (.inr (.inr (.inl w)))
 ·refine .inr (.inr (.inr (.inr ⟨a,o,w,?_,d⟩)))
  rw [List.getElem?_set_ne]
  ·exact e
  ·rintro rfl
   rw [hk] at e;cases e
   rcases d with ⟨_,d⟩ | ⟨_,d⟩ <;> cases d
theorem wi:Txt.contains LET (⟨#[9]⟩:Str)=false∧Txt.contains LET (⟨#[97]⟩:Str)=true∧Txt.contains LET (⟨#[98]⟩:Str)=true∧("\t" : Str)=tx [9]∧("a\tb" : Str)=tx [97,9,98]∧("a" : Str)=tx [97]∧("z" : Str)=tx [122]∧("" : Str)=tx []:=by decide +kernel
section
variable {T:Tab} {okf:Str→Str→Bool} (X:TT T okf) {n:Nat} {S:Sh} {r:Hp} {v u t p:AV}
include X
theorem wv {cs:List Nat} (hl:cs.length≤200) {hp:Hp}:run T (n+1) (.fn "is_text") [.str (tx cs)] hp=.ok (.bool ((cs.map fun c=>Txt.contains LET ⟨#[c]⟩).all id)) (hp++[.list (cs.map fun c=>AV.bool (Txt.contains LET ⟨#[c]⟩))]):=by
 rw [yc X.kCd]
 have ec:=ZH ch (it:=z6 0) (own:=1) (i:=1) (v:=.str (tx cs)) (test:=y8 .And []) (elt:=wV (z6 1) [.In] [zI (some (.str LET))]) (cf:=run T n) (fr:=[some (.str (tx cs))]) (h:=hp) (h1:=hp) (l:=cs) (p:=fun _=>true) (f:=fun c=>AV.bool (Txt.contains LET ⟨#[c]⟩)) rfl rfl (zU rfl) (Nat.lt_of_le_of_lt hl (by decide))
  (fun fr' a1 a2 x hx a3=>rfl)
  (fun fr' a1 a2 x hx a3=>wH (zb (z5 a3) rfl z3i))
 rw [List.filter_eq_self.mpr (fun _ _=>rfl)] at ec
 have hg:(hp++[.list (cs.map fun c=>AV.bool (Txt.contains LET ⟨#[c]⟩))])[hp.length]? = some (AO.list (cs.map fun c=>AV.bool (Txt.contains LET ⟨#[c]⟩))):=zQ hp _ []
 have ea:=z3s hg (ZI (f:=fun c=>Txt.contains LET ⟨#[c]⟩))
 refine zO (fr:=[some (.str (tx cs))]) rfl rfl (fr':=[some (.str (tx cs))]) (zP (zo ?_))
 exact z24 (xl (h2:=hp) (vs:=[.str (tx cs),.bi .str]) (ev1 (z5 rfl) (ev1 rfl ev0)) (QD (v:=.str (tx cs)))) (xl (ev1 ec ev0) ea)
theorem YW {h:Hp} (w:Bt h v):∃ g,run T (n+1) (.fn "is_text") [v] h=.ok (.bool false) (h++g):=by
 have key:z2v h v .str=some false→∃ g,run T (n+1) (.fn "is_text") [v] h=.ok (.bool false) (h++g):=fun e=>by
  refine ⟨[],?_⟩
  rw [yc X.kCd,List.append_nil]
  refine zO (fr:=[some v]) rfl rfl (fr':=[some v]) (zP (zo ?_))
  rw [wW,xl (ev1 (z5 rfl) (ev1 rfl ev0)) ((QD).trans (by rw [e]))];rfl
 rcases w with rfl | ⟨_,rfl⟩ | ⟨_,rfl⟩ | ⟨s,rfl,rfl | rfl⟩ | ⟨a,o,rfl,e,d⟩
 ·exact key rfl
 ·exact key rfl
 ·exact key rfl
 ·have:=wv X (n:=n) (cs:=[9]) (by decide) (hp:=h)
  refine ⟨[.list ([9].map fun c=>AV.bool (Txt.contains LET ⟨#[c]⟩))],?_⟩
  rw [wi.2.2.2.1]
  refine this.trans ?_
  show Out.ok (AV.bool (Txt.contains LET ⟨#[9]⟩ && true)) _=_
  rw [wi.1];rfl
 ·have:=wv X (n:=n) (cs:=[97,9,98]) (by decide) (hp:=h)
  refine ⟨[.list ([97,9,98].map fun c=>AV.bool (Txt.contains LET ⟨#[c]⟩))],?_⟩
  rw [wi.2.2.2.2.1]
  refine this.trans ?_
  show Out.ok (AV.bool (Txt.contains LET ⟨#[97]⟩ && (Txt.contains LET ⟨#[9]⟩ && (Txt.contains LET ⟨#[98]⟩ && true)))) _=_
  rw [wi.1,wi.2.1];rfl
 ·refine key ?_
  show Wr h a=_
  unfold Wr y7 xy
  rw [e]
  rcases d with ⟨_,rfl⟩ | ⟨_,rfl⟩ <;> rfl
theorem wN (w:Od (S.hp r) S.hands v):run T (n+2) (.meth "Sheet" "need_hand") [.ref 9,v] (S.hp r)=.exc "NoHand" (S.hp r):=by
 rw [zG X.kAk]
 exact zY (fr:=[some (.ref 9),some v]) rfl rfl (zm (yN (qg X rfl (zR (z5 rfl) rfl kS1) w.lt)))
theorem Zq (w:Od (S.hp r) S.le.length v):run T (n+2) (.meth "Sheet" "need_sign") [.ref 9,v] (S.hp r)=.exc "NoSeat" (S.hp r):=by
 rw [zG X.kAh]
 exact zY (fr:=[some (.ref 9),some v]) rfl rfl (zm (yN (qg X rfl (q8 (a:=15) rfl rfl kS4 rfl (List.length_map _)) w.lt)))
theorem z1o {i:Int} (h0:0≤i) (h1:i<S.le.length):run T (n+2) (.meth "Sheet" "need_sign") [.ref 9,.int i] (S.hp r)=.ok .none (S.hp r):=by
 rw [zG X.kAh]
 exact yI (fr:=[some (.ref 9),some (.int i)]) rfl rfl (fr':=[some (.ref 9),some (.int i)]) ((z7 ((zN (yv (zx (b:=true) (yZ (v:=.bool true) (zc (ev1 (z5 rfl) ev0) (yE X)) rfl)) (yv (zx (b:=true) (yi rfl (z5 rfl) (by rw [xV,decide_eq_true h0]) (q8 (a:=15) rfl rfl kS4 rfl (List.length_map _)) (by rw [yS,decide_eq_true h1]))) qU))).trans zL)).trans zL)
theorem jo (w:Od (S.hp r) (((S.b.countP id:Nat):Int)+1) v):run T (n+3) (.meth "Sheet" "need_place") [.ref 9,v] (S.hp r)=.exc "NoPlace" (S.hp r):=by
 rw [zG X.kAd]
 exact zY (fr:=[some (.ref 9),some v]) rfl rfl (zm (yN (qg X (n:=n+1) rfl (zC (a:=9) (z5 rfl) rfl wI ev0 (Y8 X (n:=n))) w.le)))
theorem Je (w:Od (S.hp r) S.dn.length v):run T (n+2) (.meth "Sheet" "need_deed") [.ref 9,v] (S.hp r)=.exc "NoDeed" (S.hp r):=by
 rw [zG X.kAi]
 exact zY (fr:=[some (.ref 9),some v]) rfl rfl (zm (yN (qg X rfl (q8 (a:=20) rfl rfl kS9 rfl rfl) w.lt)))
theorem zHw (w:Od (S.hp r) (((S.b.countP id:Nat):Int)+1) v):run T (n+4) (.meth "Sheet" "need_stretch") [.ref 9,v,u] (S.hp r)=.exc "NoPlace" (S.hp r):=by
 rw [zG X.kAc]
 exact zY (fr:=[some (.ref 9),some v,some u]) rfl rfl (zm (zp (zC (a:=9) (z5 rfl) rfl zu (ev1 (z5 rfl) ev0) (jo X w))))
theorem zGr {i:Int} (h0:0≤i) (h1:i≤S.b.countP id) (w:Od (S.hp r) (((S.b.countP id:Nat):Int)+1) v):run T (n+4) (.meth "Sheet" "need_stretch") [.ref 9,.int i,v] (S.hp r)=.exc "NoPlace" (S.hp r):=by
 rw [zG X.kAc]
 exact zY (fr:=[some (.ref 9),some (.int i),some v]) rfl rfl ((z7 (zZ (zC (a:=9) (z5 rfl) rfl zu (ev1 (z5 rfl) ev0) (yf X h0 h1)))).trans (zm (zp (zC (a:=9) (z5 rfl) rfl zu (ev1 (z5 rfl) ev0) (jo X w)))))
theorem JH {i j:Int} (h0:0≤i) (h1:i≤S.b.countP id) (j0:0≤j) (j1:j≤S.b.countP id) (hj:j≤i):run T (n+4) (.meth "Sheet" "need_stretch") [.ref 9,.int i,.int j] (S.hp r)=.exc "NoPlace" (S.hp r):=by
 rw [zG X.kAc]
 exact zY (fr:=[some (.ref 9),some (.int i),some (.int j)]) rfl rfl ((z7 (zZ (zC (a:=9) (z5 rfl) rfl zu (ev1 (z5 rfl) ev0) (yf X h0 h1)))).trans ((z7 (zZ (zC (a:=9) (z5 rfl) rfl zu (ev1 (z5 rfl) ev0) (yf X j0 j1)))).trans (zm (yN (zb (v:=.int i) (w:=.int j) (z5 rfl) (z5 rfl) (by rw [z3j,decide_eq_true hj]))))))
theorem zGq (w:Od (S.hp r) ((S.b.countP id:Nat):Int) v):run T (n+4) (.meth "Sheet" "need_stretch") [.ref 9,v,.int (S.b.countP id:Nat)] (S.hp r)=.exc "NoPlace" (S.hp r):=by
 rcases w with w | ⟨i,rfl,w⟩
 ·exact zHw X (.inl w)
 ·by_cases hi:0≤i∧i<((S.b.countP id:Nat):Int)+1
  ·have:i=((S.b.countP id:Nat):Int):=Int.le_antisymm (Int.le_of_lt_add_one hi.2) (Int.not_lt.mp fun q=>w ⟨hi.1,q⟩)
   subst this
   exact JH X hi.1 (Int.le_refl _) hi.1 (Int.le_refl _) (Int.le_refl _)
  ·exact zHw X (.inr ⟨i,rfl,hi⟩)
theorem z5i (G:Good S.l S.b) (w:Od (S.hp r) ((S.b.countP id:Nat):Int) v):run T (n+3) (.meth "Row" "find") [.ref 11,v] (S.hp r)=.exc "NoPlace" (S.hp (r++[.list ((tk S.b S.l).map AV.int)])):=by
 rw [zG X.kB3]
 have e1:zA okf (.names (.one 2)) (xB (zH (z6 0) "line") 1 (.one 3) (y8 .And [yT (zn (zH (z6 0) "flags") (z6 3))]) (z6 3)) (run T (n+2)) [some (.ref 11),some v,none] (S.hp r)=.ok .next [some (.ref 11),some v,some (.ref (r.length+23))] (S.hp (r++[.list ((tk S.b S.l).map AV.int)])) :=
  zd (j:=2) (qP AV.int (it:=zH (z6 0) "line") (own:=1) (i:=3) (a:=12) (test:=y8 .And [yT (zn (zH (z6 0) "flags") (z6 3))]) (elt:=z6 3) (cf:=run T (n+2)) (fr:=[some (.ref 11),some v,none])
   (h:=S.hp r) (h1:=S.hp r) (l:=S.l) (p:=fl S.b) (f:=AV.int) rfl rfl (zU rfl) G.sm'.1
   (fun fr' a1 a2 x hx a3=>QO (by rw [a2 0 (by decide)];rfl) a3 rfl rfl (G.rng x hx).1 (G.rng x hx).2 (Nat.le_of_lt G.sm'.2))
   (fun fr' a1 a2 x hx a3=>z5 a3)) (zU rfl)
 have e2:zK (zI (some (.bi .len))) [z6 2] (run T (n+2)) [some (.ref 11),some v,some (.ref (r.length+23))] (S.hp (r++[.list ((tk S.b S.l).map AV.int)]))=.ok (.int (S.b.countP id:Nat)) (S.hp (r++[.list ((tk S.b S.l).map AV.int)])):=by
  rw [← G.count]
  exact xl (ev1 (z5 rfl) ev0) (by rw [qp,qI,show (S.hp (r++[.list ((tk S.b S.l).map AV.int)]))[r.length+23]? = some (.list ((tk S.b S.l).map AV.int)) from zQ r _ [],← List.length_map AV.int];rfl)
 exact zY (fr:=[some (.ref 11),some v,none]) rfl rfl ((z7 e1).trans (zm (yN (qg X rfl e2 (Od.app w [.list ((tk S.b S.l).map AV.int)]).lt))))
theorem jT (G:Good S.l S.b) (w:Od (S.hp r) ((S.b.countP id:Nat):Int) v):run T (n+4) (.meth "Sheet" "sign_at") [.ref 9,v] (S.hp r)=.exc "NoPlace" (S.hp (r++[.list ((tk S.b S.l).map AV.int)])):=by
 rw [zG X.kAr]
 exact zY (fr:=[some (.ref 9),some v]) rfl rfl (zm (z20 (zGx (zR (z5 rfl) rfl kS3) (zC (a:=11) (zR (z5 rfl) rfl kS2) rfl Xw (ev1 (z5 rfl) ev0) (z5i X G w)))))
theorem z27 (w:Od (S.hp r) S.hands v):run T (n+3) (.meth "Sheet" "put") [.ref 9,v,u,t] (S.hp r)=.exc "NoHand" (S.hp r):=by
 rw [zG X.kBt]
 exact zY (fr:=[some (.ref 9),some v,some u,some t]) rfl rfl (zm (zp (zC (a:=9) (z5 rfl) rfl ze (ev1 (z5 rfl) ev0) (wN X w))))
theorem z3e (w:Od (S.hp r) S.hands v):run T (n+3) (.meth "Sheet" "cut") [.ref 9,v,u,t] (S.hp r)=.exc "NoHand" (S.hp r):=by
 rw [zG X.kBw]
 exact zY (fr:=[some (.ref 9),some v,some u,some t,none,none]) rfl rfl (zm (zp (zC (a:=9) (z5 rfl) rfl ze (ev1 (z5 rfl) ev0) (wN X w))))
theorem z04 (w:Od (S.hp r) S.hands v):run T (n+3) (.meth "Sheet" "move") [.ref 9,v,u,t,p] (S.hp r)=.exc "NoHand" (S.hp r):=by
 rw [zG X.kBq]
 exact zY (fr:=[some (.ref 9),some v,some u,some t,some p,none,none,none]) rfl rfl (zm (zp (zC (a:=9) (z5 rfl) rfl ze (ev1 (z5 rfl) ev0) (wN X w))))
theorem qW (w:Od (S.hp r) S.hands v):run T (n+3) (.meth "Sheet" "last_standing") [.ref 9,v] (S.hp r)=.exc "NoHand" (S.hp r):=by
 rw [zG X.kAa]
 exact zY (fr:=[some (.ref 9),some v,none,none]) rfl rfl (zm (zp (zC (a:=9) (z5 rfl) rfl ze (ev1 (z5 rfl) ev0) (wN X w))))
theorem wu (w:Od (S.hp r) S.hands v):run T (n+3) (.meth "Sheet" "last_gone") [.ref 9,v] (S.hp r)=.exc "NoHand" (S.hp r):=by
 rw [zG X.kAl]
 exact zY (fr:=[some (.ref 9),some v,none,none]) rfl rfl (zm (zp (zC (a:=9) (z5 rfl) rfl ze (ev1 (z5 rfl) ev0) (wN X w))))
theorem Jn (w:Od (S.hp r) S.hands v):run T (n+4) (.fn "undo") [.ref 9,v] (S.hp r)=.exc "NoHand" (S.hp r):=by
 rw [yc X.f_undo]
 exact zY (fr:=[some (.ref 9),some v,none]) rfl rfl (zm (Xm (zC (a:=9) (z5 rfl) rfl qx (ev1 (z5 rfl) ev0) (qW X w))))
theorem Jy (w:Od (S.hp r) S.hands v):run T (n+4) (.fn "redo") [.ref 9,v] (S.hp r)=.exc "NoHand" (S.hp r):=by
 rw [yc X.f_redo]
 exact zY (fr:=[some (.ref 9),some v,none]) rfl rfl (zm (Xm (zC (a:=9) (z5 rfl) rfl wL (ev1 (z5 rfl) ev0) (wu X w))))
theorem z01 (hh:0<S.hands) (w:Od (S.hp r) (((S.b.countP id:Nat):Int)+1) u):run T (n+4) (.meth "Sheet" "put") [.ref 9,.int 0,u,t] (S.hp r)=.exc "NoPlace" (S.hp r):=by
 rw [zG X.kBt]
 exact zY (fr:=[some (.ref 9),some (.int 0),some u,some t]) rfl rfl ((z7 (zZ (zC (a:=9) (z5 rfl) rfl ze (ev1 (z5 rfl) ev0) (yP X (Int.le_refl 0) hh)))).trans (zm (zp (zC (a:=9) (z5 rfl) rfl zu (ev1 (z5 rfl) ev0) (jo X w)))))
theorem jH (hh:0<S.hands) (w:run T (n+4) (.meth "Sheet" "need_stretch") [.ref 9,u,t] (S.hp r)=.exc "NoPlace" (S.hp r)):run T (n+5) (.meth "Sheet" "cut") [.ref 9,.int 0,u,t] (S.hp r)=.exc "NoPlace" (S.hp r):=by
 rw [zG X.kBw]
 exact zY (fr:=[some (.ref 9),some (.int 0),some u,some t,none,none]) rfl rfl ((z7 (zZ (zC (a:=9) (z5 rfl) rfl ze (ev1 (z5 rfl) ev0) (yP X (Int.le_refl 0) hh)))).trans (zm (zp (zC (a:=9) (z5 rfl) rfl yG (ev1 (z5 rfl) (ev1 (z5 rfl) ev0)) w))))
theorem jX (hh:0<S.hands) (w:run T (n+4) (.meth "Sheet" "need_stretch") [.ref 9,u,t] (S.hp r)=.exc "NoPlace" (S.hp r)):run T (n+5) (.meth "Sheet" "move") [.ref 9,.int 0,u,t,p] (S.hp r)=.exc "NoPlace" (S.hp r):=by
 rw [zG X.kBq]
 exact zY (fr:=[some (.ref 9),some (.int 0),some u,some t,some p,none,none,none]) rfl rfl ((z7 (zZ (zC (a:=9) (z5 rfl) rfl ze (ev1 (z5 rfl) ev0) (yP X (Int.le_refl 0) hh)))).trans (zm (zp (zC (a:=9) (z5 rfl) rfl yG (ev1 (z5 rfl) (ev1 (z5 rfl) ev0)) w))))
theorem z50 (hh:0<S.hands) {j:Int} (h1:0<j) (h2:j≤S.b.countP id) (w:Od (S.hp r) (((S.b.countP id:Nat):Int)+1) p):run T (n+5) (.meth "Sheet" "move") [.ref 9,.int 0,.int 0,.int j,p] (S.hp r)=.exc "NoPlace" (S.hp r):=by
 rw [zG X.kBq]
 exact zY (fr:=[some (.ref 9),some (.int 0),some (.int 0),some (.int j),some p,none,none,none]) rfl rfl ((z7 (zZ (zC (a:=9) (z5 rfl) rfl ze (ev1 (z5 rfl) ev0) (yP X (Int.le_refl 0) hh)))).trans ((z7 (zZ (zC (a:=9) (z5 rfl) rfl yG (ev1 (z5 rfl) (ev1 (z5 rfl) ev0)) (xP X (Int.le_refl 0) h1 h2)))).trans (zm (zp (zC (a:=9) (z5 rfl) rfl zu (ev1 (z5 rfl) ev0) (jo X w))))))
theorem z51 (hh:0<S.hands) {j k:Int} (k0:0<k) (k1:k<j) (h2:j≤S.b.countP id):run T (n+5) (.meth "Sheet" "move") [.ref 9,.int 0,.int 0,.int j,.int k] (S.hp r)=.exc "NoPlace" (S.hp r):=by
 rw [zG X.kBq]
 exact zY (fr:=[some (.ref 9),some (.int 0),some (.int 0),some (.int j),some (.int k),none,none,none]) rfl rfl ((z7 (zZ (zC (a:=9) (z5 rfl) rfl ze (ev1 (z5 rfl) ev0) (yP X (Int.le_refl 0) hh)))).trans ((z7 (zZ (zC (a:=9) (z5 rfl) rfl yG (ev1 (z5 rfl) (ev1 (z5 rfl) ev0)) (xP X (Int.le_refl 0) (Int.lt_trans k0 k1) h2)))).trans ((z7 (zZ (zC (a:=9) (z5 rfl) rfl zu (ev1 (z5 rfl) ev0) (yf X (Int.le_of_lt k0) (Int.le_trans (Int.le_of_lt k1) h2))))).trans (zm (yN (yi (v:=.int 0) (w:=.int k) (u:=.int j) (z5 rfl) (z5 rfl) (by rw [yS,decide_eq_true k0]) (z5 rfl) (by rw [yS,decide_eq_true k1])))))))
theorem z25 (hh:0<S.hands) (w:t=.str "" ∨ Bt (S.hp r) t):∃ g,run T (n+4) (.meth "Sheet" "put") [.ref 9,.int 0,.int (S.b.countP id:Nat),t] (S.hp r)=.exc "BadText" (S.hp r++g):=by
 have key:∀ g,y8 .Or [(yn (yT (zK (zI (some (.fn "is_text"))) [(z6 3)]))),(zj (z6 3) [.Eq] [(z8 (.str ""))])] (run T (n+3)) [some (.ref 9),some (.int 0),some (.int (S.b.countP id:Nat)),some t] (S.hp r)=.ok true (S.hp r++g)→run T (n+4) (.meth "Sheet" "put") [.ref 9,.int 0,.int (S.b.countP id:Nat),t] (S.hp r)=.exc "BadText" (S.hp r++g):=fun g e=>by
  rw [zG X.kBt]
  exact zY (fr:=[some (.ref 9),some (.int 0),some (.int (S.b.countP id:Nat)),some t]) rfl rfl ((z7 (zZ (zC (a:=9) (z5 rfl) rfl ze (ev1 (z5 rfl) ev0) (yP X (Int.le_refl 0) hh)))).trans ((z7 (zZ (zC (a:=9) (z5 rfl) rfl zu (ev1 (z5 rfl) ev0) (yf X (Int.natCast_nonneg _) (Int.le_refl _))))).trans (zm (yN e))))
 rcases w with rfl | w
 ·have et:=wv X (n:=n+2) (cs:=[]) (by decide) (hp:=S.hp r)
  refine ⟨_,key _ (yv (zx (b:=true) (yZ (v:=.bool true) (zc (ev1 (z5 rfl) ev0) et) rfl)) (jk (zb (v:=.str "") (w:=.str "") (z5 rfl) rfl ?_)))⟩
  rw [xN,qj Z2 Z2,beq_self_eq_true]
 ·obtain ⟨g,e⟩:=YW X (n:=n+2) w
  exact ⟨g,key g (jk (zx (b:=false) (yZ (zc (ev1 (z5 rfl) ev0) e) rfl)))⟩
theorem z09 (w:Od (S.hp r) S.le.length v):run T (n+3) (.meth "Sheet" "letter") [.ref 9,v] (S.hp r)=.exc "NoSeat" (S.hp r):=by
 rw [zG X.kAv]
 exact zY (fr:=[some (.ref 9),some v]) rfl rfl (zm (zp (zC (a:=9) (z5 rfl) rfl xa (ev1 (z5 rfl) ev0) (Zq X w))))
theorem Qg (w:Od (S.hp r) S.le.length v):run T (n+3) (.meth "Sheet" "place_of") [.ref 9,v] (S.hp r)=.exc "NoSeat" (S.hp r):=by
 rw [zG X.kAo]
 exact zY (fr:=[some (.ref 9),some v]) rfl rfl (zm (zp (zC (a:=9) (z5 rfl) rfl xa (ev1 (z5 rfl) ev0) (Zq X w))))
theorem XQ (w:Od (S.hp r) S.le.length v):run T (n+3) (.meth "Sheet" "is_ahead") [.ref 9,v,u] (S.hp r)=.exc "NoSeat" (S.hp r):=by
 rw [zG X.kAm]
 exact zY (fr:=[some (.ref 9),some v,some u]) rfl rfl (zm (zp (zC (a:=9) (z5 rfl) rfl xa (ev1 (z5 rfl) ev0) (Zq X w))))
theorem z0r (hl:0<S.le.length) (w:Od (S.hp r) S.le.length v):run T (n+3) (.meth "Sheet" "is_ahead") [.ref 9,.int 0,v] (S.hp r)=.exc "NoSeat" (S.hp r):=by
 rw [zG X.kAm]
 exact zY (fr:=[some (.ref 9),some (.int 0),some v]) rfl rfl ((z7 (zZ (zC (a:=9) (z5 rfl) rfl xa (ev1 (z5 rfl) ev0) (z1o X (Int.le_refl 0) (Int.ofNat_lt.mpr hl))))).trans (zm (zp (zC (a:=9) (z5 rfl) rfl xa (ev1 (z5 rfl) ev0) (Zq X w)))))
theorem z38 (w:Od (S.hp r) S.dn.length v):run T (n+3) (.meth "Sheet" "deed") [.ref 9,v] (S.hp r)=.exc "NoDeed" (S.hp r):=by
 rw [zG X.kBk]
 exact zY (fr:=[some (.ref 9),some v,none,none,none]) rfl rfl (zm (zp (zC (a:=9) (z5 rfl) rfl wJ (ev1 (z5 rfl) ev0) (Je X w))))
theorem jS (w:Od (S.hp r) S.dn.length v):run T (n+3) (.meth "Sheet" "stands") [.ref 9,v] (S.hp r)=.exc "NoDeed" (S.hp r):=by
 rw [zG X.kAx]
 exact zY (fr:=[some (.ref 9),some v]) rfl rfl (zm (zp (zC (a:=9) (z5 rfl) rfl wJ (ev1 (z5 rfl) ev0) (Je X w))))
theorem Yq (w:Od (S.hp r) S.dn.length v):run T (n+4) (.meth "Sheet" "take_back") [.ref 9,v] (S.hp r)=.exc "NoDeed" (S.hp r):=by
 rw [zG X.kAj]
 exact zY (fr:=[some (.ref 9),some v]) rfl rfl (zm (zJ9 (zGw (z1z (zC (a:=9) (z5 rfl) rfl jC (ev1 (z5 rfl) ev0) (jS X w))))))
theorem Q6 (w:Od (S.hp r) S.dn.length v):run T (n+4) (.meth "Sheet" "do_again") [.ref 9,v] (S.hp r)=.exc "NoDeed" (S.hp r):=by
 rw [zG X.kAp]
 exact zY (fr:=[some (.ref 9),some v]) rfl rfl (zm (zJ9 (z1z (zC (a:=9) (z5 rfl) rfl jC (ev1 (z5 rfl) ev0) (jS X w)))))
theorem Zm {i:Int} (h0:0≤i) (h1:i<S.dn.length) (hst:S.st.length=S.dn.length) (hs:S.st.length<200) (hf:fl S.st i=true):run T (n+4) (.meth "Sheet" "do_again") [.ref 9,.int i] (S.hp r)=.exc "NoDeed" (S.hp r):=by
 rw [zG X.kAp]
 exact zY (fr:=[some (.ref 9),some (.int i)]) rfl rfl (zm (yN (yZ (v:=.bool true) (zC (a:=9) (z5 rfl) rfl jC (ev1 (z5 rfl) ev0) ((z49 X h0 h1 hst hs).trans (by rw [hf]))) rfl)))
theorem Jx (hh:0<S.hands) (hl:S.lo=[]):run T (n+4) (.fn "redo") [.ref 9,.int 0] (S.hp r)=.exc "NoDeed" (S.hp r):=by
 have e:run T (n+3) (.meth "Sheet" "last_gone") [.ref 9,.int 0] (S.hp r)=.ok .none (S.hp r):=by
  rw [zG X.kAl]
  refine zO (fr:=[some (.ref 9),some (.int 0),none,none]) rfl rfl (fr':=[some (.ref 9),some (.int 0),some .none,none]) ?_
  unfold kAl
  dsimp only
  refine (z7 (zZ (zC (a:=9) (z5 rfl) rfl ze (ev1 (z5 rfl) ev0) (yP X (Int.le_refl 0) hh)))).trans ?_
  refine (z7 (zd (j:=2) rfl (zU rfl))).trans ?_
  have hg:(S.hp r)[22]? = some (.list []):=by show some (AO.list (S.lo.map AV.int))=_;rw [hl];rfl
  refine (z7 (wj (en:=false) (src:=.ref 22) (m:=0) (v:=.ref 22) (zR (z5 rfl) rfl zJt) (by show (match (S.hp r)[22]? with | some (.list xs)=>some (Src.ref 22,xs.length) | _=>none)=_;rw [hg];rfl) (resS:=.ok .next [some (.ref 9),some (.int 0),some .none,none] (S.hp r)) ?_)).trans (zP (zo (z5 rfl)))
  show (match (match (S.hp r)[22]? with | some (.list ys)=>some ys[0]? | _=>none) with | none=>OS.stuck | some none=>.ok .next _ (S.hp r) | some (some x)=>_)=_
  rw [hg];rfl
 rw [yc X.f_redo]
 refine zY (fr:=[some (.ref 9),some (.int 0),none]) rfl rfl (nw:=true) (fr':=[some (.ref 9),some (.int 0),some .none]) ?_
 unfold f_redo
 dsimp only
 exact (z7 (zd (j:=2) (zC (a:=9) (z5 rfl) rfl wL (ev1 (z5 rfl) ev0) e) (zU rfl))).trans (zm (yN (zb (v:=.none) (w:=.none) (z5 rfl) rfl rfl)))
end
set_option genInjectivity false
set_option genSizeOf false
theorem wm0:(("BadText" : Str),("text" : Str))∈qQ:=.head _
theorem wm1:(("NoPlace" : Str),("place" : Str))∈qQ:=.tail _ (.head _)
theorem wm2:(("NoSeat" : Str),("seat" : Str))∈qQ:=.tail _ (.tail _ (.head _))
theorem wm3:(("NoHand" : Str),("hand" : Str))∈qQ:=.tail _ (.tail _ (.tail _ (.head _)))
theorem wm4:(("NoDeed" : Str),("deed" : Str))∈qQ:=.tail _ (.tail _ (.tail _ (.tail _ (.head _))))
theorem wm5:(("NoMark" : Str),("mark" : Str))∈qQ:=.tail _ (.tail _ (.tail _ (.tail _ (.tail _ (.head _)))))
section
variable {T:Tab} {okf exm:Str→Str→Bool} {isx:Str→Str→Option Bool} {L:Nat→LamS} (X:TL T okf exm isx L) {n:Nat}
include X
theorem zS {c w:Str} (hc:(c,w)∈qQ) {l:LamS} {cs:List Nat} {h:Hp} (e:run T (n+1) (.lam l) (cs.map AV.ref) h=.exc c h):Rf T (n+2) l cs w h:=xX X hc (g:=[]) (by rw [List.append_nil];exact e)
variable {S:Sh} {x:Hp} {v u t p:AV} {c0 c1 c2 c3 c4:Nat}
theorem l7 (e0:Cl (S.hp x) c0 v) (e1:Cl (S.hp x) c1 u) (e2:Cl (S.hp x) c2 (.ref 9)) (e3:Cl (S.hp x) c3 t) (w:Od (S.hp x) S.hands v):Rf T (n+12) (L 7) [c0,c1,c2,c3] "hand" (S.hp x):=by
 refine zS X wm3 ?_
 rw [zW (X.lam 7 rfl) rfl]
 exact zC (a:=9) (zE rfl e2) rfl YN (ev1 (zE rfl e0) (ev1 (zE rfl e1) (ev1 (zE rfl e3) ev0))) (z27 X.tt w)
theorem l8 (e0:Cl (S.hp x) c0 u) (e1:Cl (S.hp x) c1 t) (e2:Cl (S.hp x) c2 v) (e3:Cl (S.hp x) c3 (.ref 9)) (w:Od (S.hp x) S.hands v):Rf T (n+12) (L 8) [c0,c1,c2,c3] "hand" (S.hp x):=by
 refine zS X wm3 ?_
 rw [zW (X.lam 8 rfl) rfl]
 exact zC (a:=9) (zE rfl e3) rfl Z8 (ev1 (zE rfl e2) (ev1 (zE rfl e0) (ev1 (zE rfl e1) ev0))) (z3e X.tt w)
theorem l9 (e0:Cl (S.hp x) c0 u) (e1:Cl (S.hp x) c1 t) (e2:Cl (S.hp x) c2 v) (e3:Cl (S.hp x) c3 p) (e4:Cl (S.hp x) c4 (.ref 9)) (w:Od (S.hp x) S.hands v):Rf T (n+12) (L 9) [c0,c1,c2,c3,c4] "hand" (S.hp x):=by
 refine zS X wm3 ?_
 rw [zW (X.lam 9 rfl) rfl]
 exact zC (a:=9) (zE rfl e4) rfl wK (ev1 (zE rfl e2) (ev1 (zE rfl e0) (ev1 (zE rfl e1) (ev1 (zE rfl e3) ev0)))) (z04 X.tt w)
theorem l10 (e0:Cl (S.hp x) c0 v) (e1:Cl (S.hp x) c1 (.ref 9)) (w:Od (S.hp x) S.hands v):Rf T (n+12) (L 10) [c0,c1] "hand" (S.hp x):=by
 refine zS X wm3 ?_
 rw [zW (X.lam 10 rfl) rfl]
 exact zc (ev1 (zE rfl e1) (ev1 (zE rfl e0) ev0)) (Jn X.tt w)
theorem l11 (e0:Cl (S.hp x) c0 v) (e1:Cl (S.hp x) c1 (.ref 9)) (w:Od (S.hp x) S.hands v):Rf T (n+12) (L 11) [c0,c1] "hand" (S.hp x):=by
 refine zS X wm3 ?_
 rw [zW (X.lam 11 rfl) rfl]
 exact zc (ev1 (zE rfl e1) (ev1 (zE rfl e0) ev0)) (Jy X.tt w)
theorem l12 (e0:Cl (S.hp x) c0 v) (e1:Cl (S.hp x) c1 (.ref 9)) (w:Od (S.hp x) S.hands v):Rf T (n+12) (L 12) [c0,c1] "hand" (S.hp x):=by
 refine zS X wm3 ?_
 rw [zW (X.lam 12 rfl) rfl]
 exact zC (a:=9) (zE rfl e1) rfl qx (ev1 (zE rfl e0) ev0) (qW X.tt w)
theorem l13 (e0:Cl (S.hp x) c0 v) (e1:Cl (S.hp x) c1 (.ref 9)) (w:Od (S.hp x) S.hands v):Rf T (n+12) (L 13) [c0,c1] "hand" (S.hp x):=by
 refine zS X wm3 ?_
 rw [zW (X.lam 13 rfl) rfl]
 exact zC (a:=9) (zE rfl e1) rfl wL (ev1 (zE rfl e0) ev0) (wu X.tt w)
theorem l14 (e0:Cl (S.hp x) c0 v) (e1:Cl (S.hp x) c1 (.ref 9)) (e2:Cl (S.hp x) c2 t) (hh:0<S.hands) (w:Od (S.hp x) (((S.b.countP id:Nat):Int)+1) v):Rf T (n+12) (L 14) [c0,c1,c2] "place" (S.hp x):=by
 refine zS X wm1 ?_
 rw [zW (X.lam 14 rfl) rfl]
 exact zC (a:=9) (zE rfl e1) rfl YN (ev1 rfl (ev1 (zE rfl e0) (ev1 (zE rfl e2) ev0))) (z01 X.tt hh w)
theorem l15 (e0:Cl (S.hp x) c0 v) (e1:Cl (S.hp x) c1 (.ref 9)) (e2:Cl (S.hp x) c2 (.int (S.b.countP id:Nat))) (hh:0<S.hands) (w:Od (S.hp x) ((S.b.countP id:Nat):Int) v):Rf T (n+12) (L 15) [c0,c1,c2] "place" (S.hp x):=by
 refine zS X wm1 ?_
 rw [zW (X.lam 15 rfl) rfl]
 exact zC (a:=9) (zE rfl e1) rfl Z8 (ev1 rfl (ev1 (zE rfl e0) (ev1 (zE rfl e2) ev0))) (jH X.tt hh (zGq X.tt w))
theorem l16 (e0:Cl (S.hp x) c0 v) (e1:Cl (S.hp x) c1 (.ref 9)) (hh:0<S.hands) (w:Od (S.hp x) (((S.b.countP id:Nat):Int)+1) v):Rf T (n+12) (L 16) [c0,c1] "place" (S.hp x):=by
 refine zS X wm1 ?_
 rw [zW (X.lam 16 rfl) rfl]
 exact zC (a:=9) (zE rfl e1) rfl Z8 (ev1 rfl (ev1 rfl (ev1 (zE rfl e0) ev0))) (jH X.tt hh (zGr X.tt (Int.le_refl 0) (Int.natCast_nonneg _) w))
theorem l17 (e0:Cl (S.hp x) c0 v) (e1:Cl (S.hp x) c1 (.ref 9)) (hh:0<S.hands) (w:Od (S.hp x) (((S.b.countP id:Nat):Int)+1) v):Rf T (n+12) (L 17) [c0,c1] "place" (S.hp x):=by
 refine zS X wm1 ?_
 rw [zW (X.lam 17 rfl) rfl]
 exact zC (a:=9) (zE rfl e1) rfl wK (ev1 rfl (ev1 rfl (ev1 (zE rfl e0) (ev1 rfl ev0)))) (jX X.tt hh (zGr X.tt (Int.le_refl 0) (Int.natCast_nonneg _) w))
theorem l18 (e0:Cl (S.hp x) c0 v) (e1:Cl (S.hp x) c1 p) (e2:Cl (S.hp x) c2 (.ref 9)) (e3:Cl (S.hp x) c3 (.int (S.b.countP id:Nat))) (hh:0<S.hands) (w:Od (S.hp x) ((S.b.countP id:Nat):Int) v):Rf T (n+12) (L 18) [c0,c1,c2,c3] "place" (S.hp x):=by
 refine zS X wm1 ?_
 rw [zW (X.lam 18 rfl) rfl]
 exact zC (a:=9) (zE rfl e2) rfl wK (ev1 rfl (ev1 (zE rfl e0) (ev1 (zE rfl e3) (ev1 (zE rfl e1) ev0)))) (jX X.tt hh (zGq X.tt w))
theorem l19 (e0:Cl (S.hp x) c0 v) (e1:Cl (S.hp x) c1 (.ref 9)) (G:Good S.l S.b) (w:Od (S.hp x) ((S.b.countP id:Nat):Int) v):Rf T (n+12) (L 19) [c0,c1] "place" (S.hp x):=by
 refine xX X wm1 (g:=[.list ((tk S.b S.l).map AV.int)]) ?_
 rw [zW (X.lam 19 rfl) rfl]
 exact zC (a:=9) (zE rfl e1) rfl xT (ev1 (zE rfl e0) ev0) (jT X.tt G w)
theorem l20 (e0:Cl (S.hp x) c0 (.ref 9)) (e1:Cl (S.hp x) c1 (.int (S.b.countP id:Nat))) (hh:0<S.hands):Rf T (n+12) (L 20) [c0,c1] "place" (S.hp x):=by
 refine zS X wm1 ?_
 rw [zW (X.lam 20 rfl) rfl]
 exact zC (a:=9) (zE rfl e0) rfl Z8 (ev1 rfl (ev1 (zE rfl e1) (ev1 (zE rfl e1) ev0))) (jH X.tt hh (JH X.tt (Int.natCast_nonneg _) (Int.le_refl _) (Int.natCast_nonneg _) (Int.le_refl _) (Int.le_refl _)))
theorem l21 (e0:Cl (S.hp x) c0 (.ref 9)) (hh:0<S.hands):Rf T (n+12) (L 21) [c0] "place" (S.hp x):=by
 refine zS X wm1 ?_
 rw [zW (X.lam 21 rfl) rfl]
 exact zC (a:=9) (zE rfl e0) rfl wK (ev1 rfl (ev1 rfl (ev1 rfl (ev1 rfl ev0)))) (jX X.tt hh (JH X.tt (Int.le_refl 0) (Int.natCast_nonneg _) (Int.le_refl 0) (Int.natCast_nonneg _) (Int.le_refl 0)))
theorem l22 (e0:Cl (S.hp x) c0 (.ref 9)) (e1:Cl (S.hp x) c1 (.int (S.b.countP id:Nat))) (hh:0<S.hands) (h1:(1:Int)<(S.b.countP id:Nat)):Rf T (n+12) (L 22) [c0,c1] "place" (S.hp x):=by
 refine zS X wm1 ?_
 rw [zW (X.lam 22 rfl) rfl]
 exact zC (a:=9) (zE rfl e0) rfl wK (ev1 rfl (ev1 rfl (ev1 (zE rfl e1) (ev1 rfl ev0)))) (z51 X.tt hh (by decide) h1 (Int.le_refl _))
theorem l23 (e0:Cl (S.hp x) c0 v) (e1:Cl (S.hp x) c1 (.ref 9)) (e2:Cl (S.hp x) c2 (.int (S.b.countP id:Nat))) (hh:0<S.hands) (h1:(1:Int)<(S.b.countP id:Nat)) (w:Od (S.hp x) (((S.b.countP id:Nat):Int)+1) v):Rf T (n+12) (L 23) [c0,c1,c2] "place" (S.hp x):=by
 refine zS X wm1 ?_
 rw [zW (X.lam 23 rfl) rfl]
 exact zC (a:=9) (zE rfl e1) rfl wK (ev1 rfl (ev1 rfl (ev1 (zE rfl e2) (ev1 (zE rfl e0) ev0)))) (z50 X.tt hh (Int.lt_trans (by decide) h1) (Int.le_refl _) w)
theorem l24 (e0:Cl (S.hp x) c0 (.ref 9)) (hh:0<S.hands) (h1:(1:Int)<(S.b.countP id:Nat)):Rf T (n+12) (L 24) [c0] "place" (S.hp x):=by
 refine zS X wm1 ?_
 rw [zW (X.lam 24 rfl) rfl]
 exact zC (a:=9) (zE rfl e0) rfl Z8 (ev1 rfl (ev1 rfl (ev1 rfl ev0))) (jH X.tt hh (JH X.tt (by decide) (Int.le_of_lt h1) (by decide) (Int.le_of_lt h1) (Int.le_refl 1)))
theorem l25 (e0:Cl (S.hp x) c0 (.ref 9)) (e1:Cl (S.hp x) c1 (.int (S.b.countP id:Nat))) (e2:Cl (S.hp x) c2 t) (hh:0<S.hands) (w:t=.str "" ∨ Bt (S.hp x) t):Rf T (n+12) (L 25) [c0,c1,c2] "text" (S.hp x):=by
 obtain ⟨g,e⟩:=z25 X.tt (n:=n+6) hh w
 refine xX X wm0 (g:=g) ?_
 rw [zW (X.lam 25 rfl) rfl]
 exact zC (a:=9) (zE rfl e0) rfl YN (ev1 rfl (ev1 (zE rfl e1) (ev1 (zE rfl e2) ev0))) e
theorem l26 (e0:Cl (S.hp x) c0 (.ref 9)) (e1:Cl (S.hp x) c1 v) (w:Od (S.hp x) S.le.length v):Rf T (n+12) (L 26) [c0,c1] "seat" (S.hp x):=by
 refine zS X wm2 ?_
 rw [zW (X.lam 26 rfl) rfl]
 exact zC (a:=9) (zE rfl e0) rfl z07 (ev1 (zE rfl e1) ev0) (z09 X.tt w)
theorem l27 (e0:Cl (S.hp x) c0 (.ref 9)) (e1:Cl (S.hp x) c1 v) (w:Od (S.hp x) S.le.length v):Rf T (n+12) (L 27) [c0,c1] "seat" (S.hp x):=by
 refine zS X wm2 ?_
 rw [zW (X.lam 27 rfl) rfl]
 exact zC (a:=9) (zE rfl e0) rfl ZU (ev1 (zE rfl e1) ev0) (Qg X.tt w)
theorem l28 (e0:Cl (S.hp x) c0 (.ref 9)) (e1:Cl (S.hp x) c1 v) (w:Od (S.hp x) S.le.length v):Rf T (n+12) (L 28) [c0,c1] "seat" (S.hp x):=by
 refine zS X wm2 ?_
 rw [zW (X.lam 28 rfl) rfl]
 exact zC (a:=9) (zE rfl e0) rfl wr (ev1 (zE rfl e1) (ev1 (zE rfl e1) ev0)) (XQ X.tt w)
theorem l29 (e0:Cl (S.hp x) c0 (.ref 9)) (e1:Cl (S.hp x) c1 v) (hl:0<S.le.length) (w:Od (S.hp x) S.le.length v):Rf T (n+12) (L 29) [c0,c1] "seat" (S.hp x):=by
 refine zS X wm2 ?_
 rw [zW (X.lam 29 rfl) rfl]
 exact zC (a:=9) (zE rfl e0) rfl wr (ev1 rfl (ev1 (zE rfl e1) ev0)) (z0r X.tt hl w)
theorem l30 (e0:Cl (S.hp x) c0 (.ref 9)) (e1:Cl (S.hp x) c1 v) (w:Od (S.hp x) S.le.length v):Rf T (n+12) (L 30) [c0,c1] "seat" (S.hp x):=by
 refine zS X wm2 ?_
 rw [zW (X.lam 30 rfl) rfl]
 exact zC (a:=9) (zE rfl e0) rfl wr (ev1 (zE rfl e1) (ev1 rfl ev0)) (XQ X.tt w)
theorem l31 (e0:Cl (S.hp x) c0 v) (e1:Cl (S.hp x) c1 (.ref 9)) (w:Od (S.hp x) S.dn.length v):Rf T (n+12) (L 31) [c0,c1] "deed" (S.hp x):=by
 refine zS X wm4 ?_
 rw [zW (X.lam 31 rfl) rfl]
 exact zC (a:=9) (zE rfl e1) rfl z53 (ev1 (zE rfl e0) ev0) (z38 X.tt w)
theorem l32 (e0:Cl (S.hp x) c0 v) (e1:Cl (S.hp x) c1 (.ref 9)) (w:Od (S.hp x) S.dn.length v):Rf T (n+12) (L 32) [c0,c1] "deed" (S.hp x):=by
 refine zS X wm4 ?_
 rw [zW (X.lam 32 rfl) rfl]
 exact zC (a:=9) (zE rfl e1) rfl jC (ev1 (zE rfl e0) ev0) (jS X.tt w)
theorem l33 (e0:Cl (S.hp x) c0 v) (e1:Cl (S.hp x) c1 (.ref 9)) (w:Od (S.hp x) S.dn.length v):Rf T (n+12) (L 33) [c0,c1] "deed" (S.hp x):=by
 refine zS X wm4 ?_
 rw [zW (X.lam 33 rfl) rfl]
 exact zC (a:=9) (zE rfl e1) rfl Xu (ev1 (zE rfl e0) ev0) (Yq X.tt w)
theorem l34 (e0:Cl (S.hp x) c0 v) (e1:Cl (S.hp x) c1 (.ref 9)) (w:Od (S.hp x) S.dn.length v):Rf T (n+12) (L 34) [c0,c1] "deed" (S.hp x):=by
 refine zS X wm4 ?_
 rw [zW (X.lam 34 rfl) rfl]
 exact zC (a:=9) (zE rfl e1) rfl ZV (ev1 (zE rfl e0) ev0) (Q6 X.tt w)
theorem l35 {i:Int} (e0:Cl (S.hp x) c0 (.int i)) (e1:Cl (S.hp x) c1 (.ref 9)) (h0:0≤i) (h1:i<S.dn.length) (hst:S.st.length=S.dn.length) (hs:S.st.length<200) (hf:fl S.st i=true):Rf T (n+12) (L 35) [c0,c1] "deed" (S.hp x):=by
 refine zS X wm4 ?_
 rw [zW (X.lam 35 rfl) rfl]
 exact zC (a:=9) (zE rfl e1) rfl ZV (ev1 (zE rfl e0) ev0) (Zm X.tt h0 h1 hst hs hf)
theorem l50 (e0:Cl (S.hp x) c0 (.ref 9)) (hh:0<S.hands) (hl:S.lo=[]):Rf T (n+12) (L 50) [c0] "deed" (S.hp x):=by
 refine zS X wm4 ?_
 rw [zW (X.lam 50 rfl) rfl]
 exact zc (ev1 (zE rfl e0) (ev1 rfl ev0)) (Jx X.tt hh hl)
end
end Mine.LS
end
section
set_option genInjectivity false
set_option genSizeOf false
namespace Mine
open PySem
theorem wx {t:NTgt} {body:XS} {src:Src} {f k:Nat} {cf:CF} {fr fr1 fr2:AFr} {h h1 h2:Hp} {x:AV} {res:OS} (e:src.next? h k=some (some x)) (eb:jQ h t x fr=some (fr1,h1)) (ey:body cf fr1 h1=.ok .next fr2 h2) (er:yz t body src f (k+1) cf fr2 h2=res):yz t body src (f+1) k cf fr h=res:=by
 show (match src.next? h k with
  | none=>OS.stuck
  | some none=>.ok .next fr h
  | some (some x)=>(match jQ h t x fr with
   | none=>.stuck
   | some p=>(match body cf p.1 p.2 with
    | .ok .next fr₂ h₂=>yz t body src f (k+1) cf fr₂ h₂
    | .ok (.ret v) fr₂ h₂=>.ok (.ret v) fr₂ h₂
    | _=>.stuck)))=_
 rw [e]
 show (match jQ h t x fr with
   | none=>OS.stuck
   | some p=>(match body cf p.1 p.2 with
    | .ok .next fr₂ h₂=>yz t body src f (k+1) cf fr₂ h₂
    | .ok (.ret v) fr₂ h₂=>.ok (.ret v) fr₂ h₂
    | _=>.stuck))=_
 rw [eb]
 show (match body cf fr1 h1 with
    | .ok .next fr₂ h₂=>yz t body src f (k+1) cf fr₂ h₂
    | .ok (.ret v) fr₂ h₂=>.ok (.ret v) fr₂ h₂
    | _=>.stuck)=_
 rw [ey];exact er
theorem Zx {t:NTgt} {body:XS} {src:Src} {f k:Nat} {cf:CF} {fr:AFr} {h:Hp} (e:src.next? h k=some none):yz t body src (f+1) k cf fr h=.ok .next fr h:=by
 show (match src.next? h k with
  | none=>OS.stuck
  | some none=>.ok .next fr h
  | some (some x)=>_)=_
 rw [e]
theorem z4w {h:Hp} {a:Nat} {vs:List AV} {z:Int} (e:h[a]? = some (.list vs)) (z0:0≤z) (z1:z<vs.length) (z2:vs.length≤small):∃ v,v∈vs∧we h (.ref a) (.int z)=some v:=by
 have h2:z.toNat<vs.length:=(Int.toNat_lt z0).mpr z1
 have h3:okI z=true:=by rw [← Int.toNat_of_nonneg z0];exact qf (Nat.le_trans (Nat.le_of_lt h2) z2)
 refine ⟨vs[z.toNat],List.getElem_mem h2,?_⟩
 rw [xn h3,e]
 exact yO h2
theorem zI4 {cf:CF} {fr:AFr} {h:Hp}:zV .Pow (z8 (.int 10)) (z8 (.int 12)) cf fr h=.ok (.int 1000000000000) h:=by
 refine xI (v:=.int 10) (w:=.int 12) rfl rfl ?_
 show Out.of ((if (10:Int)=10∧(12:Int)=12 then some 1000000000000 else if (10:Int)=10∧(12:Int)=9 then some 1000000000 else none).map AV.int) h=_
 rw [if_pos ⟨rfl,rfl⟩];rfl
theorem zJs {cf:CF} {fr:AFr} {h:Hp}:zV .Pow (z8 (.int 10)) (z8 (.int 9)) cf fr h=.ok (.int 1000000000) h:=by
 refine xI (v:=.int 10) (w:=.int 9) rfl rfl ?_
 show Out.of ((if (10:Int)=10∧(9:Int)=12 then some 1000000000000 else if (10:Int)=10∧(9:Int)=9 then some 1000000000 else none).map AV.int) h=_
 rw [if_neg (by decide),if_pos ⟨rfl,rfl⟩];rfl
end Mine
namespace Mine.LS
open PySem Mine
set_option maxRecDepth 100000
set_option maxHeartbeats 1000000
section
variable {T:Tab} {okf exm:Str→Str→Bool} {isx:Str→Str→Option Bool} {L:Nat→LamS} (X:TL T okf exm isx L) {n:Nat}
include X
theorem zH3 {c b:Int} (hb:0≤b) {h:Hp}:∃ v g,run T (n+1) (.fn "_law_odd") [.int c,.int b] h=.ok v (h++g)∧Od (h++g) b v:=by
 let m:Int:=c.fmod 1000000000000
 have m0:0≤m:=Int.fmod_nonneg_of_pos _ (by decide)
 let A:AO:=.list [.int 0]
 let vs:List AV:=[.int (-1),.int b,.int (b+1+m),.bool true,.none,.str "0",.ref h.length,.ref (h.length+1),.bool false,.int (-1 - m),.tup [.int 0]]
 have l1:(h++[A]).length=h.length+1:=zX
 have l2:(h++[A,.dict []]).length=h.length+2:=zX
 have a1:h++[A]++[AO.dict []]=h++[A,.dict []]:=List.append_assoc _ _ _
 have a2:h++[A,AO.dict []]++[AO.list vs]=h++[A,.dict [],.list vs]:=List.append_assoc _ _ _
 obtain ⟨z0,z1⟩:=fmr (c.fdiv 7) (d:=11) (by decide)
 obtain ⟨v,hv,ev⟩:=z4w (h:=h++[A,.dict [],.list vs]) (a:=h.length+2) (vs:=vs) (zD h _ 2) z0 z1 (zU rfl)
 refine ⟨v,[A,.dict [],.list vs],?_,?_⟩
 ·rw [yc X.kCg]
  refine zO (fr:=[some (.int c),some (.int b),none]) rfl rfl (fr':=[some (.int c),some (.int b),some (.ref (h.length+2))]) ?_
  unfold kCg
  dsimp only
  have em:∀ hh:Hp,zV .Mod (z6 0) (zV .Pow (z8 (.int 10)) (z8 (.int 12))) (run T n) [some (.int c),some (.int b),none] hh=.ok (.int m) hh:=fun hh=>YD (z5 rfl) zI4 (by decide)
  have ed:wZ (run T n) [some (.int c),some (.int b),none] (h++[A])=.ok (.ref (h.length+1)) (h++[A,.dict []]):=by
   show Out.ok (AV.ref (h++[A]).length) (h++[A]++[AO.dict []])=_
   rw [l1,a1]
  have ea:zT [(z8 (.int 0))] (run T n) [some (.int c),some (.int b),none] h=.ok (.ref h.length) (h++[A]):=yD (ev1 rfl ev0)
  have es:zV .Sub (Zo (z8 (.int 1))) (zV .Mod (z6 0) (zV .Pow (z8 (.int 10)) (z8 (.int 12)))) (run T n) [some (.int c),some (.int b),none] (h++[A,.dict []])=.ok (.int (-1 - m)) (h++[A,.dict []]):=xI (z21 (k:=1) rfl) (em _) Zz
  have el:zT [(Zo (z8 (.int 1))),(z6 1),(zV .Add (zV .Add (z6 1) (z8 (.int 1))) (zV .Mod (z6 0) (zV .Pow (z8 (.int 10)) (z8 (.int 12))))),(z8 (.bool true)),(z8 .none),(z8 (.str "0")),(zT [(z8 (.int 0))]),wZ,(z8 (.bool false)),(zV .Sub (Zo (z8 (.int 1))) (zV .Mod (z6 0) (zV .Pow (z8 (.int 10)) (z8 (.int 12))))),(xG [(z8 (.int 0))])] (run T n) [some (.int c),some (.int b),none] h=.ok (.ref (h.length+2)) (h++[A,.dict [],.list vs]):=(yD (vs:=vs) (h1:=h++[A,.dict []]) (ev1 (v:=.int (-1)) (z21 (k:=1) rfl) (ev1 (z5 rfl) (ev1 (qw (qw (z5 rfl) rfl) (em _)) (ev1 rfl (ev1 rfl (ev1 rfl (ev1 ea (ev1 ed (ev1 rfl (ev1 es (ev1 (xi (ev1 rfl ev0)) ev0)))))))))))).trans (by rw [l2,a2])
  refine (z7 (zd (j:=2) el (zU rfl))).trans ?_
  exact zP (zo (ya (z5 rfl) (qe (xM (z5 rfl) (by decide)) (by decide)) ev))
 ·have e0:(h++[A,.dict [],.list vs])[h.length]? = some A:=zQ h _ _
  have e1:(h++[A,.dict [],.list vs])[h.length+1]? = some (.dict []):=zD h _ 1
  have hv:v∈([.int (-1),.int b,.int (b+1+m),.bool true,.none,.str "0",.ref h.length,.ref (h.length+1),.bool false,.int (-1 - m),.tup [.int 0]]:List AV):=hv
  simp only [List.mem_cons,List.not_mem_nil,or_false] at hv
  rcases hv with rfl | rfl | rfl | rfl | rfl | rfl | rfl | rfl | rfl | rfl | rfl
  ·exact .inr ⟨_,rfl,fun q=>absurd q.1 (by decide)⟩
  ·exact .inr ⟨_,rfl,fun q=>Int.lt_irrefl _ q.2⟩
  ·exact .inr ⟨_,rfl,fun q=>Int.not_lt.mpr (Int.le_trans (Int.le_add_one (Int.le_refl b)) (Int.le_add_of_nonneg_right m0)) q.2⟩
  ·exact .inl (.inr (.inl ⟨_,rfl⟩))
  ·exact .inl (.inl rfl)
  ·exact .inl (.inr (.inr (.inl ⟨_,rfl⟩)))
  ·exact .inl (.inr (.inr (.inr (.inr ⟨_,_,rfl,e0,.inl ⟨_,rfl⟩⟩))))
  ·exact .inl (.inr (.inr (.inr (.inr ⟨_,_,rfl,e1,.inr ⟨_,rfl⟩⟩))))
  ·exact .inl (.inr (.inl ⟨_,rfl⟩))
  ·exact .inr ⟨_,rfl,fun q=>Int.not_le.mpr (Int.lt_of_le_of_lt (Int.sub_le_self _ m0) (by decide)) q.1⟩
  ·exact .inl (.inr (.inr (.inr (.inl ⟨_,rfl⟩))))
end
structure RowAt (h:Hp) (a:Nat) (l:List Int) (b:List Bool):Prop where
 i:h[a]? = some (.inst "Row" (rF2 a))
 l:h[a+1]? = some (.list (l.map AV.int))
 f:h[a+2]? = some (.list (b.map AV.bool))
theorem RowAt.app {h:Hp} {a:Nat} {l:List Int} {b:List Bool} (R:RowAt h a l b) (g:Hp):RowAt (h++g) a l b:=⟨zB R.i,zB R.l,zB R.f⟩
theorem rl1 {a:Nat}:List.lookup ("line" : Str) (rF2 a)=some (.ref (a+1)):=rfl
theorem rl2 {a:Nat}:List.lookup ("flags" : Str) (rF2 a)=some (.ref (a+2)):=rfl
theorem rn0 {a:Nat}:List.lookup ("need_seat" : Str) (rF2 a)=none:=rfl
theorem rn1 {a:Nat}:List.lookup ("take" : Str) (rF2 a)=none:=rfl
theorem rn2 {a:Nat}:List.lookup ("is_taken" : Str) (rF2 a)=none:=rfl
theorem rn3 {a:Nat}:List.lookup ("ahead" : Str) (rF2 a)=none:=rfl
theorem rn4 {a:Nat}:List.lookup ("is_ahead" : Str) (rF2 a)=none:=rfl
theorem rn5 {a:Nat}:List.lookup ("add" : Str) (rF2 a)=none:=rfl
theorem rn6 {a:Nat}:List.lookup ("find" : Str) (rF2 a)=none:=rfl
theorem rn7 {a:Nat}:List.lookup ("order" : Str) (rF2 a)=none:=rfl
theorem rn8 {a:Nat}:List.lookup ("all_taken" : Str) (rF2 a)=none:=rfl
section
variable {T:Tab} {okf:Str→Str→Bool} (X:TT T okf) {n:Nat} {h:Hp} {a:Nat} {l:List Int} {b:List Bool} {v u:AV}
theorem RowAt.len (R:RowAt h a l b) {fr:AFr} {cf:CF} (e0:fr[0]? = some (some (.ref a))):zK (zI (some (.bi .len))) [zH (z6 0) "flags"] cf fr h=.ok (.int b.length) h:=by
 refine xl (ev1 (zR (z5 e0) R.i rl2) ev0) ?_
 rw [qp,qI,R.f]
 show Out.ok (AV.int ((b.map AV.bool).length:Nat)) _=_
 rw [List.length_map]
include X
theorem j7 (R:RowAt h a l b) (w:Od h b.length v):run T (n+2) (.meth "Row" "need_seat") [.ref a,v] h=.exc "NoSeat" h:=by
 rw [zG X.kAu]
 exact zY (fr:=[some (.ref a),some v]) rfl rfl (zm (yN (qg X rfl (R.len rfl) w.lt)))
theorem Qa (R:RowAt h a l b) {i:Int} (h0:0≤i) (h1:i<b.length):run T (n+2) (.meth "Row" "need_seat") [.ref a,.int i] h=.ok .none h:=by
 rw [zG X.kAu]
 exact yI (fr:=[some (.ref a),some (.int i)]) rfl rfl (fr':=[some (.ref a),some (.int i)]) ((z7 ((zN (yv (zx (b:=true) (yZ (v:=.bool true) (zc (ev1 (z5 rfl) ev0) (yE X)) rfl)) (yv (zx (b:=true) (yi rfl (z5 rfl) (by rw [xV,decide_eq_true h0]) (R.len rfl) (by rw [yS,decide_eq_true h1]))) qU))).trans zL)).trans zL)
theorem z1t (R:RowAt h a l b) (w:Od h b.length v):run T (n+3) (.meth "Row" "take") [.ref a,v,u] h=.exc "NoSeat" h:=by
 rw [zG X.kB9]
 exact zY (fr:=[some (.ref a),some v,some u]) rfl rfl (zm (zp (zC (a:=a) (z5 rfl) R.i rn0 (ev1 (z5 rfl) ev0) (j7 X R w))))
theorem Jw (R:RowAt h a l b) (w:Od h b.length v):run T (n+3) (.meth "Row" "is_taken") [.ref a,v] h=.exc "NoSeat" h:=by
 rw [zG X.kAw]
 exact zY (fr:=[some (.ref a),some v]) rfl rfl (zm (zp (zC (a:=a) (z5 rfl) R.i rn0 (ev1 (z5 rfl) ev0) (j7 X R w))))
theorem z00 (R:RowAt h a l b) (w:Od h b.length v):run T (n+3) (.meth "Row" "ahead") [.ref a,v] h=.exc "NoSeat" h:=by
 rw [zG X.kBx]
 exact zY (fr:=[some (.ref a),some v,none]) rfl rfl (zm (zp (zC (a:=a) (z5 rfl) R.i rn0 (ev1 (z5 rfl) ev0) (j7 X R w))))
theorem z1v (R:RowAt h a l b) (w:Od h b.length v):run T (n+3) (.meth "Row" "is_ahead") [.ref a,v,u] h=.exc "NoSeat" h:=by
 rw [zG X.kA2]
 exact zY (fr:=[some (.ref a),some v,some u]) rfl rfl (zm (zp (zC (a:=a) (z5 rfl) R.i rn0 (ev1 (z5 rfl) ev0) (j7 X R w))))
theorem z1u (R:RowAt h a l b) {i:Int} (h0:0≤i) (h1:i<b.length) (w:Od h b.length v):run T (n+3) (.meth "Row" "is_ahead") [.ref a,.int i,v] h=.exc "NoSeat" h:=by
 rw [zG X.kA2]
 exact zY (fr:=[some (.ref a),some (.int i),some v]) rfl rfl ((z7 (zZ (zC (a:=a) (z5 rfl) R.i rn0 (ev1 (z5 rfl) ev0) (Qa X R h0 h1)))).trans (zm (zp (zC (a:=a) (z5 rfl) R.i rn0 (ev1 (z5 rfl) ev0) (j7 X R w)))))
theorem z4s (R:RowAt h a l b) (w:Od h b.length v) (hn:isA v .none=some false):run T (n+3) (.meth "Row" "add") [.ref a,v] h=.exc "NoSeat" h:=by
 rw [zG X.kCf]
 refine zY (fr:=[some (.ref a),some v,none,none]) rfl rfl (nw:=false) (fr':=[some (.ref a),some v,some (.int 0),none]) ?_
 unfold kCf
 dsimp only
 rw [z7 (zd (j:=2) (v:=.int 0) rfl (zU rfl))]
 exact zm ((yM (zb (v:=v) (w:=.none) (z5 rfl) rfl (by show (isA v .none).map _=_;rw [hn];rfl))).trans (zm (zp (zC (a:=a) (z5 rfl) R.i rn0 (ev1 (z5 rfl) ev0) (j7 X R w)))))
theorem zI2 (R:RowAt h a l b) (hl:l.length<small) (hb:b.length<small) {h1 h2:Hp} (e1:h.set (a+1) (.list ((qn l 0 b.length).map AV.int))=h1) (e1':h1[a+2]? = some (.list (b.map AV.bool))) (e1'':h1[a]? = some (.inst "Row" (rF2 a))) (e2:h1.set (a+2) (.list ((b++[false]).map AV.bool))=h2):run T (n+3) (.meth "Row" "add") [.ref a,.none] h=.ok (.int b.length) h2:=by
 rw [zG X.kCf]
 refine zO (fr:=[some (.ref a),some .none,none,none]) rfl rfl (fr':=[some (.ref a),some .none,some (.int 0),some (.int b.length)]) ?_
 unfold kCf
 dsimp only
 rw [z7 (zd (j:=2) (v:=.int 0) rfl (zU rfl)),z7 ((zN (zb (v:=.none) (w:=.none) (z5 rfl) rfl rfl)).trans zL)]
 have m1:yQ .insert (.ref (a+1)) [.int 0,.int b.length] h=.ok .none h1:=by
  rw [X7,R.l]
  show (if (l.map AV.int).length<small∧okI 0=true then Out.ok AV.none (h.set (a+1) (.list (xw (l.map AV.int) 0 (.int b.length)))) else .stuck)=_
  rw [if_pos ⟨by rw [List.length_map];exact hl,rfl⟩,Jb,e1]
 have m2:yQ .append (.ref (a+2)) [.bool false] h1=.ok .none h2:=by
  rw [xD,e1']
  show (if (b.map AV.bool).length<small then Out.ok AV.none (h1.set (a+2) (.list (b.map AV.bool++[.bool false]))) else .stuck)=_
  rw [if_pos (by rw [List.length_map];exact hb),show b.map AV.bool++[.bool false]=(b++[false]).map AV.bool by rw [List.map_append];rfl,e2]
 exact (z7 (zd (j:=3) (R.len rfl) (zU rfl))).trans ((z7 (zZ (jM (a:=a+1) (ys:=l.map AV.int) (zR (z5 rfl) R.i rl1) R.l (ev1 (z5 rfl) (ev1 (z5 rfl) ev0)) m1))).trans ((z7 (zZ (jM (a:=a+2) (ys:=b.map AV.bool) (zR (z5 rfl) e1'' rl2) e1' (ev1 rfl ev0) m2))).trans (zP (zo (z5 rfl)))))
theorem z5u (R:RowAt h a l b) {i:Int} {v:Bool} (h0:0≤i) (h1:i<b.length) (hb:b.length≤small) {h':Hp} (e:h.set (a+2) (.list ((b.set i.toNat v).map AV.bool))=h'):run T (n+3) (.meth "Row" "take") [.ref a,.int i,.bool v] h=.ok .none h':=by
 rw [zG X.kB9]
 have e:wF h (.ref (a+2)) (.int i) (.bool v)=some h':=by
  rw [Zr,R.f]
  show (if 0≤i∧i<((b.map AV.bool).length:Nat)∧(b.map AV.bool).length≤small then some (h.set (a+2) (.list ((b.map AV.bool).set i.toNat (.bool v)))) else none)=_
  rw [List.length_map,if_pos ⟨h0,h1,hb⟩,← List.map_set,e]
 exact yI (fr:=[some (.ref a),some (.int i),some (.bool v)]) rfl rfl (fr':=[some (.ref a),some (.int i),some (.bool v)]) ((z7 (zZ (zC (a:=a) (z5 rfl) R.i rn0 (ev1 (z5 rfl) ev0) (Qa X (n:=n) R h0 h1)))).trans ((z7 (Xn (z5 rfl) (zR (z5 rfl) R.i rl2) (z5 rfl) e)).trans zL))
theorem zGv (R:RowAt h a l b) (hs:l.length≤small):run T (n+1) (.meth "Row" "order") [.ref a] h=.ok (.ref h.length) (h++[.list (l.map AV.int)]):=by
 rw [zG X.kBu]
 refine zO (fr:=[some (.ref a)]) rfl rfl (fr':=[some (.ref a)]) (zP (zo (xl (ev1 (zR (z5 rfl) R.i rl1) ev0) ?_)))
 rw [Ji,R.l]
 exact if_pos (by rw [List.length_map];exact hs)
theorem zJr (R:RowAt h a l b):run T (n+1) (.meth "Row" "all_taken") [.ref a] h=.ok (.int (b.countP id)) h:=by
 rw [zG X.kAs]
 refine zO (fr:=[some (.ref a)]) rfl rfl (fr':=[some (.ref a)]) (zP (zo (jM (a:=a+2) (ys:=b.map AV.bool) (zR (z5 rfl) R.i rl2) R.f (ev1 rfl ev0) ?_)))
 rw [YJ,R.f]
 show Out.of ((wQ h (.ref (a+2)) (.bool true)).map _) _=_
 rw [wP (l:=b) R.f];rfl
theorem z1w (R:RowAt h a l b) (hr:∀ x∈l,0≤x∧x<b.length) (hl:l.length<small) (hb:b.length≤small) {k:Nat} (hk:(tk b l).length=k) (w:Od h k v):run T (n+3) (.meth "Row" "find") [.ref a,v] h=.exc "NoPlace" (h++[.list ((tk b l).map AV.int)]):=by
 rw [zG X.kB3]
 have e1:zA okf (.names (.one 2)) (xB (zH (z6 0) "line") 1 (.one 3) (y8 .And [yT (zn (zH (z6 0) "flags") (z6 3))]) (z6 3)) (run T (n+2)) [some (.ref a),some v,none] h=.ok .next [some (.ref a),some v,some (.ref h.length)] (h++[.list ((tk b l).map AV.int)]) :=
  zd (j:=2) (qP AV.int (it:=zH (z6 0) "line") (own:=1) (i:=3) (a:=a+1) (test:=y8 .And [yT (zn (zH (z6 0) "flags") (z6 3))]) (elt:=z6 3) (cf:=run T (n+2)) (fr:=[some (.ref a),some v,none])
   (h:=h) (h1:=h) (l:=l) (p:=fl b) (f:=AV.int) (zR (z5 rfl) R.i rl1) R.l (zU rfl) hl
   (fun fr' a1 a2 x hx a3=>by
    have t:=yZ (ya (zR (z5 (cf:=run T (n+2)) (h:=h) (show fr'[0]? = some (some (.ref a)) by rw [a2 0 (by decide)];rfl)) R.i rl2) (z5 a3) (jF R.f (hr x hx).1 (hr x hx).2 hb)) (JD)
    cases hf:fl b x with
    | true=>rw [hf] at t;exact Qf t Xp
    | false=>rw [hf] at t;exact Z6 t)
   (fun fr' a1 a2 x hx a3=>z5 a3)) (zU rfl)
 have e2:zK (zI (some (.bi .len))) [z6 2] (run T (n+2)) [some (.ref a),some v,some (.ref h.length)] (h++[.list ((tk b l).map AV.int)])=.ok (.int (k:Nat)) (h++[.list ((tk b l).map AV.int)]):=by
  rw [← hk]
  exact xl (ev1 (z5 rfl) ev0) (by rw [qp,qI,zQ h _ [],← List.length_map AV.int];rfl)
 exact zY (fr:=[some (.ref a),some v,none]) rfl rfl ((z7 e1).trans (zm (yN (qg X rfl e2 (Od.app w [.list ((tk b l).map AV.int)]).lt))))
end
section
variable {T:Tab} {okf exm:Str→Str→Bool} {isx:Str→Str→Option Bool} {L:Nat→LamS} (X:TL T okf exm isx L) {n:Nat} {h:Hp} {a:Nat} {l:List Int} {b:List Bool} {v u:AV} {c0 c1:Nat}
include X
theorem l0 (R:RowAt h a l b) (e0:Cl h c0 (.ref a)) (e1:Cl h c1 v) (w:Od h b.length v):Rf T (n+12) (L 0) [c0,c1] "seat" h:=by
 refine zS X wm2 ?_
 rw [zW (X.lam 0 rfl) rfl]
 exact zC (a:=a) (zE rfl e0) R.i rn1 (ev1 (zE rfl e1) (ev1 rfl ev0)) (z1t X.tt R w)
theorem l1 (R:RowAt h a l b) (e0:Cl h c0 (.ref a)) (e1:Cl h c1 v) (w:Od h b.length v):Rf T (n+12) (L 1) [c0,c1] "seat" h:=by
 refine zS X wm2 ?_
 rw [zW (X.lam 1 rfl) rfl]
 exact zC (a:=a) (zE rfl e0) R.i rn2 (ev1 (zE rfl e1) ev0) (Jw X.tt R w)
theorem l2 (R:RowAt h a l b) (e0:Cl h c0 (.ref a)) (e1:Cl h c1 v) (w:Od h b.length v):Rf T (n+12) (L 2) [c0,c1] "seat" h:=by
 refine zS X wm2 ?_
 rw [zW (X.lam 2 rfl) rfl]
 exact zC (a:=a) (zE rfl e0) R.i rn3 (ev1 (zE rfl e1) ev0) (z00 X.tt R w)
theorem l3 (R:RowAt h a l b) (e0:Cl h c0 (.ref a)) (e1:Cl h c1 v) (w:Od h b.length v):Rf T (n+12) (L 3) [c0,c1] "seat" h:=by
 refine zS X wm2 ?_
 rw [zW (X.lam 3 rfl) rfl]
 exact zC (a:=a) (zE rfl e0) R.i rn4 (ev1 (zE rfl e1) (ev1 rfl ev0)) (z1v X.tt R w)
theorem l4 (R:RowAt h a l b) (hb:1<b.length) (e0:Cl h c0 (.ref a)) (e1:Cl h c1 v) (w:Od h b.length v):Rf T (n+12) (L 4) [c0,c1] "seat" h:=by
 refine zS X wm2 ?_
 rw [zW (X.lam 4 rfl) rfl]
 exact zC (a:=a) (zE rfl e0) R.i rn4 (ev1 rfl (ev1 (zE rfl e1) ev0)) (z1u X.tt R (by decide) (Int.ofNat_lt.mpr hb) w)
theorem l5 (R:RowAt h a l b) (e0:Cl h c0 v) (e1:Cl h c1 (.ref a)) (w:Od h b.length v) (hn:isA v .none=some false):Rf T (n+12) (L 5) [c0,c1] "seat" h:=by
 refine zS X wm2 ?_
 rw [zW (X.lam 5 rfl) rfl]
 exact zC (a:=a) (zE rfl e1) R.i rn5 (ev1 (zE rfl e0) ev0) (z4s X.tt R w hn)
theorem l6 (R:RowAt h a l b) (hr:∀ x∈l,0≤x∧x<b.length) (hl:l.length<small) (hb:b.length≤small) {k:Nat} (hk:(tk b l).length=k) (e0:Cl h c0 v) (e1:Cl h c1 (.ref a)) (w:Od h k v):Rf T (n+12) (L 6) [c0,c1] "place" h:=by
 refine xX X wm1 (g:=[.list ((tk b l).map AV.int)]) ?_
 rw [zW (X.lam 6 rfl) rfl]
 exact zC (a:=a) (zE rfl e1) R.i rn6 (ev1 (zE rfl e0) ev0) (z1w X.tt R hr hl hb hk w)
end
end Mine.LS
end
section
set_option genInjectivity false
set_option genSizeOf false
namespace Mine
open PySem
theorem JO {cf:CF} {fr:AFr} {h h1:Hp} {x y:XE} {r:List XE} {res:Out AV} (e:x cf fr h=.ok (.bool true) h1) (e':wa .And (y::r) cf fr h1=res):wa .And (x::y::r) cf fr h=res:=by rw [wW,e];exact e'
theorem z4v {cf:CF} {fr:AFr} {h:Hp} {x:XE} {res:Out AV} (e:x cf fr h=res):wa .And [x] cf fr h=res:=e
theorem js (l:List Int):PyData.canLay0 (.list (l.map PyData.int))=true:=by
 show PyData.canLayAll0 (l.map PyData.int)=true
 induction l with
 | nil=>rfl
 | cons x l ih=>exact ih
end Mine
namespace Mine.LS
open PySem Mine
set_option maxRecDepth 100000
set_option maxHeartbeats 1000000
theorem z41 {h:Hp} {a b:Nat} {l:List Int} (ha:h[a]? = some (.list (l.map AV.int))) (hb:h[b]? = some (.list (l.map AV.int))):aEq h (.ref a) (.ref b)=some true:=by
 rw [ZJ (jf ha (jB h 7 l)) (jf hb (jB h 7 l)),SeqAt.eqv_refl _ (js l)]
theorem Od.setc {h0 l:Hp} {j:Nat} {b:Int} {v:AV} {u u':Option AV} (w:Od (h0++l) b v) (hj:l[j]? = some (.cell u)):Od (h0++l.set j (.cell u')) b v:=by
 rw [← yA];exact w.set ((zD h0 l j).trans hj)
noncomputable abbrev HR (h0:Hp) (c3 c4 c5 c6:Option AV) (l:List Int) (b:List Bool) (g:Hp):Hp:=h0++(.cell c3::.cell c4::.cell c5::.cell c6::.inst "Row" (rF2 (h0.length+4))::.list (l.map AV.int)::.list (b.map AV.bool)::g)
section
variable {T:Tab} {okf exm:Str→Str→Bool} {isx:Str→Str→Option Bool} {L:Nat→LamS} (X:TL T okf exm isx L) {n:Nat} {h0:Hp} {c3 c4 c5 c6:Option AV} {l:List Int} {b:List Bool} {g:Hp}
theorem J9:RowAt (HR h0 c3 c4 c5 c6 l b g) (h0.length+4) l b:=⟨zD h0 _ 4,zD h0 _ 5,zD h0 _ 6⟩
theorem ZK {g':Hp}:HR h0 c3 c4 c5 c6 l b g++g'=HR h0 c3 c4 c5 c6 l b (g++g'):=List.append_assoc _ _ _
theorem JA:(HR h0 c3 c4 c5 c6 l b g).length=h0.length+(g.length+7):=zX
include X
theorem Z5 {fr:AFr} {i:Int} {v:Bool} (f5:fr[5]? = some (some (.ref (h0.length+2)))) (f1:fr[1]? = some (some (.int i))) (hv:decide (i<2)=v) (hl:l.length<small) (hb:b.length<small) (hb':b.length+1≤small) :
  zJ [(zM (z9 (zF 5) "take" none [(z9 (zF 5) "add" none [(z8 .none)]),(wV (z6 1) [.Lt] [(z8 (.int 2))])]))] (run T (n+12)) fr (HR h0 c3 c4 (some (.ref (h0.length+4))) c6 l b g)=.ok .next fr (HR h0 c3 c4 (some (.ref (h0.length+4))) c6 (qn l 0 b.length) ((b++[false]).set b.length v) g):=by
 have ea:=zI2 X.tt (n:=n+9) (h:=HR h0 c3 c4 (some (.ref (h0.length+4))) c6 l b g) J9 hl hb (yA h0 _ 5 _) (zD h0 _ 6) (zD h0 _ 4) (yA h0 _ 6 _)
 have R2:RowAt (HR h0 c3 c4 (some (.ref (h0.length+4))) c6 (qn l 0 b.length) (b++[false]) g) (h0.length+4) (qn l 0 b.length) (b++[false]):=J9
 have et:=z5u X.tt (n:=n+9) R2 (i:=b.length) (v:=v) (Int.natCast_nonneg _) (by rw [zX];exact Int.ofNat_lt.mpr (Nat.lt_succ_self _)) (by rw [zX];exact hb') (yA h0 _ 6 _)
 exact (z7 (zZ (zC (a:=h0.length+4) (zE f5 (zD h0 _ 2)) (zD h0 _ 4) rn1 (ev1 (zC (a:=h0.length+4) (zE f5 (zD h0 _ 2)) (zD h0 _ 4) rn5 (ev1 rfl ev0) ea) (ev1 (wH (zb (z5 f1) rfl (by rw [yS,hv]))) ev0)) et))).trans zL
theorem zHy {c:Int} (ht:h0[1]? = some (.tab "_law_rows")):∃ g,run T (n+13) (.fn "_law_rows") [.int c] h0=.ok (.bool true) (h0++g):=by
 let fr:Option AV→Option AV→AFr:=fun k cl=>[some (.int c),k,cl,some (.ref h0.length),some (.ref (h0.length+1)),some (.ref (h0.length+2)),some (.ref (h0.length+3))]
 let rw_:Option AV:=some (.ref (h0.length+4))
 have er:run T (n+12) (.cls "Row") [] (h0++[.cell none,.cell none,.cell none,.cell none])=.ok (.ref (h0.length+4)) (HR h0 none none none none [] [] []):=by
  have:=Qc X.tt (n:=n+11) (h:=h0++[.cell none,.cell none,.cell none,.cell none])
  rw [zX,List.append_assoc] at this
  exact this
 have s1:zA okf (.cell 5) (zK (zI (some (.cls "Row"))) []) (run T (n+12)) (fr none none) (h0++[.cell none,.cell none,.cell none,.cell none])=.ok .next (fr none none) (HR h0 none none rw_ none [] [] []):=qT (a:=h0.length+2) (u:=none) (ZR ev0 er) rfl (zD h0 _ 2) (yA h0 _ 2 _)
 have s2:xz (.one 1) (zK (zI (some (.bi .range))) [(z8 (.int 3))]) false (zJ [(zM (z9 (zF 5) "take" none [(z9 (zF 5) "add" none [(z8 .none)]),(wV (z6 1) [.Lt] [(z8 (.int 2))])]))]) (run T (n+12)) (fr none none) (HR h0 none none rw_ none [] [] [])=.ok .next (fr (some (.int 2)) none) (HR h0 none none rw_ none [2,1,0] [true,true,false] []):=by
  refine wj (en:=false) (src:=.imm (xK 0 3)) (m:=3) (v:=.range 0 3) (xl (ev1 rfl ev0) (by rw [Z1,if_pos (by decide)])) rfl ?_
  refine wx (x:=.int 0) (fr1:=fr (some (.int 0)) none) (h1:=HR h0 none none rw_ none [] [] []) rfl rfl (Z5 X (i:=0) (v:=true) rfl rfl rfl (zU rfl) (zU rfl) (zU rfl)) ?_
  refine wx (x:=.int 1) (fr1:=fr (some (.int 1)) none) (h1:=HR h0 none none rw_ none [0] [true] []) rfl rfl (Z5 X (i:=1) (v:=true) rfl rfl rfl (zU rfl) (zU rfl) (zU rfl)) ?_
  refine wx (x:=.int 2) (fr1:=fr (some (.int 2)) none) (h1:=HR h0 none none rw_ none [1,0] [true,true] []) rfl rfl (Z5 X (i:=2) (v:=false) rfl rfl rfl (zU rfl) (zU rfl) (zU rfl)) ?_
  exact Zx rfl
 obtain ⟨v,g1,e3,w3⟩:=zH3 X (n:=n+11) (c:=c) (b:=3) (by decide) (h:=HR h0 none none rw_ none [2,1,0] [true,true,false] [])
 rw [ZK] at e3 w3
 have s3:zA okf (.cell 6) (zK (zI (some (.fn "_law_odd"))) [(z6 0),(z8 (.int 3))]) (run T (n+12)) (fr (some (.int 2)) none) (HR h0 none none rw_ none [2,1,0] [true,true,false] [])=.ok .next (fr (some (.int 2)) none) (HR h0 none none rw_ (some v) [2,1,0] [true,true,false] g1):=qT (a:=h0.length+3) (u:=none) (zc (ev1 (z5 rfl) (ev1 rfl ev0)) e3) rfl (zD h0 _ 3) (yA h0 _ 3 _)
 have w3:Od (HR h0 none none rw_ (some v) [2,1,0] [true,true,false] g1) 3 v:=w3.setc (j:=3) rfl
 obtain ⟨nb,hn⟩:∃ nb,isA v .none=some nb:=by
  rcases w3.isA with rfl | h
  ·exact ⟨true,rfl⟩
  ·exact ⟨_,h⟩
 obtain ⟨v3,e4,h3⟩:∃ v3,cIf (zj (zF 6) [.Is] [(z8 .none)]) (z8 (.int 0)) (zF 6) (run T (n+12)) (fr (some (.int 2)) none) (HR h0 none none rw_ (some v) [2,1,0] [true,true,false] g1)=.ok v3 (HR h0 none none rw_ (some v) [2,1,0] [true,true,false] g1)∧(nb=false→v3=v):=by
  have t:=zb (op:=.Is) (b:=nb) (zE (cf:=run T (n+12)) (fr:=fr (some (.int 2)) none) (j:=6) rfl (zD h0 (.cell none::.cell none::.cell rw_::.cell (some v)::.inst "Row" (rF2 (h0.length+4))::.list ([2,1,0].map AV.int)::.list ([true,true,false].map AV.bool)::g1) 3)) (y:=z8 .none) rfl hn
  cases nb with
  | true=>exact ⟨_,zGz t rfl,fun h=>nomatch h⟩
  | false=>exact ⟨v,zH0 t (zE rfl (zD h0 _ 3)),fun _=>rfl⟩
 have s4:zA okf (.cell 3) (cIf (zj (zF 6) [.Is] [(z8 .none)]) (z8 (.int 0)) (zF 6)) (run T (n+12)) (fr (some (.int 2)) none) (HR h0 none none rw_ (some v) [2,1,0] [true,true,false] g1)=.ok .next (fr (some (.int 2)) none) (HR h0 (some v3) none rw_ (some v) [2,1,0] [true,true,false] g1):=qT (a:=h0.length) (u:=none) e4 rfl (zD h0 _ 0) (yA h0 _ 0 _)
 have w4:Od (HR h0 (some v3) none rw_ (some v) [2,1,0] [true,true,false] g1) 3 v:=w3.setc (j:=0) rfl
 let H4:Hp→Hp:=HR h0 (some v3) none rw_ (some v) [2,1,0] [true,true,false]
 have tb:∀ {k:Nat} {l:Hp},(L k).q = "_law_rows" → (h0++l)[1]? = some (.tab (L k).q):=fun {k l} e=>by rw [e];exact zB ht
 let c56:List Nat:=[h0.length+2,h0.length+3]
 let A3:List AV:=[.lam (L 0) c56,.lam (L 1) c56,.lam (L 2) c56]
 let A2:List AV:=[.lam (L 3) c56,.lam (L 4) c56]
 have e5:zT [(zy (L 0) [5,6] 1),(zy (L 1) [5,6] 1),(zy (L 2) [5,6] 1)] (run T (n+12)) (fr (some (.int 2)) none) (H4 g1)=.ok (.ref (h0.length+(g1.length+7))) (H4 (g1++[.list A3])):=(yD (vs:=A3) (ev1 (zq (tb (X.q 0 rfl)) rfl) (ev1 (zq (tb (X.q 1 rfl)) rfl) (ev1 (zq (tb (X.q 2 rfl)) rfl) ev0)))).trans (by rw [JA,ZK])
 let f2:AFr:=fr (some (.int 2)) (some (.ref (h0.length+(g1.length+7))))
 have e6:zT [(zy (L 3) [5,6] 1),(zy (L 4) [5,6] 1)] (run T (n+12)) f2 (H4 (g1++[.list A3]))=.ok (.ref (h0.length+(g1.length+8))) (H4 (g1++[.list A3,.list A2])):=(yD (vs:=A2) (ev1 (zq (tb (X.q 3 rfl)) rfl) (ev1 (zq (tb (X.q 4 rfl)) rfl) ev0))).trans (by rw [JA,ZK,zX,List.append_assoc];rfl)
 have e6':zV .Add (z6 2) (zT [(zy (L 3) [5,6] 1),(zy (L 4) [5,6] 1)]) (run T (n+12)) f2 (H4 (g1++[.list A3]))=.ok (.ref (h0.length+(g1.length+9))) (H4 (g1++[.list A3,.list A2,.list (A3++A2)])) :=
  (We (z5 rfl) e6 (xs':=A3) (ys:=A2) ((zD h0 _ (g1.length+7)).trans (zD g1 _ 0)) ((zD h0 _ (g1.length+8)).trans (zD g1 _ 1)) (zU rfl)).trans (by rw [JA,ZK,zX,List.append_assoc];rfl)
 let f6:AFr:=fr (some (.int 2)) (some (.ref (h0.length+(g1.length+9))))
 let ls:List (LamS×List Nat):=[(L 0,c56),(L 1,c56),(L 2,c56),(L 3,c56),(L 4,c56)]++cond nb [] [(L 5,[h0.length,h0.length+2])]
 have s7:sIf (zj (zF 6) [.IsNot] [(z8 .none)]) (zJ [(zM (z9 (z6 2) "append" (some .append) [(zy (L 5) [3,5] 1)]))]) (zJ []) (run T (n+12)) f6 (H4 (g1++[.list A3,.list A2,.list (A3++A2)]))=.ok .next f6 (H4 (g1++[.list A3,.list A2,.list (ls.map fun p=>AV.lam p.1 p.2)])):=by
  have hc:(H4 (g1++[.list A3,.list A2,.list (A3++A2)]))[h0.length+(g1.length+9)]? = some (.list (A3++A2)):=(zD h0 _ (g1.length+9)).trans (zD g1 _ 2)
  have t:=zb (op:=.IsNot) (b:=!nb) (zE (cf:=run T (n+12)) (fr:=f6) (j:=6) rfl (zD h0 (.cell (some v3)::.cell none::.cell rw_::.cell (some v)::.inst "Row" (rF2 (h0.length+4))::.list ([2,1,0].map AV.int)::.list ([true,true,false].map AV.bool)::(g1++[.list A3,.list A2,.list (A3++A2)])) 3)) (y:=z8 .none) rfl (by show (isA v .none).map _=_;rw [hn];rfl)
  cases nb with
  | true=>exact (zN t).trans zL
  | false =>
   refine (yM t).trans ((z7 (zZ (jM (a:=h0.length+(g1.length+9)) (z5 rfl) hc (ev1 (zq (tb (X.q 5 rfl)) (cs:=[h0.length,h0.length+2]) rfl) ev0) (res:=.ok .none (H4 (g1++[.list A3,.list A2,.list (A3++A2++[.lam (L 5) [h0.length,h0.length+2]])]))) ?_))).trans zL)
   rw [xD,hc]
   show (if (A3++A2).length<small then Out.ok AV.none ((H4 (g1++[.list A3,.list A2,.list (A3++A2)])).set (h0.length+(g1.length+9)) (.list (A3++A2++[.lam (L 5) [h0.length,h0.length+2]]))) else .stuck)=_
   rw [if_pos (show (A3++A2).length<small from zU rfl),show (H4 (g1++[.list A3,.list A2,.list (A3++A2)])).set (h0.length+(g1.length+9)) (.list (A3++A2++[.lam (L 5) [h0.length,h0.length+2]]))=H4 ((g1++[AO.list A3,AO.list A2,AO.list (A3++A2)]).set (g1.length+2) (AO.list (A3++A2++[AV.lam (L 5) [h0.length,h0.length+2]]))) from yA h0 _ (g1.length+9) _,yA];rfl
 obtain ⟨v8,g2,e8,w8⟩:=zH3 X (n:=n+11) (c:=c) (b:=2) (by decide) (h:=H4 (g1++[.list A3,.list A2,.list (ls.map fun p=>AV.lam p.1 p.2)]))
 have w4':=w4.app ([.list A3,.list A2,.list (ls.map fun p=>AV.lam p.1 p.2)]++g2)
 rw [ZK,← List.append_assoc] at w4'
 rw [ZK] at e8 w8
 let G:Hp:=g1++[.list A3,.list A2,.list (ls.map fun p=>AV.lam p.1 p.2)]++g2
 let H8:Hp:=HR h0 (some v3) (some v8) rw_ (some v) [2,1,0] [true,true,false] G
 have s8:zA okf (.cell 4) (zK (zI (some (.fn "_law_odd"))) [(z6 0),(z8 (.int 2))]) (run T (n+12)) f6 (H4 (g1++[.list A3,.list A2,.list (ls.map fun p=>AV.lam p.1 p.2)]))=.ok .next f6 H8:=qT (a:=h0.length+1) (u:=none) (zc (ev1 (z5 rfl) (ev1 rfl ev0)) e8) rfl (zD h0 _ 1) (yA h0 _ 1 _)
 have w8:Od H8 2 v8:=w8.setc (j:=1) rfl
 have w4:Od H8 3 v:=w4'.setc (j:=1) rfl
 have R8:RowAt H8 (h0.length+4) [2,1,0] [true,true,false]:=J9
 have k0:H8[h0.length]? = some (.cell (some v3)):=zD h0 _ 0
 have k1:H8[h0.length+1]? = some (.cell (some v8)):=zD h0 _ 1
 have k2:H8[h0.length+2]? = some (.cell rw_):=zD h0 _ 2
 have k3:H8[h0.length+3]? = some (.cell (some v)):=zD h0 _ 3
 have kc:H8[h0.length+(g1.length+9)]? = some (.list (ls.map fun p=>AV.lam p.1 p.2)):=(zD h0 _ (g1.length+9)).trans (zB (zD g1 _ 2))
 have t8:H8[1]? = some (.tab "_law_rows"):=zB ht
 obtain ⟨g9,e9,_⟩:=wR (T:=T) (n:=n+12) (w := "seat") wm2 (fr:=f6) (h:=H8) (i:=2) (j:=7) (ls:=ls) rfl kc rfl (fun g'=>by
  have R:=R8.app g'
  have w:=w4.app g'
  have q0:=zB (l:=g') k0
  have q2:=zB (l:=g') k2
  have q3:=zB (l:=g') k3
  refine Zp.app (l:=[(L 0,c56),(L 1,c56),(L 2,c56),(L 3,c56),(L 4,c56)]) ?_ ⟨l0 X R q2 q3 w,l1 X R q2 q3 w,l2 X R q2 q3 w,l3 X R q2 q3 w,l4 X R (by decide) q2 q3 w,trivial⟩
  cases nb with
  | true=>exact trivial
  | false =>
   rw [h3 rfl] at q0
   exact ⟨l5 X R q0 q2 w hn,trivial⟩)
 let H9:Hp:=H8++g9
 have R9:=R8.app g9
 have t9:H9[1]? = some (.tab (L 6).q):=by rw [(X.q 6 rfl)];exact zB t8
 obtain ⟨g10,e10⟩:=l6 X (n:=n) R9 (by decide) (zU rfl) (zU rfl) (k:=2) (by decide) (zB k1) (zB k2) (w8.app g9)
 have R10:=R9.app g10
 let H10:Hp:=H8++g9++g10
 have k10:H10[h0.length+2]? = some (.cell rw_):=zB (zB k2)
 have eo:=zGv X.tt (n:=n+11) R10 (zU rfl)
 have R11:=(R10.app [.list ([2,1,0].map AV.int)]).app [.list ([2,1,0].map AV.int)]
 refine ⟨.cell (some v3)::.cell (some v8)::.cell rw_::.cell (some v)::.inst "Row" (rF2 (h0.length+4))::.list ([2,1,0].map AV.int)::.list ([true,true,false].map AV.bool)::G++g9++g10++[.list ([2,1,0].map AV.int)]++[.list ([2,1,0].map AV.int)],?_⟩
 rw [yc X.kB2]
 refine zO (fr:=[some (.int c),none,none,none,none,none,none]) rfl rfl (fr':=f6) ?_
 unfold kB2
 dsimp only
 refine jm (m:=h0.length) (fr1:=fr none none) (g:=[.cell none,.cell none,.cell none,.cell none]) rfl rfl ?_
 refine (z7 s1).trans ((z7 s2).trans ((z7 s3).trans ((z7 s4).trans ?_)))
 refine (z7 (zd (j:=2) e5 (zU rfl))).trans ?_
 refine (z7 (zd (j:=2) e6' (zU rfl))).trans ?_
 refine (z7 s7).trans ((z7 s8).trans ((z7 ((zN e9).trans zL)).trans (zP (zo ?_))))
 refine JO (h1:=H10) (wH (zb (zc (ev1 (zq t9 (cs:=[h0.length+1,h0.length+2]) rfl) ev0) e10) (xi (ev1 rfl ev0)) (by rw [xN,xR wm1]))) ?_
 refine JO (h1:=H10++[.list ([2,1,0].map AV.int)]++[.list ([2,1,0].map AV.int)]) (wH (zb (zC (a:=h0.length+4) (zE rfl k10) R10.i rn7 ev0 eo) (yD (vs:=[2,1,0].map AV.int) (ev1 rfl (ev1 rfl (ev1 rfl ev0)))) (by rw [xN];exact z41 (zB (zQ _ _ [])) (zQ _ _ [])))) ?_
 refine z4v ((wH (zb (w:=.int 2) (b:=true) (zC (a:=h0.length+4) (zE rfl (zB (zB k10))) R11.i rn8 ev0 (zJr X.tt (n:=n+11) R11)) rfl ?_)).trans ?_)
 ·rw [xN,qK];rfl
 ·refine congrArg (Out.ok (AV.bool true)) ?_
  simp only [H10,H8,HR,List.append_assoc,List.cons_append]
end
end Mine.LS
end
section
set_option genInjectivity false
set_option genSizeOf false
namespace Mine
open PySem
section
variable {cf:CF} {fr:AFr} {h h':Hp} {B:List XE} {xs ys:List AV} {x:XE} {v:AV} {j:Nat} {okf:Str→Str→Bool}
theorem XH (ev:evs B cf fr h=.ok ys h) (hj:j<fr.length):zA okf (.names (.one j)) (zT B) cf fr h=.ok .next (fr.set j (some (.ref h.length))) (h++[.list ys]):=zd (yD ev) hj
theorem Yl (fj:fr[j]? = some (some (.ref h'.length))) (ev:evs B cf fr (h'++[.list xs])=.ok ys (h'++[.list xs])) (z:xs.length+ys.length≤small) (hj:j<fr.length):zA okf (.names (.one j)) (zV .Add (z6 j) (zT B)) cf fr (h'++[.list xs])=.ok .next (fr.set j (some (.ref (h'++[AO.list xs,AO.list ys]).length))) (h'++[.list xs,.list ys]++[.list (xs++ys)]):=by
 have e:zT B cf fr (h'++[.list xs])=.ok (.ref (h'.length+1)) (h'++[.list xs,.list ys]):=(yD ev).trans (by rw [zX,List.append_assoc];rfl)
 exact zd (We (z5 fj) e (zD h' [.list xs,.list ys] 0) (zD h' _ 1) z) hj
theorem XI (fj:fr[j]? = some (some (.ref h'.length))) (ev:x cf fr (h'++[.list xs])=.ok v (h'++[.list xs])) (z:xs.length<small):zM (z9 (z6 j) "append" (some .append) [x]) cf fr (h'++[.list xs])=.ok .next fr (h'++[.list (xs++[v])]):=by
 refine zZ (v:=.none) (jM (a:=h'.length) (z5 fj) (zQ h' _ []) (ev1 ev ev0) ?_)
 rw [xD,zQ h' _ []]
 show (if xs.length<small then Out.ok AV.none ((h'++[AO.list xs]).set h'.length (AO.list (xs++[v]))) else .stuck)=_
 rw [if_pos z,LS.set_gap]
end
end Mine
namespace Mine.LS
open PySem Mine
set_option maxRecDepth 100000
set_option maxHeartbeats 1000000
section
variable {T:Tab} {okf exm:Str→Str→Bool} {isx:Str→Str→Option Bool} {L:Nat→LamS} (X:TL T okf exm isx L) {n:Nat}
include X
theorem yy {h0 Lc Lc':Hp} {fr:AFr} {j i q:Nat} {E:XE} {c b:Int} {u:Option AV} (hb:0≤b) (f1:fr[q]? = some (some (.int c))) (eE:E (run T (n+1)) fr (h0++Lc)=.ok (.int b) (h0++Lc')) (hp:∀ b' v',Od (h0++Lc) b' v'→Od (h0++Lc') b' v') (fj:fr[j]? = some (some (.ref (h0.length+i)))) (hi:Lc'[i]? = some (.cell u)) :
  ∃ v g,zA okf (.cell j) (zK (zI (some (.fn "_law_odd"))) [z6 q,E]) (run T (n+1)) fr (h0++Lc)=.ok .next fr (h0++(Lc'++g).set i (.cell (some v)))∧Od (h0++(Lc'++g).set i (.cell (some v))) b v∧∀ b' v',Od (h0++Lc) b' v'→Od (h0++(Lc'++g).set i (.cell (some v))) b' v':=by
 obtain ⟨v,g,e,w⟩:=zH3 X (n:=n) (c:=c) hb (h:=h0++Lc')
 rw [List.append_assoc] at e w
 have hi':(Lc'++g)[i]? = some (.cell u):=zB hi
 refine ⟨v,g,qT (zc (ev1 (z5 f1) (ev1 eE ev0)) e) fj ((zD h0 _ i).trans hi') (yA h0 _ i _),w.setc hi',fun b' v' w'=>?_⟩
 have w':=(hp b' v' w').app g
 rw [List.append_assoc] at w'
 exact w'.setc hi'
omit X in
theorem Jo {h0 Lc:Hp} {cf:CF} {fr:AFr} {j i q:Nat} {c:Int} {u:Option AV} (f1:fr[q]? = some (some (.int c))) (fj:fr[j]? = some (some (.ref (h0.length+i)))) (hi:Lc[i]? = some (.cell u)) :
  ∃ t g,zA okf (.cell j) (zn (zT [(z8 (.str "")),(z8 .none),(z8 (.int 5)),(zT [(z8 (.str "a"))]),(z8 (.str "\t")),(z8 (.str "a\tb")),(z8 (.bool true))]) (zV .Mod (zV .FloorDiv (z6 q) (z8 (.int 7))) (z8 (.int 7)))) cf fr (h0++Lc)=.ok .next fr (h0++(Lc++g).set i (.cell (some t)))∧(t=.str "" ∨ Bt (h0++(Lc++g).set i (.cell (some t))) t)∧∀ b' v',Od (h0++Lc) b' v'→Od (h0++(Lc++g).set i (.cell (some t))) b' v':=by
 let A:AO:=.list [.str "a"]
 let vs:List AV:=[.str "",.none,.int 5,.ref (h0++Lc).length,.str "\t",.str "a\tb",.bool true]
 have el:zT [(z8 (.str "")),(z8 .none),(z8 (.int 5)),(zT [(z8 (.str "a"))]),(z8 (.str "\t")),(z8 (.str "a\tb")),(z8 (.bool true))] cf fr (h0++Lc)=.ok (.ref ((h0++Lc).length+1)) (h0++(Lc++[A,.list vs])):=(yD (vs:=vs) (h1:=h0++Lc++[A]) (ev1 rfl (ev1 rfl (ev1 rfl (ev1 (yD (ev1 rfl ev0)) (ev1 rfl (ev1 rfl (ev1 rfl ev0)))))))).trans (by rw [zX (bs:=[A]),List.append_assoc,List.append_assoc];rfl)
 have aa:h0++(Lc++[A,.list vs])=(h0++Lc)++[A,.list vs]:=(List.append_assoc _ _ _).symm
 obtain ⟨z0,z1⟩:=fmr (c.fdiv 7) (d:=7) (by decide)
 obtain ⟨t,ht,et⟩:=z4w (h:=h0++(Lc++[A,.list vs])) (a:=(h0++Lc).length+1) (vs:=vs) (by rw [aa];exact zD _ _ 1) z0 z1 (zU rfl)
 have hi':(Lc++[A,.list vs])[i]? = some (.cell u):=zB hi
 have gi:(h0++(Lc++[A,.list vs]))[h0.length+i]? = some (.cell u):=(zD h0 _ i).trans hi'
 refine ⟨t,[A,.list vs],qT (ya el (qe (xM (z5 f1) (by decide)) (by decide)) et) fj gi (yA h0 _ i _),?_,fun b' v' w'=>?_⟩
 ·have ht:t∈([.str "",.none,.int 5,.ref (h0++Lc).length,.str "\t",.str "a\tb",.bool true]:List AV):=ht
  simp only [List.mem_cons,List.not_mem_nil,or_false] at ht
  rcases ht with rfl | rfl | rfl | rfl | rfl | rfl | rfl
  ·exact .inl rfl
  ·exact .inr (.inl rfl)
  ·exact .inr (.inr (.inr (.inl ⟨_,rfl⟩)))
  ·right
   rw [← yA]
   refine Bt.set (u:=u) (.inr (.inr (.inr (.inr ⟨_,A,rfl,?_,.inl ⟨_,rfl⟩⟩)))) gi
   rw [aa];exact zQ _ _ _
  ·exact .inr (.inr (.inr (.inr (.inl ⟨_,rfl,.inl rfl⟩))))
  ·exact .inr (.inr (.inr (.inr (.inl ⟨_,rfl,.inr rfl⟩))))
  ·exact .inr (.inr (.inl ⟨_,rfl⟩))
 ·have w':=w'.app [A,.list vs]
  rw [List.append_assoc] at w'
  exact w'.setc hi'
variable {S:Sh} {r:Hp}
theorem z0l (G:Good S.l S.b) (hh:0<S.hands) (hg:S.g0.a2=.tab "_law_deeds") {c:Int}:∃ g,run T (n+13) (.fn "_law_deeds") [.ref 9,.int c,.int S.hands] (S.hp r)=.ok (.bool true) (S.hp (r++g)):=by
 let m:=(S.hp r).length
 let k:Nat:=S.b.countP id
 have k0:(0:Int)≤(k:Int):=Int.natCast_nonneg _
 let F:Option AV→AFr:=fun cl=>[some (.ref m),some (.int c),some (.int S.hands),cl,some (.ref (m+1)),some (.ref (m+2)),some (.ref (m+3)),some (.ref (m+4)),some (.ref (m+5)),some (.ref (m+6))]
 have tb:∀ {k:Nat},(L k).q = "_law_deeds" → some S.g0.a2=some (.tab (L k).q):=fun {k} e=>by rw [e,hg]
 have s1:zA okf (.cell 8) (z9 (zF 0) "size" none []) (run T (n+12)) (F none) (S.hp r++[.cell (some (.ref 9)),.cell none,.cell none,.cell none,.cell none,.cell none,.cell none])=.ok .next (F none) (S.hp r++[.cell (some (.ref 9)),.cell none,.cell none,.cell none,.cell none,.cell (some (.int k)),.cell none]):=qT (a:=m+5) (u:=none) (zC (a:=9) (zE rfl (zD (S.hp r) _ 0)) rfl wI ev0 (Y8 X.tt (n:=n+10) (r:=r++_))) rfl (zD (S.hp r) _ 5) (yA (S.hp r) _ 5 _)
 obtain ⟨vh,g2,s2,w2,_⟩:=yy X (n:=n+11) (h0:=S.hp r) (fr:=F none) (j:=6) (i:=3) (q:=1) (E:=z6 2) (c:=c) (b:=S.hands) (u:=none) (Int.le_of_lt hh) rfl (z5 rfl) (fun _ _ w=>w) rfl (Lc':=[.cell (some (.ref 9)),.cell none,.cell none,.cell none,.cell none,.cell (some (.int k)),.cell none]) rfl
 obtain ⟨vp,g3,s3,w3,p3⟩:=yy X (n:=n+11) (h0:=S.hp r) (fr:=F none) (j:=7) (i:=4) (q:=1) (E:=zV .Add (zF 8) (z8 (.int 1))) (c:=c) (b:=(k:Int)+1) (u:=none) (Int.le_add_one k0) rfl (qw (zE rfl (zD (S.hp r) _ 5)) rfl) (fun _ _ w=>w) rfl (Lc':=.cell (some (.ref 9))::.cell none::.cell none::.cell (some vh)::.cell none::.cell (some (.int k))::.cell none::g2) rfl
 obtain ⟨ve,g4,s4,w4,p4⟩:=yy X (n:=n+11) (h0:=S.hp r) (fr:=F none) (j:=5) (i:=2) (q:=1) (E:=zV .Add (zF 8) (z8 (.int 1))) (c:=c) (b:=(k:Int)+1) (u:=none) (Int.le_add_one k0) rfl (qw (zE rfl (zD (S.hp r) _ 5)) rfl) (fun _ _ w=>w) rfl (Lc':=.cell (some (.ref 9))::.cell none::.cell none::.cell (some vh)::.cell (some vp)::.cell (some (.int k))::.cell none::(g2++g3)) rfl
 obtain ⟨vb,g5,s5,w5,p5⟩:=yy X (n:=n+11) (h0:=S.hp r) (fr:=F none) (j:=4) (i:=1) (q:=1) (E:=zF 8) (c:=c) (b:=(k:Int)) (u:=none) k0 rfl (zE rfl (zD (S.hp r) _ 5)) (fun _ _ w=>w) rfl (Lc':=.cell (some (.ref 9))::.cell none::.cell (some ve)::.cell (some vh)::.cell (some vp)::.cell (some (.int k))::.cell none::(g2++g3++g4)) rfl
 obtain ⟨vt,g6,s6,w6,p6⟩:=Jo (okf:=okf) (h0:=S.hp r) (cf:=run T (n+12)) (fr:=F none) (j:=9) (i:=6) (q:=1) (c:=c) (u:=none) rfl rfl (Lc:=.cell (some (.ref 9))::.cell (some vb)::.cell (some ve)::.cell (some vh)::.cell (some vp)::.cell (some (.int k))::.cell none::(g2++g3++g4++g5)) rfl
 have w2:=p6 _ _ (p5 _ _ (p4 _ _ (p3 _ _ w2)))
 have w3:=p6 _ _ (p5 _ _ (p4 _ _ w3))
 have w4:=p6 _ _ (p5 _ _ w4)
 have w5:=p6 _ _ w5
 let x6:Hp:=r++(.cell (some (.ref 9))::.cell (some vb)::.cell (some ve)::.cell (some vh)::.cell (some vp)::.cell (some (.int k))::.cell (some vt)::(g2++g3++g4++g5++g6))
 have w2:Od (S.hp x6) S.hands vh:=w2
 have w3:Od (S.hp x6) ((k:Int)+1) vp:=w3
 have w4:Od (S.hp x6) ((k:Int)+1) ve:=w4
 have w5:Od (S.hp x6) (k:Int) vb:=w5
 have w6:vt=.str "" ∨ Bt (S.hp x6) vt:=w6
 have q0:Cl (S.hp x6) m (.ref 9):=zD (S.hp r) _ 0
 have q1:Cl (S.hp x6) (m+1) vb:=zD (S.hp r) _ 1
 have q2:Cl (S.hp x6) (m+2) ve:=zD (S.hp r) _ 2
 have q3:Cl (S.hp x6) (m+3) vh:=zD (S.hp r) _ 3
 have q4:Cl (S.hp x6) (m+4) vp:=zD (S.hp r) _ 4
 have q5:Cl (S.hp x6) (m+5) (.int k):=zD (S.hp r) _ 5
 have q6:Cl (S.hp x6) (m+6) vt:=zD (S.hp r) _ 6
 let ls1:List (LamS×List Nat):=[(L 7,[m+3,m+4,m,m+6]),(L 8,[m+1,m+2,m+3,m]),(L 9,[m+1,m+2,m+3,m+4,m]),(L 10,[m+3,m]),(L 11,[m+3,m]),(L 12,[m+3,m]),(L 13,[m+3,m])]
 obtain ⟨a1,z1,ha1,b1⟩:∃ a z,(z[a]? = some (.list (ls1.map fun p=>AV.lam p.1 p.2))∧∃ g,z=S.hp (x6++g))∧∀ rest,zJ (dA okf L rest) (run T (n+12)) (F none) (S.hp x6)=zJ rest (run T (n+12)) (F (some (.ref a))) z:=by
  let A:List AV:=[.lam (L 7) [m+3,m+4,m,m+6],.lam (L 8) [m+1,m+2,m+3,m]]
  let B:List AV:=[.lam (L 9) [m+1,m+2,m+3,m+4,m],.lam (L 10) [m+3,m]]
  let C:List AV:=[.lam (L 11) [m+3,m],.lam (L 12) [m+3,m]]
  let D:AV:=.lam (L 13) [m+3,m]
  refine ⟨(S.hp x6++[AO.list A,AO.list B]++[AO.list (A++B),AO.list C]).length,S.hp x6++[AO.list A,AO.list B]++[AO.list (A++B),AO.list C]++[AO.list (A++B++C++[D])],⟨zQ _ _ [],⟨[AO.list A,AO.list B]++[AO.list (A++B),AO.list C]++[AO.list (A++B++C++[D])],?_⟩⟩,fun rest=>?_⟩
  ·rw [List.append_assoc,List.append_assoc];rfl
  ·refine (z7 (XH (ys:=A) (ev1 (zq (tb (X.q 7 rfl)) rfl) (ev1 (zq (tb (X.q 8 rfl)) rfl) ev0)) (zU rfl))).trans ?_
   refine (z7 (Yl (h':=S.hp x6) (xs:=A) (ys:=B) rfl (ev1 (zq (tb (X.q 9 rfl)) rfl) (ev1 (zq (tb (X.q 10 rfl)) rfl) ev0)) (zU rfl) (zU rfl))).trans ?_
   refine (z7 (Yl (h':=S.hp x6++[AO.list A,AO.list B]) (xs:=A++B) (ys:=C) rfl (ev1 (zq (tb (X.q 11 rfl)) rfl) (ev1 (zq (tb (X.q 12 rfl)) rfl) ev0)) (zU rfl) (zU rfl))).trans ?_
   exact z7 (XI (h':=S.hp x6++[AO.list A,AO.list B]++[AO.list (A++B),AO.list C]) (xs:=A++B++C) (v:=D) rfl (zq (tb (X.q 13 rfl)) rfl) (zU rfl))
 obtain ⟨ha1,gx1,rfl⟩:=ha1
 obtain ⟨g9,e9,_⟩:=wR (T:=T) (n:=n+12) (w := "hand") wm3 (fr:=F (some (.ref a1))) (h:=S.hp (x6++gx1)) (i:=3) (j:=10) (ls:=ls1) rfl ha1 rfl (fun g'=>by
  have w:=(w2.app gx1).app g'
  have q0:=zB (l:=g') (zB (l:=gx1) q0)
  have q1:=zB (l:=g') (zB (l:=gx1) q1)
  have q2:=zB (l:=g') (zB (l:=gx1) q2)
  have q3:=zB (l:=g') (zB (l:=gx1) q3)
  have q4:=zB (l:=g') (zB (l:=gx1) q4)
  have q6:=zB (l:=g') (zB (l:=gx1) q6)
  exact ⟨l7 X (x:=x6++gx1++g') q3 q4 q0 q6 w,l8 X (x:=x6++gx1++g') q1 q2 q3 q0 w,l9 X (x:=x6++gx1++g') q1 q2 q3 q4 q0 w,l10 X (x:=x6++gx1++g') q3 q0 w,l11 X (x:=x6++gx1++g') q3 q0 w,l12 X (x:=x6++gx1++g') q3 q0 w,l13 X (x:=x6++gx1++g') q3 q0 w,trivial⟩)
 let x9:Hp:=x6++gx1++g9
 have w3:Od (S.hp x9) ((k:Int)+1) vp:=(w3.app gx1).app g9
 have w4:Od (S.hp x9) ((k:Int)+1) ve:=(w4.app gx1).app g9
 have w5:Od (S.hp x9) (k:Int) vb:=(w5.app gx1).app g9
 have w6:vt=.str "" ∨ Bt (S.hp x9) vt:=w6.imp id fun w=>(w.app gx1).app g9
 have q0:Cl (S.hp x9) m (.ref 9):=zB (l:=g9) (zB (l:=gx1) q0)
 have q1:Cl (S.hp x9) (m+1) vb:=zB (l:=g9) (zB (l:=gx1) q1)
 have q2:Cl (S.hp x9) (m+2) ve:=zB (l:=g9) (zB (l:=gx1) q2)
 have q4:Cl (S.hp x9) (m+4) vp:=zB (l:=g9) (zB (l:=gx1) q4)
 have q5:Cl (S.hp x9) (m+5) (.int k):=zB (l:=g9) (zB (l:=gx1) q5)
 have q6:Cl (S.hp x9) (m+6) vt:=zB (l:=g9) (zB (l:=gx1) q6)
 let big:Bool:=decide ((1:Int)<(k:Int))
 let ls2:List (LamS×List Nat):=[(L 14,[m+4,m,m+6]),(L 15,[m+1,m,m+5]),(L 16,[m+2,m]),(L 17,[m+2,m]),(L 18,[m+1,m+4,m,m+5]),(L 19,[m+1,m]),(L 20,[m,m+5]),(L 21,[m])]++cond big [(L 22,[m,m+5]),(L 23,[m+4,m,m+5]),(L 24,[m])] []
 obtain ⟨a2,z2,ha2,b2⟩:∃ a z,(z[a]? = some (.list (ls2.map fun p=>AV.lam p.1 p.2))∧∃ g,z=S.hp (x9++g))∧∀ rest,zJ (dB okf L rest) (run T (n+12)) (F (some (.ref a1))) (S.hp x9)=zJ rest (run T (n+12)) (F (some (.ref a))) z:=by
  let A:List AV:=[.lam (L 14) [m+4,m,m+6],.lam (L 15) [m+1,m,m+5]]
  let B:List AV:=[.lam (L 16) [m+2,m],.lam (L 17) [m+2,m]]
  let C:List AV:=[.lam (L 18) [m+1,m+4,m,m+5],.lam (L 19) [m+1,m]]
  let D:List AV:=[.lam (L 20) [m,m+5],.lam (L 21) [m]]
  let E:List AV:=cond big [.lam (L 22) [m,m+5],.lam (L 23) [m+4,m,m+5],.lam (L 24) [m]] []
  let Z:Hp:=S.hp x9++[AO.list A,AO.list B]++[AO.list (A++B),AO.list C]++[AO.list (A++B++C),AO.list D]
  have qz:∀ xs:List AV,(Z++[AO.list xs])[m+5]? = some (.cell (some (.int k))):=fun xs=>zB (zB (zB (zB q5)))
  refine ⟨Z.length,Z++[AO.list (A++B++C++D++E)],⟨?_,⟨[AO.list A,AO.list B]++[AO.list (A++B),AO.list C]++[AO.list (A++B++C),AO.list D]++[AO.list (A++B++C++D++E)],?_⟩⟩,fun rest=>?_⟩
  ·rw [zQ _ _ []]
   have hb:∀ bg:Bool,some (AO.list (A++B++C++D++cond bg [.lam (L 22) [m,m+5],.lam (L 23) [m+4,m,m+5],.lam (L 24) [m]] []))=some (AO.list (List.map (fun p=>AV.lam p.1 p.2) (([(L 14,[m+4,m,m+6]),(L 15,[m+1,m,m+5]),(L 16,[m+2,m]),(L 17,[m+2,m]),(L 18,[m+1,m+4,m,m+5]),(L 19,[m+1,m]),(L 20,[m,m+5]),(L 21,[m])]:List (LamS×List Nat))++cond bg [(L 22,[m,m+5]),(L 23,[m+4,m,m+5]),(L 24,[m])] []))):=fun bg=>by cases bg <;> rfl
   exact hb big
  ·show S.hp x9++[AO.list A,AO.list B]++[AO.list (A++B),AO.list C]++[AO.list (A++B++C),AO.list D]++[AO.list (A++B++C++D++E)]=_
   rw [List.append_assoc,List.append_assoc,List.append_assoc,List.append_assoc (as:=[AO.list A,AO.list B]),List.append_assoc (as:=[AO.list A,AO.list B])];rfl
  ·refine (z7 (XH (ys:=A) (ev1 (zq (tb (X.q 14 rfl)) rfl) (ev1 (zq (tb (X.q 15 rfl)) rfl) ev0)) (zU rfl))).trans ?_
   refine (z7 (Yl (h':=S.hp x9) (xs:=A) (ys:=B) rfl (ev1 (zq (tb (X.q 16 rfl)) rfl) (ev1 (zq (tb (X.q 17 rfl)) rfl) ev0)) (zU rfl) (zU rfl))).trans ?_
   refine (z7 (Yl (h':=S.hp x9++[AO.list A,AO.list B]) (xs:=A++B) (ys:=C) rfl (ev1 (zq (tb (X.q 18 rfl)) rfl) (ev1 (zq (tb (X.q 19 rfl)) rfl) ev0)) (zU rfl) (zU rfl))).trans ?_
   refine (z7 (Yl (h':=S.hp x9++[AO.list A,AO.list B]++[AO.list (A++B),AO.list C]) (xs:=A++B++C) (ys:=D) rfl (ev1 (zq (tb (X.q 20 rfl)) rfl) (ev1 (zq (tb (X.q 21 rfl)) rfl) ev0)) (zU rfl) (zU rfl))).trans ?_
   refine z7 (fr1:=F (some (.ref Z.length))) ?_
   have t:zj (zF 8) [.Gt] [(z8 (.int 1))] (run T (n+12)) (F (some (.ref Z.length))) (Z++[AO.list (A++B++C++D)])=.ok big (Z++[AO.list (A++B++C++D)]):=zb (zE rfl (qz _)) rfl Wy
   show sIf _ _ _ _ (F (some (.ref Z.length))) (Z++[AO.list (A++B++C++D)])=.ok .next _ (Z++[AO.list (A++B++C++D++cond big _ [])])
   generalize big=bg at t
   cases bg with
   | false=>exact (zN t).trans (by rw [zL];show OS.ok _ _ _=OS.ok _ _ (Z++[AO.list (A++B++C++D++[])]);rw [List.append_nil])
   | true =>
    refine (yM t).trans ?_
    refine (z7 (XI (h':=Z) (xs:=A++B++C++D) (v:=.lam (L 22) [m,m+5]) rfl (zq (tb (X.q 22 rfl)) rfl) (zU rfl))).trans ?_
    refine (z7 (XI (h':=Z) (v:=.lam (L 23) [m+4,m,m+5]) rfl (zq (tb (X.q 23 rfl)) rfl) (zU rfl))).trans ?_
    refine (z7 (XI (h':=Z) (v:=.lam (L 24) [m]) rfl (zq (tb (X.q 24 rfl)) rfl) (zU rfl))).trans ?_
    rfl
 obtain ⟨ha2,gx2,rfl⟩:=ha2
 obtain ⟨g12,e12,_⟩:=wR (T:=T) (n:=n+12) (w := "place") wm1 (fr:=F (some (.ref a2))) (h:=S.hp (x9++gx2)) (i:=3) (j:=10) (ls:=ls2) rfl ha2 rfl (fun g'=>by
  have w3:=(w3.app gx2).app g'
  have w4:=(w4.app gx2).app g'
  have w5:=(w5.app gx2).app g'
  have q0:=zB (l:=g') (zB (l:=gx2) q0)
  have q1:=zB (l:=g') (zB (l:=gx2) q1)
  have q2:=zB (l:=g') (zB (l:=gx2) q2)
  have q4:=zB (l:=g') (zB (l:=gx2) q4)
  have q5:=zB (l:=g') (zB (l:=gx2) q5)
  have q6:=zB (l:=g') (zB (l:=gx2) q6)
  refine Zp.app (l:=[(L 14,[m+4,m,m+6]),(L 15,[m+1,m,m+5]),(L 16,[m+2,m]),(L 17,[m+2,m]),(L 18,[m+1,m+4,m,m+5]),(L 19,[m+1,m]),(L 20,[m,m+5]),(L 21,[m])]) ?_ ⟨l14 X (x:=x9++gx2++g') q4 q0 q6 hh w3,l15 X (x:=x9++gx2++g') q1 q0 q5 hh w5,l16 X (x:=x9++gx2++g') q2 q0 hh w4,l17 X (x:=x9++gx2++g') q2 q0 hh w4,l18 X (x:=x9++gx2++g') q1 q4 q0 q5 hh w5,l19 X (x:=x9++gx2++g') q1 q0 G w5,l20 X (x:=x9++gx2++g') q0 q5 hh,l21 X (x:=x9++gx2++g') q0 hh,trivial⟩
  by_cases hb:(1:Int)<(k:Int)
  ·rw [show big=true from decide_eq_true hb]
   exact ⟨l22 X (x:=x9++gx2++g') q0 q5 hh hb,l23 X (x:=x9++gx2++g') q4 q0 q5 hh hb w3,l24 X (x:=x9++gx2++g') q0 hh hb,trivial⟩
  ·rw [show big=false from decide_eq_false hb]
   exact trivial)
 let x12:Hp:=x9++gx2++g12
 obtain ⟨g13,e13⟩:=l25 X (n:=n) (x:=x12) (S:=S) (c0:=m) (c1:=m+5) (c2:=m+6) (zB (l:=g12) (zB (l:=gx2) q0)) (zB (l:=g12) (zB (l:=gx2) q5)) (zB (l:=g12) (zB (l:=gx2) q6)) hh (w6.imp id fun w=>(w.app gx2).app g12)
 refine ⟨(.cell (some (.ref 9))::.cell (some vb)::.cell (some ve)::.cell (some vh)::.cell (some vp)::.cell (some (.int k))::.cell (some vt)::(g2++g3++g4++g5++g6))++(gx1++(g9++(gx2++(g12++g13)))),?_⟩
 rw [yc X.kBz]
 refine zO (fr:=[some (.ref 9),some (.int c),some (.int S.hands),none,none,none,none,none,none,none]) rfl rfl (fr':=F (some (.ref a2))) ?_
 unfold kBz
 dsimp only
 refine jm (m:=m) (fr1:=F none) (g:=[.cell (some (.ref 9)),.cell none,.cell none,.cell none,.cell none,.cell none,.cell none]) rfl rfl ?_
 refine (z7 s1).trans ((z7 s2).trans ((z7 s3).trans ((z7 s4).trans ((z7 s5).trans ((z7 s6).trans ?_)))))
 refine (b1 _).trans ((z7 ((zN e9).trans zL)).trans ((b2 _).trans ((z7 ((zN e12).trans zL)).trans (zP (zo ?_)))))
 refine (wH (zb (zc (ev1 (zq (tb (X.q 25 rfl)) (cs:=[m,m+5,m+6]) rfl) ev0) e13) (xi (ev1 rfl ev0)) (by rw [xN,xR wm0]))).trans ?_
 refine congrArg (Out.ok (AV.bool true)) ?_
 show S.hp (x12++g13)=_
 refine congrArg S.hp ?_
 simp only [x12,x9,x6,List.append_assoc,List.cons_append]
end
set_option genInjectivity false
set_option genSizeOf false
theorem z1y {N k:Nat} (h:k<N):(xK 0 (N:Int))[k]? = some (.int ((0:Int)+(k:Int))):=by
 unfold xK
 rw [List.getElem?_map,Int.sub_zero,Int.toNat_natCast,List.getElem?_range h];rfl
theorem Jz {N:Nat}:(xK 0 (N:Int))[N]? = none:=by
 unfold xK
 rw [List.getElem?_map,Int.sub_zero,Int.toNat_natCast,List.getElem?_eq_none (by rw [List.length_range];exact Nat.le_refl _)];rfl
section
variable {T:Tab} {okf exm:Str→Str→Bool} {isx:Str→Str→Option Bool} {L:Nat→LamS} (X:TL T okf exm isx L) {n:Nat}
include X
variable {S:Sh} {r:Hp}
theorem Qi (hg:S.g0.a3=.tab "_law_numbers") (hst:S.st.length=S.dn.length) (hs:S.st.length<200) (hf:∀ i:Int,0≤i→i<S.dn.length→fl S.st i=true) {c:Int}:∃ g,run T (n+13) (.fn "_law_numbers") [.ref 9,.int c] (S.hp r)=.ok (.bool true) (S.hp (r++g)):=by
 let m:=(S.hp r).length
 let F:Option AV→AFr:=fun cl=>[some (.ref m),some (.int c),cl,some (.ref (m+1)),some (.ref (m+2)),some (.ref (m+3))]
 have tb:∀ {k:Nat},(L k).q = "_law_numbers" → some S.g0.a3=some (.tab (L k).q):=fun {k} e=>by rw [e,hg]
 obtain ⟨vs,g1,s1,w1,_⟩:=yy X (n:=n+11) (h0:=S.hp r) (fr:=F none) (j:=5) (i:=3) (q:=1) (E:=z9 (zF 0) "many" none []) (c:=c) (b:=S.le.length) (u:=none) (Int.natCast_nonneg _) rfl (zC (a:=9) (zE rfl (zD (S.hp r) _ 0)) rfl Xv ev0 (z2i X.tt (n:=n+11) (r:=r++_))) (fun _ _ w=>w) rfl (Lc':=[.cell (some (.ref 9)),.cell none,.cell none,.cell none]) rfl
 obtain ⟨vd,g2,s2,w2,p2⟩:=yy X (n:=n+11) (h0:=S.hp r) (fr:=F none) (j:=3) (i:=1) (q:=1) (E:=z9 (zF 0) "deeds" none []) (c:=c) (b:=S.dn.length) (u:=none) (Int.natCast_nonneg _) rfl (zC (a:=9) (zE rfl (zD (S.hp r) _ 0)) rfl YQ ev0 (Ww X.tt (n:=n+11) (r:=r++_))) (fun _ _ w=>w) rfl (Lc':=.cell (some (.ref 9))::.cell none::.cell none::.cell (some vs)::g1) rfl
 have w1:=p2 _ _ w1
 let R:Option AV→Hp→Hp:=fun u g=>r++(.cell (some (.ref 9))::.cell (some vd)::.cell u::.cell (some vs)::g)
 let x2:Hp:=R none (g1++g2)
 have w1:Od (S.hp x2) S.le.length vs:=w1
 have w2:Od (S.hp x2) S.dn.length vd:=w2
 have q0:Cl (S.hp x2) m (.ref 9):=zD (S.hp r) _ 0
 have q3:Cl (S.hp x2) (m+3) vs:=zD (S.hp r) _ 3
 let pos:Bool:=decide ((0:Int)<(S.le.length:Int))
 let ls1:List (LamS×List Nat):=[(L 26,[m,m+3]),(L 27,[m,m+3]),(L 28,[m,m+3])]++cond pos [(L 29,[m,m+3]),(L 30,[m,m+3])] []
 obtain ⟨a1,z1,ha1,b1⟩:∃ a z,(z[a]? = some (.list (ls1.map fun p=>AV.lam p.1 p.2))∧∃ g,z=S.hp (x2++g))∧∀ rest,zJ (nA okf L rest) (run T (n+12)) (F none) (S.hp x2)=zJ rest (run T (n+12)) (F (some (.ref a))) z:=by
  let A:List AV:=[.lam (L 26) [m,m+3],.lam (L 27) [m,m+3],.lam (L 28) [m,m+3]]
  let B:List AV:=[.lam (L 29) [m,m+3],.lam (L 30) [m,m+3]]
  have e1:zA okf (.names (.one 2)) (zT [(zy (L 26) [0,5] 3),(zy (L 27) [0,5] 3),(zy (L 28) [0,5] 3)]) (run T (n+12)) (F none) (S.hp x2)=.ok .next (F (some (.ref (S.hp x2).length))) (S.hp x2++[AO.list A]):=XH (ys:=A) (ev1 (zq (tb (X.q 26 rfl)) rfl) (ev1 (zq (tb (X.q 27 rfl)) rfl) (ev1 (zq (tb (X.q 28 rfl)) rfl) ev0))) (zU rfl)
  have t:zj (z9 (zF 0) "many" none []) [.Gt] [(z8 (.int 0))] (run T (n+12)) (F (some (.ref (S.hp x2).length))) (S.hp x2++[AO.list A])=.ok pos (S.hp x2++[AO.list A]):=zb (zC (a:=9) (zE rfl (zB q0)) rfl Xv ev0 (z2i X.tt (n:=n+11) (r:=x2++[AO.list A]))) rfl Wy
  show ∃ a z,(z[a]? = some (AO.list (List.map (fun p=>AV.lam p.1 p.2) (([(L 26,[m,m+3]),(L 27,[m,m+3]),(L 28,[m,m+3])]:List (LamS×List Nat))++cond pos [(L 29,[m,m+3]),(L 30,[m,m+3])] [])))∧∃ g,z=S.hp (x2++g))∧_
  generalize pos=bp at t
  cases bp with
  | false=>exact ⟨(S.hp x2).length,S.hp x2++[AO.list A],⟨zQ _ _ [],_,rfl⟩,fun rest=>(z7 e1).trans (z7 ((zN t).trans zL))⟩
  | true=>exact ⟨(S.hp x2++[AO.list A,AO.list B]).length,S.hp x2++[AO.list A,AO.list B]++[AO.list (A++B)],⟨zQ _ _ [],[AO.list A,AO.list B]++[AO.list (A++B)],by rw [List.append_assoc];rfl⟩,fun rest=>(z7 e1).trans (z7 ((yM t).trans ((z7 (Yl (h':=S.hp x2) (xs:=A) (ys:=B) rfl (ev1 (zq (tb (X.q 29 rfl)) rfl) (ev1 (zq (tb (X.q 30 rfl)) rfl) ev0)) (zU rfl) (zU rfl))).trans zL)))⟩
 obtain ⟨ha1,gx1,rfl⟩:=ha1
 obtain ⟨g5,e5,_⟩:=wR (T:=T) (n:=n+12) (w := "seat") wm2 (fr:=F (some (.ref a1))) (h:=S.hp (x2++gx1)) (i:=2) (j:=6) (ls:=ls1) rfl ha1 rfl (fun g'=>by
  have w:=(w1.app gx1).app g'
  have q0:=zB (l:=g') (zB (l:=gx1) q0)
  have q3:=zB (l:=g') (zB (l:=gx1) q3)
  refine Zp.app (l:=[(L 26,[m,m+3]),(L 27,[m,m+3]),(L 28,[m,m+3])]) ?_ ⟨l26 X (x:=x2++gx1++g') q0 q3 w,l27 X (x:=x2++gx1++g') q0 q3 w,l28 X (x:=x2++gx1++g') q0 q3 w,trivial⟩
  by_cases hb:(0:Int)<(S.le.length:Int)
  ·rw [show pos=true from decide_eq_true hb]
   exact ⟨l29 X (x:=x2++gx1++g') q0 q3 (Int.ofNat_lt.mp hb) w,l30 X (x:=x2++gx1++g') q0 q3 w,trivial⟩
  ·rw [show pos=false from decide_eq_false hb]
   exact trivial)
 let G1:Hp:=g1++g2++gx1++g5
 let x5:Hp:=R none G1
 have hx5:S.hp (x2++gx1)++g5=S.hp x5:=by
  show S.hp (x2++gx1++g5)=_
  refine congrArg S.hp ?_
  simp only [x5,x2,R,G1,List.append_assoc,List.cons_append]
 rw [hx5] at e5
 have w2:Od (S.hp x5) S.dn.length vd:=by rw [← hx5];exact (w2.app gx1).app g5
 let C:List AV:=[.lam (L 31) [m+1,m],.lam (L 32) [m+1,m],.lam (L 33) [m+1,m]]
 let ls2:List (LamS×List Nat):=[(L 31,[m+1,m]),(L 32,[m+1,m]),(L 33,[m+1,m]),(L 34,[m+1,m])]
 let f7:AFr:=F (some (.ref (m+(G1.length+4))))
 let CL:AO:=.list (ls2.map fun p=>AV.lam p.1 p.2)
 have l5:(S.hp x5).length=m+(G1.length+4):=zX (as:=S.hp r)
 have s6:zA okf (.names (.one 2)) (zT [(zy (L 31) [3,0] 3),(zy (L 32) [3,0] 3),(zy (L 33) [3,0] 3)]) (run T (n+12)) (F (some (.ref a1))) (S.hp x5)=.ok .next f7 (S.hp x5++[AO.list C]):=(XH (ys:=C) (ev1 (zq (tb (X.q 31 rfl)) rfl) (ev1 (zq (tb (X.q 32 rfl)) rfl) (ev1 (zq (tb (X.q 33 rfl)) rfl) ev0))) (zU rfl)).trans (by rw [l5];rfl)
 have s7:zM (z9 (z6 2) "append" (some .append) [(zy (L 34) [3,0] 3)]) (run T (n+12)) f7 (S.hp x5++[AO.list C])=.ok .next f7 (S.hp (R none (G1++[CL]))):=(XI (h':=S.hp x5) (xs:=C) (v:=.lam (L 34) [m+1,m]) (by rw [l5];rfl) (zq (tb (X.q 34 rfl)) rfl) (zU rfl)).trans (by
  refine congrArg (OS.ok _ _) ?_
  show S.hp (x5++[CL])=_
  refine congrArg S.hp ?_
  simp only [x5,R,List.append_assoc,List.cons_append])
 have qd:∀ u g,(S.hp (R u g))[m+2]? = some (.cell u):=fun u g=>zD (S.hp r) _ 2
 have sd:∀ u g v,(S.hp (R u g)).set (m+2) (.cell (some v))=S.hp (R (some v) g):=fun u g v=>yA (S.hp r) _ 2 _
 have key:∀ (j k:Nat) (u:Option AV) (g:Hp),k+j=S.dn.length→∃ u' g',yz (.cell 4) (zJ [(sIf (zj (zK (zI (some (.fn "_law_refusal"))) [(zy (L 35) [4,0] 3)]) [.NotEq] [(xG [(z8 (.str "deed"))])]) (zJ [(zi (z8 (.bool false)))]) (zJ []))]) (.imm (xK 0 (S.dn.length:Int))) (j+1) k (run T (n+12)) f7 (S.hp (R u (G1++[CL]++g)))=.ok .next f7 (S.hp (R u' (G1++[CL]++g'))):=by
  intro j
  induction j with
  | zero =>
   intro k u g hk
   have hk:k=S.dn.length:=hk
   subst hk
   exact ⟨u,g,Zx (congrArg some Jz)⟩
  | succ j ih =>
   intro k u g hk
   have hk':k<S.dn.length:=by rw [← hk];exact Nat.lt_add_of_pos_right (Nat.succ_pos j)
   have k0:(0:Int)≤0+(k:Int):=by rw [Int.zero_add];exact Int.natCast_nonneg _
   have k1:((0:Int)+(k:Int))<S.dn.length:=by rw [Int.zero_add];exact Int.ofNat_lt.mpr hk'
   obtain ⟨g',e'⟩:=l35 X (n:=n) (S:=S) (x:=R (some (.int ((0:Int)+(k:Int)))) (G1++[CL]++g)) (c0:=m+2) (c1:=m) (qd _ _) (zD (S.hp r) _ 0) k0 k1 hst hs (hf _ k0 k1)
   obtain ⟨u'',g'',e''⟩:=ih (k+1) (some (.int ((0:Int)+(k:Int)))) (g++g') (by rw [← hk,Nat.add_assoc,Nat.add_comm 1])
   refine ⟨u'',g'',wx (fr1:=f7) (h1:=S.hp (R (some (.int ((0:Int)+(k:Int)))) (G1++[CL]++g))) (congrArg some (z1y hk')) ?_ (fr2:=f7) (h2:=S.hp (R (some (.int ((0:Int)+(k:Int)))) (G1++[CL]++(g++g')))) ?_ e''⟩
   ·show (qG f7 (S.hp (R u (G1++[CL]++g))) 4 (.int ((0:Int)+(k:Int)))).map _=_
    have:qG f7 (S.hp (R u (G1++[CL]++g))) 4 (.int ((0:Int)+(k:Int)))=some (S.hp (R (some (.int ((0:Int)+(k:Int)))) (G1++[CL]++g))):=by
     show (wy (S.hp (R u (G1++[CL]++g))) (m+2)).map (fun _=>(S.hp (R u (G1++[CL]++g))).set (m+2) (.cell (some (.int ((0:Int)+(k:Int))))))=_
     unfold wy
     rw [qd,sd];rfl
    rw [this];rfl
   ·refine (z7 ((zN (zb (zc (ev1 (zq (tb (X.q 35 rfl)) (cs:=[m+2,m]) rfl) ev0) e') (xi (ev1 rfl ev0)) (b:=false) (by rw [wS,xR wm4];rfl))).trans zL)).trans ?_
    refine zL.trans (congrArg (OS.ok _ _) ?_)
    show S.hp (R (some (.int ((0:Int)+(k:Int)))) (G1++[CL]++g)++g')=_
    refine congrArg S.hp ?_
    simp only [R,List.append_assoc,List.cons_append]
 obtain ⟨u8,g8,e8⟩:=key S.dn.length 0 none [] (Nat.zero_add _)
 rw [List.append_nil] at e8
 have s8:xz (.cell 4) (zK (zI (some (.bi .range))) [(z9 (zF 0) "deeds" none [])]) false (zJ [(sIf (zj (zK (zI (some (.fn "_law_refusal"))) [(zy (L 35) [4,0] 3)]) [.NotEq] [(xG [(z8 (.str "deed"))])]) (zJ [(zi (z8 (.bool false)))]) (zJ []))]) (run T (n+12)) f7 (S.hp (R none (G1++[CL])))=.ok .next f7 (S.hp (R u8 (G1++[CL]++g8))):=by
  refine wj (en:=false) (src:=.imm (xK 0 (S.dn.length:Int))) (m:=S.dn.length) (v:=.range 0 S.dn.length) (xl (ev1 (zC (a:=9) (zE rfl (zD (S.hp r) _ 0)) rfl YQ ev0 (Ww X.tt (n:=n+11) (r:=R none (G1++[CL])))) ev0) (by rw [Z1,if_pos (by rw [Int.natAbs_natCast,← hst];exact Nat.lt_trans hs (by decide))])) ?_ e8
  show some (Src.imm (xK 0 (S.dn.length:Int)),((S.dn.length:Int) - 0).toNat)=_
  rw [Int.sub_zero,Int.toNat_natCast]
 let x8:Hp:=R u8 (G1++[CL]++g8)
 have w8:Od (S.hp x8) S.dn.length vd:=by
  have w:=w2.app ([CL]++g8)
  have w':Od (S.hp r++(.cell (some (.ref 9))::.cell (some vd)::.cell none::.cell (some vs)::(G1++[CL]++g8))) S.dn.length vd:=by
   have e:S.hp x5++([CL]++g8)=S.hp r++(.cell (some (.ref 9))::.cell (some vd)::.cell none::.cell (some vs)::(G1++[CL]++g8)):=by
    show S.hp (x5++([CL]++g8))=S.hp (r++_)
    refine congrArg S.hp ?_
    simp only [x5,R,List.append_assoc,List.cons_append]
   rw [← e];exact w
  exact w'.setc (j:=2) rfl
 have kc:(S.hp x8)[m+(G1.length+4)]? = some CL:=(zD (S.hp r) _ (G1.length+4)).trans (zB (zQ G1 _ []))
 have r0:Cl (S.hp x8) m (.ref 9):=zD (S.hp r) _ 0
 have r1:Cl (S.hp x8) (m+1) vd:=zD (S.hp r) _ 1
 obtain ⟨g9,_,e9⟩:=wR (T:=T) (n:=n+12) (w := "deed") wm4 (fr:=f7) (h:=S.hp x8) (i:=2) (j:=6) (ls:=ls2) rfl kc rfl (fun g'=>by
  have w:=w8.app g'
  have r0:=zB (l:=g') r0
  have r1:=zB (l:=g') r1
  exact ⟨l31 X (x:=x8++g') r1 r0 w,l32 X (x:=x8++g') r1 r0 w,l33 X (x:=x8++g') r1 r0 w,l34 X (x:=x8++g') r1 r0 w,trivial⟩)
 refine ⟨.cell (some (.ref 9))::.cell (some vd)::.cell u8::.cell (some vs)::(G1++[CL]++g8++g9),?_⟩
 rw [yc X.kBf]
 refine zO (fr:=[some (.ref 9),some (.int c),none,none,none,none]) rfl rfl (fr':=f7) ?_
 unfold kBf
 dsimp only
 refine jm (m:=m) (fr1:=F none) (g:=[.cell (some (.ref 9)),.cell none,.cell none,.cell none]) rfl rfl ?_
 refine (z7 s1).trans ((z7 s2).trans ((b1 _).trans ((z7 ((zN e5).trans zL)).trans ((z7 s6).trans ((z7 s7).trans ((z7 s8).trans (zP (zo ?_))))))))
 refine (wH e9).trans (congrArg (Out.ok (AV.bool true)) ?_)
 show S.hp (x8++g9)=_
 refine congrArg S.hp ?_
 simp only [x8,R,List.append_assoc,List.cons_append]
end
set_option genInjectivity false
set_option genSizeOf false
noncomputable abbrev mF1:List (Str×AV):=[("sheet",.ref 9)]
noncomputable abbrev mF2 (a:Nat):List (Str×AV):=[("sheet",.ref 9),("kept",.ref (a+1))]
noncomputable abbrev mF (a:Nat) (k:Int):List (Str×AV):=[("sheet",.ref 9),("kept",.ref (a+1)),("coming",.int k)]
structure MkAt (c:Str) (h:Hp) (a:Nat) (k:Int) (kvs:List (Int×AV)):Prop where
 i:h[a]? = some (.inst c (mF a k))
 d:h[a+1]? = some (.dict kvs)
theorem MkAt.app {c:Str} {h:Hp} {a:Nat} {k:Int} {kvs:List (Int×AV)} (M:MkAt c h a k kvs) (g:Hp):MkAt c (h++g) a k kvs:=⟨zB M.i,zB M.d⟩
noncomputable def Kv (kvs:List (Int×AV)) (d:Nat):Prop:=(kvs=[]∧d=0)∨∃ v,kvs=[(0,v)]∧d=1
theorem kM1 {a:Nat} {k:Int}:List.lookup ("sheet" : Str) (mF a k)=some (.ref 9):=rfl
theorem kM2 {a:Nat} {k:Int}:List.lookup ("kept" : Str) (mF a k)=some (.ref (a+1)):=rfl
theorem kM3 {a:Nat} {k:Int}:List.lookup ("coming" : Str) (mF a k)=some (.int k):=rfl
theorem nM1 {a:Nat} {k:Int}:List.lookup ("need_mark" : Str) (mF a k)=none:=rfl
theorem nM2 {a:Nat} {k:Int}:List.lookup ("need_thread" : Str) (mF a k)=none:=rfl
theorem nM3 {a:Nat} {k:Int}:List.lookup ("stick" : Str) (mF a k)=none:=rfl
theorem nM4 {a:Nat} {k:Int}:List.lookup ("tie" : Str) (mF a k)=none:=rfl
theorem nM5 {a:Nat} {k:Int}:List.lookup ("over" : Str) (mF a k)=none:=rfl
theorem nM6 {a:Nat} {k:Int}:List.lookup ("drop" : Str) (mF a k)=none:=rfl
theorem nM7 {a:Nat} {k:Int}:List.lookup ("sign" : Str) (mF a k)=none:=rfl
theorem nM8 {a:Nat} {k:Int}:List.lookup ("told" : Str) (mF a k)=none:=rfl
theorem nM9 {a:Nat} {k:Int}:List.lookup ("of" : Str) (mF a k)=none:=rfl
theorem z4z {a:Nat} {k:Int}:List.lookup ("numbers" : Str) (mF a k)=none:=rfl
theorem Kv.none {kvs:List (Int×AV)} {d:Nat} (K:Kv kvs d) {i:Int} (h:¬ (0≤i∧i<d)):ZG kvs i=none:=by
 rcases K with ⟨rfl,rfl⟩ | ⟨v,rfl,rfl⟩
 ·rfl
 ·have:¬ (0=i):=by lia
  unfold ZG
  rw [List.find?_cons_of_neg (p:=fun kv:Int×AV=>decide (kv.fst=i)) (a:=(0,v)) (l:=[]) (fun z=>this (of_decide_eq_true z))];rfl
theorem z4o {T:Tab} {n:Nat} {c x:Str} {F:Fn} {h:Hp} (e:T.meth c x=some F):run T (n+1) (.has c x) [] h=.ok .none h:=by
 show (match T.meth c x with | some _=>Out.ok AV.none h | none=>.stuck)=_
 rw [e]
section
variable {T:Tab} {okf:Str→Str→Bool} (X:TT T okf) {n:Nat} {S:Sh} {x:Hp} {a:Nat} {k:Int} {kvs:List (Int×AV)} {d:Nat} {v u:AV} {c:Str} {h:Hp}
include X
theorem JY (M:MkAt c h a k kvs) (K:Kv kvs d) (w:Od h d v):y8 .Or [(yn (yT (zK (zI (some (.fn "is_whole"))) [(z6 1)]))),(zj (z6 1) [.NotIn] [(zH (z6 0) "kept")])] (run T (n+1)) [some (.ref a),some v] h=.ok true h:=by
 rcases w with w | ⟨i,rfl,w⟩
 ·exact jk (zx (b:=false) (yZ (zc (ev1 (z5 rfl) ev0) (ZW X w)) rfl))
 ·refine yv (zx (b:=true) (yZ (v:=.bool true) (zc (ev1 (z5 rfl) ev0) (yE X)) rfl)) (jk (zb (z5 rfl) (zR (z5 rfl) M.i kM2) ?_))
  show ((xy h (a+1)).map fun kvs=>(ZG kvs i).isSome).map _=_
  unfold xy
  rw [M.d]
  show some (!(ZG kvs i).isSome)=_
  rw [K.none w];rfl
theorem JT (M:MkAt "Marks" h a k kvs) (K:Kv kvs d) (w:Od h d v):run T (n+2) (.meth "Marks" "need_mark") [.ref a,v] h=.exc "NoMark" h:=by
 rw [zG X.kAf]
 exact zY (fr:=[some (.ref a),some v]) rfl rfl (zm (yN (JY X M K w)))
theorem Yz (M:MkAt "Threads" h a k kvs) (K:Kv kvs d) (w:Od h d v):run T (n+2) (.meth "Threads" "need_thread") [.ref a,v] h=.exc "NoMark" h:=by
 rw [zG X.kAb]
 exact zY (fr:=[some (.ref a),some v]) rfl rfl (zm (yN (JY X M K w)))
theorem z2g (M:MkAt "Marks" h a k kvs) (K:Kv kvs d) (w:Od h d v):run T (n+3) (.meth "Marks" "drop") [.ref a,v] h=.exc "NoMark" h:=by
 rw [zG X.kBp]
 exact zY (fr:=[some (.ref a),some v]) rfl rfl (zm (zp (zC (a:=a) (z5 rfl) M.i nM1 (ev1 (z5 rfl) ev0) (JT X M K w))))
theorem Qn (M:MkAt "Marks" h a k kvs) (K:Kv kvs d) (w:Od h d v):run T (n+3) (.meth "Marks" "sign") [.ref a,v] h=.exc "NoMark" h:=by
 rw [zG X.kBr]
 exact zY (fr:=[some (.ref a),some v]) rfl rfl (zm (zp (zC (a:=a) (z5 rfl) M.i nM1 (ev1 (z5 rfl) ev0) (JT X M K w))))
theorem z2e (M:MkAt "Marks" (S.hp x) a k kvs) (K:Kv kvs d) (w:Od (S.hp x) d v):run T (n+4) (.meth "Marks" "told") [.ref a,v] (S.hp x)=.exc "NoMark" (S.hp x):=by
 rw [zG X.kBh]
 exact zY (fr:=[some (.ref a),some v]) rfl rfl (zm (z20 (z4t (a:=9) (zR (z5 rfl) M.i kM1) rfl ZU (zJy (zC (a:=a) (z5 rfl) M.i nM7 (ev1 (z5 rfl) ev0) (Qn X M K w))) (z4o X.kAo))))
theorem z10 (M:MkAt "Threads" h a k kvs) (K:Kv kvs d) (w:Od h d v):run T (n+3) (.meth "Threads" "drop") [.ref a,v] h=.exc "NoMark" h:=by
 rw [zG X.kA0]
 exact zY (fr:=[some (.ref a),some v]) rfl rfl (zm (zp (zC (a:=a) (z5 rfl) M.i nM2 (ev1 (z5 rfl) ev0) (Yz X M K w))))
theorem z0x (M:MkAt "Threads" h a k kvs) (K:Kv kvs d) (w:Od h d v):run T (n+3) (.meth "Threads" "told") [.ref a,v] h=.exc "NoMark" h:=by
 rw [zG X.kAy]
 exact zY (fr:=[some (.ref a),some v,none,none,none,none,none]) rfl rfl (zm (zp (zC (a:=a) (z5 rfl) M.i nM2 (ev1 (z5 rfl) ev0) (Yz X M K w))))
theorem QT (M:MkAt "Marks" (S.hp x) a k kvs) (G:Good S.l S.b) (hh:0<S.hands) (w:Od (S.hp x) ((S.b.countP id:Nat):Int) v):run T (n+5) (.meth "Marks" "stick") [.ref a,.int 0,v] (S.hp x)=.exc "NoPlace" (S.hp (x++[.list ((tk S.b S.l).map AV.int)])):=by
 rw [zG X.kBe]
 exact zY (fr:=[some (.ref a),some (.int 0),some v,none,none]) rfl rfl ((z7 (zZ (zC (a:=9) (zR (z5 rfl) M.i kM1) rfl ze (ev1 (z5 rfl) ev0) (yP X (Int.le_refl 0) hh)))).trans (zm (Xm (zC (a:=9) (zR (z5 rfl) M.i kM1) rfl xT (ev1 (z5 rfl) ev0) (jT X G w)))))
theorem WS (M:MkAt "Marks" (S.hp x) a k kvs) (w:Od (S.hp x) S.hands v):run T (n+3) (.meth "Marks" "stick") [.ref a,v,u] (S.hp x)=.exc "NoHand" (S.hp x):=by
 rw [zG X.kBe]
 exact zY (fr:=[some (.ref a),some v,some u,none,none]) rfl rfl (zm (zp (zC (a:=9) (zR (z5 rfl) M.i kM1) rfl ze (ev1 (z5 rfl) ev0) (wN X w))))
theorem z4y (M:MkAt "Marks" (S.hp x) a k kvs) (w:Od (S.hp x) S.hands v):run T (n+3) (.meth "Marks" "of") [.ref a,v] (S.hp x)=.exc "NoHand" (S.hp x):=by
 rw [zG X.kB8]
 exact zY (fr:=[some (.ref a),some v]) rfl rfl (zm (zp (zC (a:=9) (zR (z5 rfl) M.i kM1) rfl ze (ev1 (z5 rfl) ev0) (wN X w))))
theorem z0z (M:MkAt "Threads" (S.hp x) a k kvs) (w:run T (n+4) (.meth "Sheet" "need_stretch") [.ref 9,u,v] (S.hp x)=.exc "NoPlace" (S.hp x)):run T (n+5) (.meth "Threads" "tie") [.ref a,u,v] (S.hp x)=.exc "NoPlace" (S.hp x):=by
 rw [zG X.kA4]
 exact zY (fr:=[some (.ref a),some u,some v,none]) rfl rfl (zm (zp (zC (a:=9) (zR (z5 rfl) M.i kM1) rfl yG (ev1 (z5 rfl) (ev1 (z5 rfl) ev0)) w)))
theorem z4x (M:MkAt "Threads" (S.hp x) a k kvs) (G:Good S.l S.b) (w:Od (S.hp x) ((S.b.countP id:Nat):Int) v):run T (n+5) (.meth "Threads" "over") [.ref a,v] (S.hp x)=.exc "NoPlace" (S.hp (x++[.list ((tk S.b S.l).map AV.int)])):=by
 rw [zG X.kA3]
 exact zY (fr:=[some (.ref a),some v,none,none,none,none]) rfl rfl (zm (zp (zC (a:=9) (zR (z5 rfl) M.i kM1) rfl xT (ev1 (z5 rfl) ev0) (jT X G w))))
omit X in
theorem JJ {b:Nat} (e:h[b]? = some (.dict kvs)) (K:Kv kvs d):qC .sorted [.ref b] h=.ok (.ref h.length) (h++[.list ((zg 0 d).map AV.int)]):=by
 show ofP ((xy h b).bind fun kvs=>if kvs.length<64∧(kvs.map (·.1)).Pairwise (·≤·) then some (.ref h.length,h++[.list (kvs.map fun p=>.int p.1)]) else none)=_
 unfold xy
 rw [e]
 show ofP (if kvs.length<64∧(kvs.map (·.1)).Pairwise (·≤·) then some (.ref h.length,h++[.list (kvs.map fun p=>.int p.1)]) else none)=_
 rcases K with ⟨rfl,rfl⟩ | ⟨v,rfl,rfl⟩
 ·rw [if_pos ⟨by decide,List.Pairwise.nil⟩];rfl
 ·rw [if_pos ⟨zU rfl,List.pairwise_singleton _ _⟩];rfl
theorem Qp (M:MkAt "Marks" h a k kvs) (K:Kv kvs d):run T (n+1) (.meth "Marks" "numbers") [.ref a] h=.ok (.ref h.length) (h++[.list ((zg 0 d).map AV.int)]):=by
 rw [zG X.kAt]
 exact zO (fr:=[some (.ref a)]) rfl rfl (fr':=[some (.ref a)]) (zP (zo (xl (ev1 (zR (z5 rfl) M.i kM2) ev0) (JJ M.d K))))
theorem QL (M:MkAt "Threads" h a k kvs) (K:Kv kvs d):run T (n+1) (.meth "Threads" "numbers") [.ref a] h=.ok (.ref h.length) (h++[.list ((zg 0 d).map AV.int)]):=by
 rw [zG X.kAg]
 exact zO (fr:=[some (.ref a)]) rfl rfl (fr':=[some (.ref a)]) (zP (zo (xl (ev1 (zR (z5 rfl) M.i kM2) ev0) (JJ M.d K))))
omit X in
theorem JR {okc:Str} (o1:okf okc "sheet" = true) (o2:okf okc "kept" = true) (o3:okf okc "coming" = true):zJ [(zA okf (.attr (z6 0) "sheet") (z6 1)),(zA okf (.attr (z6 0) "kept") wZ),(zA okf (.attr (z6 0) "coming") (z8 (.int 0)))] (run T n) [some (.ref h.length),some (.ref 9)] (h++[.inst okc []])=.ok .next [some (.ref h.length),some (.ref 9)] (h++[.inst okc (mF h.length 0),.dict []]):=by
 refine (z7 (qk (a:=h.length) (z5 rfl) (z5 rfl) (zQ h _ []) o1 (zU rfl) (show qY "sheet" (AV.ref 9) []=mF1 from rfl))).trans ?_
 rw [set_gap]
 refine (z7 (qk (v:=.ref (h.length+1)) (h1:=h++[.inst okc mF1,.dict []]) (a:=h.length) ?_ (z5 rfl) (zQ h _ _) o2 (zU rfl) (show qY "kept" (AV.ref (h.length+1)) mF1=mF2 h.length from rfl))).trans ?_
 ·show Out.ok (AV.ref (h++[AO.inst okc mF1]).length) (h++[AO.inst okc mF1]++[AO.dict []])=_
  rw [zX,List.append_assoc];rfl
 rw [set_gap]
 refine (z7 (qk (a:=h.length) rfl (z5 rfl) (zQ h _ _) o3 (zU rfl) (show qY "coming" (AV.int 0) (mF2 h.length)=mF h.length 0 from rfl))).trans ?_
 rw [set_gap];rfl
theorem Wl:run T (n+1) (.cls "Marks") [.ref 9] h=.ok (.ref h.length) (h++[.inst "Marks" (mF h.length 0),.dict []]):=by
 rw [j8 X.marks X.kBm,yI (F:=kBm okf) (args:=[.ref h.length,.ref 9]) rfl rfl (JR X.okM_sheet X.okM_kept X.okM_coming)];rfl
theorem XZ:run T (n+1) (.cls "Threads") [.ref 9] h=.ok (.ref h.length) (h++[.inst "Threads" (mF h.length 0),.dict []]):=by
 rw [j8 X.threads X.kAz,yI (F:=kAz okf) (args:=[.ref h.length,.ref 9]) rfl rfl (JR X.kCh X.kCm X.kB4)];rfl
variable {mvs:List (List (Int×Int))} {cus:List (List Int)}
omit X in
theorem jx {h:Hp} {j:Nat} {o o':AO} (e:h[j]? = some o):(h.set j o')[j]? = some o':=by rw [List.getElem?_set_self (yj e).1]
omit X in
theorem YZ {h:Hp} {i j:Nat} {o':AO} (ne:j≠i):(h.set j o')[i]? = h[i]? := List.getElem?_set_ne ne
theorem zGp (I:Iw S mvs cus) (hh:0<S.hands) {y:Int} (hy:(tk S.b S.l)[0]? = some y) (M:MkAt "Marks" (S.hp x) a 0 []):∃ g,run T (n+5) (.meth "Marks" "stick") [.ref a,.int 0,.int 0] (S.hp x)=.ok (.int 0) (((S.hp (x++g)).set a (.inst "Marks" (mF a 1))).set (a+1) (.dict [(0,.tup [.int 0,.int (gI S.ow y)])])):=by
 obtain ⟨g,e⟩:=jh X (n:=n) (S:=S) (r:=x) I (p:=0) hy
 have M':=M.app g
 refine ⟨g,?_⟩
 rw [zG X.kBe]
 refine zO (fr:=[some (.ref a),some (.int 0),some (.int 0),none,none]) rfl rfl (fr':=[some (.ref a),some (.int 0),some (.int 0),some (.int (gI S.ow y)),some (.int 0)]) ?_
 unfold kBe
 dsimp only
 refine (z7 (zZ (zC (a:=9) (zR (z5 rfl) M.i kM1) rfl ze (ev1 (z5 rfl) ev0) (yP X (Int.le_refl 0) hh)))).trans ?_
 refine (z7 (zd (j:=3) (zC (a:=9) (zR (z5 rfl) M.i kM1) rfl xT (ev1 (z5 rfl) ev0) e) (zU rfl))).trans ?_
 refine (z7 (zd (j:=4) (v:=.int 0) (zR (a:=a) (z5 rfl) M'.i kM3) (zU rfl))).trans ?_
 refine (z7 (qk (a:=a) (v:=.int 1) (qw (a:=0) (c:=1) (z5 rfl) rfl) (z5 rfl) M'.i X.okM_coming (zU rfl) (show qY "coming" (AV.int 1) (mF a 0)=mF a 1 from rfl))).trans ?_
 have i1:((S.hp (x++g)).set a (.inst "Marks" (mF a 1)))[a]? = some (.inst "Marks" (mF a 1)):=jx M'.i
 have d1:((S.hp (x++g)).set a (.inst "Marks" (mF a 1)))[a+1]? = some (.dict []):=(YZ (Nat.ne_of_lt (Nat.lt_succ_self a))).trans M'.d
 refine (z7 (Xn (v:=.tup [.int 0,.int (gI S.ow y)]) (w:=.ref (a+1)) (k:=.int 0) (xi (ev1 (z5 rfl) (ev1 (z5 rfl) ev0))) (zR (z5 rfl) i1 kM2) (z5 rfl) ?_)).trans (zP (zo (z5 rfl)))
 rw [Zr,d1];rfl
theorem zJp {k:Nat} (I:Iw S mvs cus) {y0 y1:Int} (hy:(tk S.b S.l)[0]? = some y0) {q:Nat} (hq:(tk S.b S.l)[q]? = some y1) (hs:S.b.countP id=q+1) (M:MkAt "Threads" (S.hp x) (k+23) 0 []):∃ g v,run T (n+5) (.meth "Threads" "tie") [.ref (k+23),.int 0,.int (S.b.countP id:Nat)] (S.hp x)=.ok (.int 0) (S.hp ((x.set k (.inst "Threads" (mF (k+23) 1))++g).set (k+1) (.dict [(0,v)]))):=by
 let x1:Hp:=x.set k (.inst "Threads" (mF (k+23) 1))
 obtain ⟨g,e⟩:=jh X (n:=n) (S:=S) (r:=x1) I (p:=0) hy
 obtain ⟨g',e'⟩:=jh X (n:=n) (S:=S) (r:=x1++g) I (p:=q) hq
 have i1:(S.hp x1)[k+23]? = some (.inst "Threads" (mF (k+23) 1)):=jx (h:=S.hp x) M.i
 have d1:(S.hp x1)[k+23+1]? = some (.dict []):=(YZ (h:=S.hp x) (Nat.ne_of_lt (Nat.lt_succ_self (k+23)))).trans M.d
 have i2:(S.hp (x1++g))[k+23]? = some (.inst "Threads" (mF (k+23) 1)):=zB (l:=g) i1
 have i3:(S.hp (x1++g++g'))[k+23]? = some (.inst "Threads" (mF (k+23) 1)):=zB (l:=g') i2
 have d3:(S.hp (x1++g++g'))[k+24]? = some (.dict []):=zB (l:=g') (zB (l:=g) d1)
 refine ⟨g++g',.tup [.int (gI S.ow y0),.int (gI S.ow y1)],?_⟩
 rw [zG X.kA4]
 refine zO (fr:=[some (.ref (k+23)),some (.int 0),some (.int (S.b.countP id:Nat)),none]) rfl rfl (fr':=[some (.ref (k+23)),some (.int 0),some (.int (S.b.countP id:Nat)),some (.int 0)]) ?_
 unfold kA4
 dsimp only
 refine (z7 (zZ (zC (a:=9) (zR (z5 rfl) M.i kM1) rfl yG (ev1 (z5 rfl) (ev1 (z5 rfl) ev0)) (xP X (Int.le_refl 0) (by rw [hs];exact Int.natCast_pos.mpr (Nat.succ_pos _)) (Int.le_refl _))))).trans ?_
 refine (z7 (zd (j:=3) (v:=.int 0) (zR (a:=k+23) (z5 rfl) M.i kM3) (zU rfl))).trans ?_
 refine (z7 (qk (a:=k+23) (v:=.int 1) (qw (a:=0) (c:=1) (z5 rfl) rfl) (z5 rfl) M.i X.kB4 (zU rfl) (show qY "coming" (AV.int 1) (mF (k+23) 0)=mF (k+23) 1 from rfl))).trans ?_
 show zJ _ _ [some (.ref (k+23)),some (.int 0),some (.int (S.b.countP id:Nat)),some (.int 0)] (S.hp x1)=_
 have eq1:((S.b.countP id:Nat):Int) - 1=(q:Nat):=by rw [hs];lia
 have es:zV .Sub (z6 2) (z8 (.int 1)) (run T (n+4)) [some (.ref (k+23)),some (.int 0),some (.int (S.b.countP id:Nat)),some (.int 0)] (S.hp (x1++g))=.ok (.int (q:Nat)) (S.hp (x1++g)):=by rw [← eq1];exact xI (z5 rfl) rfl Zz
 refine (z7 (Xn (v:=.tup [.int (gI S.ow y0),.int (gI S.ow y1)]) (w:=.ref (k+24)) (k:=.int 0) (xi (ev1 (zC (a:=9) (zR (z5 rfl) i1 kM1) rfl xT (ev1 (z5 rfl) ev0) e) (ev1 (zC (a:=9) (zR (z5 rfl) i2 kM1) rfl xT (ev1 es ev0) e') ev0))) (zR (z5 rfl) i3 kM2) (z5 rfl) (h4:=(S.hp (x1++g++g')).set (k+24) (.dict [(0,.tup [.int (gI S.ow y0),.int (gI S.ow y1)])])) ?_)).trans ((zP (zo (z5 rfl))).trans ?_)
 ·rw [Zr,d3];rfl
 ·rw [List.append_assoc];rfl
end
set_option genInjectivity false
set_option genSizeOf false
section
variable {T:Tab} {okf exm:Str→Str→Bool} {isx:Str→Str→Option Bool} {L:Nat→LamS} (X:TL T okf exm isx L) {n:Nat} {S:Sh} {x:Hp} {a:Nat} {k:Int} {kvs:List (Int×AV)} {d:Nat} {v u:AV} {c0 c1 c2:Nat} {h:Hp}
include X
theorem z0a {fr:AFr} {b:Nat} (f1:fr[1]? = some (some (.ref b))) (e:Cl h b (.ref a)) (M:MkAt "Marks" h a k kvs) (K:Kv kvs d):zK (zI (some (.bi .len))) [(z9 (zF 1) "numbers" none [])] (run T (n+1)) fr h=.ok (.int d) (h++[.list ((zg 0 d).map AV.int)]):=by
 refine xl (ev1 (zC (a:=a) (zE f1 e) M.i z4z ev0 (Qp X.tt M K)) ev0) ?_
 rw [qp,qI,zQ h _ []]
 show Out.ok (AV.int (((zg 0 d).map AV.int).length:Nat)) _=_
 rw [List.length_map,yp]
theorem Qy {fr:AFr} {b:Nat} (f1:fr[2]? = some (some (.ref b))) (e:Cl h b (.ref a)) (M:MkAt "Threads" h a k kvs) (K:Kv kvs d):zK (zI (some (.bi .len))) [(z9 (zF 2) "numbers" none [])] (run T (n+1)) fr h=.ok (.int d) (h++[.list ((zg 0 d).map AV.int)]):=by
 refine xl (ev1 (zC (a:=a) (zE f1 e) M.i z4z ev0 (QL X.tt M K)) ev0) ?_
 rw [qp,qI,zQ h _ []]
 show Out.ok (AV.int (((zg 0 d).map AV.int).length:Nat)) _=_
 rw [List.length_map,yp]
theorem l36 (M:MkAt "Marks" (S.hp x) a k kvs) (e0:Cl (S.hp x) c0 v) (e1:Cl (S.hp x) c1 (.ref a)) (G:Good S.l S.b) (hh:0<S.hands) (w:Od (S.hp x) ((S.b.countP id:Nat):Int) v):Rf T (n+12) (L 36) [c0,c1] "place" (S.hp x):=by
 refine xX X wm1 (g:=[.list ((tk S.b S.l).map AV.int)]) ?_
 rw [zW (X.lam 36 rfl) rfl]
 exact zC (a:=a) (zE rfl e1) M.i nM3 (ev1 rfl (ev1 (zE rfl e0) ev0)) (QT X.tt M G hh w)
theorem l37 (M:MkAt "Threads" (S.hp x) a k kvs) (e0:Cl (S.hp x) c0 v) (e1:Cl (S.hp x) c1 (.int (S.b.countP id:Nat))) (e2:Cl (S.hp x) c2 (.ref a)) (w:Od (S.hp x) ((S.b.countP id:Nat):Int) v):Rf T (n+12) (L 37) [c0,c1,c2] "place" (S.hp x):=by
 refine zS X wm1 ?_
 rw [zW (X.lam 37 rfl) rfl]
 exact zC (a:=a) (zE rfl e2) M.i nM4 (ev1 (zE rfl e0) (ev1 (zE rfl e1) ev0)) (z0z X.tt M (zGq X.tt w))
theorem l38 (M:MkAt "Threads" (S.hp x) a k kvs) (e0:Cl (S.hp x) c0 v) (e1:Cl (S.hp x) c1 (.ref a)) (w:Od (S.hp x) (((S.b.countP id:Nat):Int)+1) v):Rf T (n+12) (L 38) [c0,c1] "place" (S.hp x):=by
 refine zS X wm1 ?_
 rw [zW (X.lam 38 rfl) rfl]
 exact zC (a:=a) (zE rfl e1) M.i nM4 (ev1 rfl (ev1 (zE rfl e0) ev0)) (z0z X.tt M (zGr X.tt (Int.le_refl 0) (Int.natCast_nonneg _) w))
theorem l39 (M:MkAt "Threads" (S.hp x) a k kvs) (e0:Cl (S.hp x) c0 v) (e1:Cl (S.hp x) c1 (.ref a)) (G:Good S.l S.b) (w:Od (S.hp x) ((S.b.countP id:Nat):Int) v):Rf T (n+12) (L 39) [c0,c1] "place" (S.hp x):=by
 refine xX X wm1 (g:=[.list ((tk S.b S.l).map AV.int)]) ?_
 rw [zW (X.lam 39 rfl) rfl]
 exact zC (a:=a) (zE rfl e1) M.i nM5 (ev1 (zE rfl e0) ev0) (z4x X.tt M G w)
theorem l40 (M:MkAt "Marks" (S.hp x) a k kvs) (K:Kv kvs d) (e0:Cl (S.hp x) c0 (.ref a)) (e1:Cl (S.hp x) c1 v) (w:Od (S.hp x) d v):Rf T (n+12) (L 40) [c0,c1] "mark" (S.hp x):=by
 refine zS X wm5 ?_
 rw [zW (X.lam 40 rfl) rfl]
 exact zC (a:=a) (zE rfl e0) M.i nM6 (ev1 (zE rfl e1) ev0) (z2g X.tt M K w)
theorem l41 (M:MkAt "Marks" (S.hp x) a k kvs) (K:Kv kvs d) (e0:Cl (S.hp x) c0 (.ref a)) (e1:Cl (S.hp x) c1 v) (w:Od (S.hp x) d v):Rf T (n+12) (L 41) [c0,c1] "mark" (S.hp x):=by
 refine zS X wm5 ?_
 rw [zW (X.lam 41 rfl) rfl]
 exact zC (a:=a) (zE rfl e0) M.i nM7 (ev1 (zE rfl e1) ev0) (Qn X.tt M K w)
theorem l42 (M:MkAt "Marks" (S.hp x) a k kvs) (K:Kv kvs d) (e0:Cl (S.hp x) c0 (.ref a)) (e1:Cl (S.hp x) c1 v) (w:Od (S.hp x) d v):Rf T (n+12) (L 42) [c0,c1] "mark" (S.hp x):=by
 refine zS X wm5 ?_
 rw [zW (X.lam 42 rfl) rfl]
 exact zC (a:=a) (zE rfl e0) M.i nM8 (ev1 (zE rfl e1) ev0) (z2e X.tt M K w)
theorem l43 (M:MkAt "Threads" (S.hp x) a k kvs) (K:Kv kvs d) (e0:Cl (S.hp x) c0 v) (e1:Cl (S.hp x) c1 (.ref a)) (w:Od (S.hp x) d v):Rf T (n+12) (L 43) [c0,c1] "mark" (S.hp x):=by
 refine zS X wm5 ?_
 rw [zW (X.lam 43 rfl) rfl]
 exact zC (a:=a) (zE rfl e1) M.i nM6 (ev1 (zE rfl e0) ev0) (z10 X.tt M K w)
theorem l44 (M:MkAt "Threads" (S.hp x) a k kvs) (K:Kv kvs d) (e0:Cl (S.hp x) c0 v) (e1:Cl (S.hp x) c1 (.ref a)) (w:Od (S.hp x) d v):Rf T (n+12) (L 44) [c0,c1] "mark" (S.hp x):=by
 refine zS X wm5 ?_
 rw [zW (X.lam 44 rfl) rfl]
 exact zC (a:=a) (zE rfl e1) M.i nM8 (ev1 (zE rfl e0) ev0) (z0x X.tt M K w)
theorem l45 (M:MkAt "Marks" (S.hp x) a k kvs) (e0:Cl (S.hp x) c0 u) (e1:Cl (S.hp x) c1 v) (e2:Cl (S.hp x) c2 (.ref a)) (w:Od (S.hp x) S.hands v):Rf T (n+12) (L 45) [c0,c1,c2] "hand" (S.hp x):=by
 refine zS X wm3 ?_
 rw [zW (X.lam 45 rfl) rfl]
 exact zC (a:=a) (zE rfl e2) M.i nM3 (ev1 (zE rfl e1) (ev1 (zE rfl e0) ev0)) (WS X.tt M w)
theorem l46 (M:MkAt "Marks" (S.hp x) a k kvs) (e0:Cl (S.hp x) c0 v) (e1:Cl (S.hp x) c1 (.ref a)) (w:Od (S.hp x) S.hands v):Rf T (n+12) (L 46) [c0,c1] "hand" (S.hp x):=by
 refine zS X wm3 ?_
 rw [zW (X.lam 46 rfl) rfl]
 exact zC (a:=a) (zE rfl e1) M.i nM9 (ev1 (zE rfl e0) ev0) (z4y X.tt M w)
variable {r:Hp} {a1 a2 d1 d2:Nat} {k1 k2:Int} {kv1 kv2:List (Int×AV)}
theorem z05 (G:Good S.l S.b) (hh:0<S.hands) (hg:S.g0.a4=.tab "_law_marks") (M1:MkAt "Marks" (S.hp r) a1 k1 kv1) (K1:Kv kv1 d1) (M2:MkAt "Threads" (S.hp r) a2 k2 kv2) (K2:Kv kv2 d2) {c:Int}:∃ g,run T (n+13) (.fn "_law_marks") [.ref 9,.ref a1,.ref a2,.int c,.int S.hands] (S.hp r)=.ok (.bool true) (S.hp (r++g)):=by
 let m:=(S.hp r).length
 let k:Nat:=S.b.countP id
 have k0:(0:Int)≤(k:Int):=Int.natCast_nonneg _
 let F:Option AV→AFr:=fun cl=>[some (.ref 9),some (.ref m),some (.ref (m+1)),some (.int c),some (.int S.hands),cl,some (.ref (m+2)),some (.ref (m+3)),some (.ref (m+4)),some (.ref (m+5)),some (.ref (m+6)),some (.ref (m+7))]
 have tb:∀ {k:Nat},(L k).q = "_law_marks" → some S.g0.a4=some (.tab (L k).q):=fun {k} e=>by rw [e,hg]
 have s1:zA okf (.cell 11) (z9 (z6 0) "size" none []) (run T (n+12)) (F none) (S.hp r++[.cell (some (.ref a1)),.cell (some (.ref a2)),.cell none,.cell none,.cell none,.cell none,.cell none,.cell none])=.ok .next (F none) (S.hp r++[.cell (some (.ref a1)),.cell (some (.ref a2)),.cell none,.cell none,.cell none,.cell none,.cell none,.cell (some (.int k))]):=qT (a:=m+7) (u:=none) (zC (a:=9) (z5 rfl) rfl wI ev0 (Y8 X.tt (n:=n+10) (r:=r++_))) rfl (zD (S.hp r) _ 7) (yA (S.hp r) _ 7 _)
 obtain ⟨vb,g2,s2,w2,_⟩:=yy X (n:=n+11) (h0:=S.hp r) (fr:=F none) (j:=6) (i:=2) (q:=3) (E:=zF 11) (c:=c) (b:=(k:Int)) (u:=none) k0 rfl (zE rfl (zD (S.hp r) _ 7)) (fun _ _ w=>w) rfl (Lc':=[.cell (some (.ref a1)),.cell (some (.ref a2)),.cell none,.cell none,.cell none,.cell none,.cell none,.cell (some (.int k))]) rfl
 obtain ⟨ve,g3,s3,w3,p3⟩:=yy X (n:=n+11) (h0:=S.hp r) (fr:=F none) (j:=7) (i:=3) (q:=3) (E:=zV .Add (zF 11) (z8 (.int 1))) (c:=c) (b:=(k:Int)+1) (u:=none) (Int.le_add_one k0) rfl (qw (zE rfl (zD (S.hp r) _ 7)) rfl) (fun _ _ w=>w) rfl (Lc':=.cell (some (.ref a1))::.cell (some (.ref a2))::.cell (some vb)::.cell none::.cell none::.cell none::.cell none::.cell (some (.int k))::g2) rfl
 obtain ⟨vh,g4,s4,w4,p4⟩:=yy X (n:=n+11) (h0:=S.hp r) (fr:=F none) (j:=8) (i:=4) (q:=3) (E:=z6 4) (c:=c) (b:=S.hands) (u:=none) (Int.le_of_lt hh) rfl (z5 rfl) (fun _ _ w=>w) rfl (Lc':=.cell (some (.ref a1))::.cell (some (.ref a2))::.cell (some vb)::.cell (some ve)::.cell none::.cell none::.cell none::.cell (some (.int k))::(g2++g3)) rfl
 let l4:Hp:=.cell (some (.ref a1))::.cell (some (.ref a2))::.cell (some vb)::.cell (some ve)::.cell (some vh)::.cell none::.cell none::.cell (some (.int k))::(g2++g3++g4)
 obtain ⟨vn,g5,s5,w5,p5⟩:=yy X (n:=n+11) (h0:=S.hp r) (Lc:=l4) (fr:=F none) (j:=9) (i:=5) (q:=3) (E:=zK (zI (some (.bi .len))) [(z9 (zF 1) "numbers" none [])]) (c:=c) (b:=(d1:Int)) (u:=none) (Int.natCast_nonneg _) rfl ((z0a X (n:=n+11) (b:=m) rfl (zD (S.hp r) _ 0) (M1.app l4) K1).trans (by rw [List.append_assoc])) (fun _ _ w=>by rw [← List.append_assoc];exact w.app _) rfl (Lc':=l4++[.list ((zg 0 d1).map AV.int)]) rfl
 let l5:Hp:=.cell (some (.ref a1))::.cell (some (.ref a2))::.cell (some vb)::.cell (some ve)::.cell (some vh)::.cell (some vn)::.cell none::.cell (some (.int k))::(g2++g3++g4++[.list ((zg 0 d1).map AV.int)]++g5)
 obtain ⟨vo,g6,s6,w6,p6⟩:=yy X (n:=n+11) (h0:=S.hp r) (Lc:=l5) (fr:=F none) (j:=10) (i:=6) (q:=3) (E:=zK (zI (some (.bi .len))) [(z9 (zF 2) "numbers" none [])]) (c:=c) (b:=(d2:Int)) (u:=none) (Int.natCast_nonneg _) rfl ((Qy X (n:=n+11) (b:=m+1) rfl (zD (S.hp r) _ 1) (M2.app l5) K2).trans (by rw [List.append_assoc])) (fun _ _ w=>by rw [← List.append_assoc];exact w.app _) rfl (Lc':=l5++[.list ((zg 0 d2).map AV.int)]) rfl
 have w2:=p6 _ _ (p5 _ _ (p4 _ _ (p3 _ _ w2)))
 have w3:=p6 _ _ (p5 _ _ (p4 _ _ w3))
 have w4:=p6 _ _ (p5 _ _ w4)
 have w5:=p6 _ _ w5
 let g7:Hp:=g2++g3++g4++[.list ((zg 0 d1).map AV.int)]++g5++[.list ((zg 0 d2).map AV.int)]++g6
 let x6:Hp:=r++(.cell (some (.ref a1))::.cell (some (.ref a2))::.cell (some vb)::.cell (some ve)::.cell (some vh)::.cell (some vn)::.cell (some vo)::.cell (some (.int k))::g7)
 have w2:Od (S.hp x6) (k:Int) vb:=w2
 have w3:Od (S.hp x6) ((k:Int)+1) ve:=w3
 have w4:Od (S.hp x6) S.hands vh:=w4
 have w5:Od (S.hp x6) (d1:Int) vn:=w5
 have w6:Od (S.hp x6) (d2:Int) vo:=w6
 have q0:Cl (S.hp x6) m (.ref a1):=zD (S.hp r) _ 0
 have q1:Cl (S.hp x6) (m+1) (.ref a2):=zD (S.hp r) _ 1
 have q2:Cl (S.hp x6) (m+2) vb:=zD (S.hp r) _ 2
 have q3:Cl (S.hp x6) (m+3) ve:=zD (S.hp r) _ 3
 have q4:Cl (S.hp x6) (m+4) vh:=zD (S.hp r) _ 4
 have q5:Cl (S.hp x6) (m+5) vn:=zD (S.hp r) _ 5
 have q6:Cl (S.hp x6) (m+6) vo:=zD (S.hp r) _ 6
 have q7:Cl (S.hp x6) (m+7) (.int k):=zD (S.hp r) _ 7
 have M1:MkAt "Marks" (S.hp x6) a1 k1 kv1:=M1.app (.cell (some (.ref a1))::.cell (some (.ref a2))::.cell (some vb)::.cell (some ve)::.cell (some vh)::.cell (some vn)::.cell (some vo)::.cell (some (.int k))::g7)
 have M2:MkAt "Threads" (S.hp x6) a2 k2 kv2:=M2.app (.cell (some (.ref a1))::.cell (some (.ref a2))::.cell (some vb)::.cell (some ve)::.cell (some vh)::.cell (some vn)::.cell (some vo)::.cell (some (.int k))::g7)
 let ls1:List (LamS×List Nat):=[(L 36,[m+2,m]),(L 37,[m+2,m+7,m+1]),(L 38,[m+3,m+1]),(L 39,[m+2,m+1])]
 let A:List AV:=[.lam (L 36) [m+2,m],.lam (L 37) [m+2,m+7,m+1],.lam (L 38) [m+3,m+1]]
 let gx1:Hp:=[AO.list (ls1.map fun p=>AV.lam p.1 p.2)]
 let f1:AFr:=F (some (.ref (S.hp x6).length))
 have b1:∀ rest,zJ (mA okf L rest) (run T (n+12)) (F none) (S.hp x6)=zJ rest (run T (n+12)) f1 (S.hp (x6++gx1)):=fun rest =>
  (z7 (XH (ys:=A) (ev1 (zq (tb (X.q 36 rfl)) rfl) (ev1 (zq (tb (X.q 37 rfl)) rfl) (ev1 (zq (tb (X.q 38 rfl)) rfl) ev0))) (zU rfl))).trans (z7 (XI (h':=S.hp x6) (xs:=A) (v:=.lam (L 39) [m+2,m+1]) rfl (zq (tb (X.q 39 rfl)) rfl) (zU rfl)))
 have ha1:(S.hp (x6++gx1))[(S.hp x6).length]? = some (.list (ls1.map fun p=>AV.lam p.1 p.2)):=zQ (S.hp x6) _ []
 obtain ⟨g9,e9,_⟩:=wR (T:=T) (n:=n+12) (w := "place") wm1 (fr:=f1) (h:=S.hp (x6++gx1)) (i:=5) (j:=12) (ls:=ls1) rfl ha1 rfl (fun g'=>by
  have w2:=(w2.app gx1).app g'
  have w3:=(w3.app gx1).app g'
  have M1:=(M1.app gx1).app g'
  have M2:=(M2.app gx1).app g'
  have q0:=zB (l:=g') (zB (l:=gx1) q0)
  have q1:=zB (l:=g') (zB (l:=gx1) q1)
  have q2:=zB (l:=g') (zB (l:=gx1) q2)
  have q3:=zB (l:=g') (zB (l:=gx1) q3)
  have q7:=zB (l:=g') (zB (l:=gx1) q7)
  exact ⟨l36 X (x:=x6++gx1++g') M1 q2 q0 G hh w2,l37 X (x:=x6++gx1++g') M2 q2 q7 q1 w2,l38 X (x:=x6++gx1++g') M2 q3 q1 w3,l39 X (x:=x6++gx1++g') M2 q2 q1 G w2,trivial⟩)
 let x9:Hp:=x6++gx1++g9
 have w4:Od (S.hp x9) S.hands vh:=(w4.app gx1).app g9
 have w5:Od (S.hp x9) (d1:Int) vn:=(w5.app gx1).app g9
 have w6:Od (S.hp x9) (d2:Int) vo:=(w6.app gx1).app g9
 have M1:MkAt "Marks" (S.hp x9) a1 k1 kv1:=(M1.app gx1).app g9
 have M2:MkAt "Threads" (S.hp x9) a2 k2 kv2:=(M2.app gx1).app g9
 have q0:Cl (S.hp x9) m (.ref a1):=zB (l:=g9) (zB (l:=gx1) q0)
 have q1:Cl (S.hp x9) (m+1) (.ref a2):=zB (l:=g9) (zB (l:=gx1) q1)
 have q2:Cl (S.hp x9) (m+2) vb:=zB (l:=g9) (zB (l:=gx1) q2)
 have q4:Cl (S.hp x9) (m+4) vh:=zB (l:=g9) (zB (l:=gx1) q4)
 have q5:Cl (S.hp x9) (m+5) vn:=zB (l:=g9) (zB (l:=gx1) q5)
 have q6:Cl (S.hp x9) (m+6) vo:=zB (l:=g9) (zB (l:=gx1) q6)
 let ls2:List (LamS×List Nat):=[(L 40,[m,m+5]),(L 41,[m,m+5]),(L 42,[m,m+5]),(L 43,[m+6,m+1]),(L 44,[m+6,m+1])]
 let B:List AV:=[.lam (L 40) [m,m+5],.lam (L 41) [m,m+5],.lam (L 42) [m,m+5]]
 let C:List AV:=[.lam (L 43) [m+6,m+1],.lam (L 44) [m+6,m+1]]
 let y2:Hp:=x9++[AO.list B,AO.list C]
 let gx2:Hp:=[AO.list B,AO.list C]++[AO.list (ls2.map fun p=>AV.lam p.1 p.2)]
 let f2:AFr:=F (some (.ref (S.hp y2).length))
 have hy2:S.hp y2++[AO.list (ls2.map fun p=>AV.lam p.1 p.2)]=S.hp (x9++gx2):=by
  show S.hp (y2++[AO.list (ls2.map fun p=>AV.lam p.1 p.2)])=_
  exact congrArg S.hp (List.append_assoc _ _ _)
 have b2:∀ rest,zJ (mB okf L rest) (run T (n+12)) f1 (S.hp x9)=zJ rest (run T (n+12)) f2 (S.hp (x9++gx2)):=fun rest=>by
  rw [← hy2]
  exact (z7 (XH (ys:=B) (ev1 (zq (tb (X.q 40 rfl)) rfl) (ev1 (zq (tb (X.q 41 rfl)) rfl) (ev1 (zq (tb (X.q 42 rfl)) rfl) ev0))) (zU rfl))).trans (z7 (Yl (h':=S.hp x9) (xs:=B) (ys:=C) rfl (ev1 (zq (tb (X.q 43 rfl)) rfl) (ev1 (zq (tb (X.q 44 rfl)) rfl) ev0)) (zU rfl) (zU rfl)))
 have ha2:(S.hp (x9++gx2))[(S.hp y2).length]? = some (.list (ls2.map fun p=>AV.lam p.1 p.2)):=by rw [← hy2];exact zQ (S.hp y2) _ []
 obtain ⟨g12,e12,_⟩:=wR (T:=T) (n:=n+12) (w := "mark") wm5 (fr:=f2) (h:=S.hp (x9++gx2)) (i:=5) (j:=12) (ls:=ls2) rfl ha2 rfl (fun g'=>by
  have w5:=(w5.app gx2).app g'
  have w6:=(w6.app gx2).app g'
  have M1:=(M1.app gx2).app g'
  have M2:=(M2.app gx2).app g'
  have q0:=zB (l:=g') (zB (l:=gx2) q0)
  have q1:=zB (l:=g') (zB (l:=gx2) q1)
  have q5:=zB (l:=g') (zB (l:=gx2) q5)
  have q6:=zB (l:=g') (zB (l:=gx2) q6)
  exact ⟨l40 X (x:=x9++gx2++g') M1 K1 q0 q5 w5,l41 X (x:=x9++gx2++g') M1 K1 q0 q5 w5,l42 X (x:=x9++gx2++g') M1 K1 q0 q5 w5,l43 X (x:=x9++gx2++g') M2 K2 q6 q1 w6,l44 X (x:=x9++gx2++g') M2 K2 q6 q1 w6,trivial⟩)
 let x12:Hp:=x9++gx2++g12
 have w4:Od (S.hp x12) S.hands vh:=(w4.app gx2).app g12
 have M1:MkAt "Marks" (S.hp x12) a1 k1 kv1:=(M1.app gx2).app g12
 have q0:Cl (S.hp x12) m (.ref a1):=zB (l:=g12) (zB (l:=gx2) q0)
 have q2:Cl (S.hp x12) (m+2) vb:=zB (l:=g12) (zB (l:=gx2) q2)
 have q4:Cl (S.hp x12) (m+4) vh:=zB (l:=g12) (zB (l:=gx2) q4)
 obtain ⟨g13,e13⟩:=l45 X (n:=n) (S:=S) (x:=x12) M1 q2 q4 q0 w4
 obtain ⟨g14,e14⟩:=l46 X (n:=n) (S:=S) (x:=x12++g13) (M1.app g13) (zB (l:=g13) q4) (zB (l:=g13) q0) (w4.app g13)
 refine ⟨(.cell (some (.ref a1))::.cell (some (.ref a2))::.cell (some vb)::.cell (some ve)::.cell (some vh)::.cell (some vn)::.cell (some vo)::.cell (some (.int k))::g7)++(gx1++(g9++(gx2++(g12++(g13++g14))))),?_⟩
 rw [yc X.kB0]
 refine zO (fr:=[some (.ref 9),some (.ref a1),some (.ref a2),some (.int c),some (.int S.hands),none,none,none,none,none,none,none]) rfl rfl (fr':=f2) ?_
 unfold kB0
 dsimp only
 refine jm (m:=m) (fr1:=F none) (g:=[.cell (some (.ref a1)),.cell (some (.ref a2)),.cell none,.cell none,.cell none,.cell none,.cell none,.cell none]) rfl rfl ?_
 refine (z7 s1).trans ((z7 s2).trans ((z7 s3).trans ((z7 s4).trans ((z7 s5).trans ((z7 s6).trans ?_)))))
 refine (b1 _).trans ((z7 ((zN e9).trans zL)).trans ((b2 _).trans ((z7 ((zN e12).trans zL)).trans (zP (zo ?_)))))
 refine (wH (yi (zc (ev1 (zq (tb (X.q 45 rfl)) (cs:=[m+2,m+4,m]) rfl) ev0) e13) (xi (ev1 rfl ev0)) (by rw [xN,xR wm3]) (zc (ev1 (zq (tb (X.q 46 rfl)) (cs:=[m+4,m]) rfl) ev0) e14) (by rw [xN,xR wm3]))).trans ?_
 refine congrArg (Out.ok (AV.bool true)) ?_
 show S.hp (x12++g13++g14)=_
 refine congrArg S.hp ?_
 simp only [x12,x9,x6,List.append_assoc,List.cons_append]
end
end Mine.LS
end
section
set_option genInjectivity false
set_option genSizeOf false
namespace Mine
open PySem
section
variable {cf:CF} {fr:AFr} {h h1 h2:Hp} {o e:XE} {v:AV} {ys:List AV} {a:Nat} {okf:Str→Str→Bool}
theorem jU (eo:o cf fr h=.ok (.ref a) h) (ha0:h[a]? = some (.list ys)) (ev:e cf fr h=.ok v h1) (ha:h1[a]? = some (.list ys)) (z:ys.length<small) (hz:h1.set a (.list (ys++[v]))=h2):zM (z9 o "append" (some .append) [e]) cf fr h=.ok .next fr h2:=by
 refine zZ (v:=.none) (jM (a:=a) eo ha0 (ev1 ev ev0) ?_)
 rw [xD,ha]
 show (if ys.length<small then Out.ok AV.none (h1.set a (.list (ys++[v]))) else .stuck)=_
 rw [if_pos z,hz]
theorem z22 {k:Nat} (eo:o cf fr h=.ok (.ref a) h) (ha:h[a]? = some (.list ys)) (hk:ys.length=k):zK (zI (some (.bi .len))) [o] cf fr h=.ok (.int k) h:=by
 refine xl (ev1 eo ev0) ?_
 rw [qp,qI,ha,← hk];rfl
end
end Mine
namespace Mine.LS
open PySem Mine
set_option maxRecDepth 100000
set_option maxHeartbeats 1000000
noncomputable def Oh (h:Hp) (v:AV):Prop:=NW h v∨∃ k,v=.int k∧(k<1∨9<k)
theorem Oh.app {h:Hp} {v:AV} (w:Oh h v) (g:Hp):Oh (h++g) v:=w.imp (·.app g) id
theorem kCq:okT [97]∧okT [122]:=by
 have:([97,122].all fun c=>LET.cps.toList.contains c)=true:=by decide +kernel
 exact ⟨fun c hc=>List.contains_iff_mem.mp (List.all_eq_true.mp this c (by cases hc with | head=>exact .head _ | tail _ h=>cases h)),fun c hc=>List.contains_iff_mem.mp (List.all_eq_true.mp this c (by cases hc with | head=>exact .tail _ (.head _) | tail _ h=>cases h))⟩
noncomputable abbrev fZ (m:Nat):List (Str×AV):=fZl 1 m
noncomputable abbrev ZB (h:Hp) (l b ow le fi mv br cu:List AV) (g:Hp):Hp:=h++(.inst "Sheet" (fZ h.length)::.list [.bool true]::.inst "Row" (rF2 (h.length+2))::.list l::.list b::.list ow::.list le::.list fi::.list mv::.list br::.list cu::.list []::.list []::.list []::g)
section
variable {T:Tab} {okf:Str→Str→Bool} (X:TT T okf) {n:Nat} {h:Hp} {v u:AV}
include X
theorem WY (w:Bt h v):∃ g,run T (n+3) (.cls "Sheet") [v,u] h=.exc "BadText" (h++g):=by
 obtain ⟨g,e⟩:=YW X (n:=n+1) (w.app [.inst "Sheet" []])
 refine ⟨[.inst "Sheet" []]++g,?_⟩
 rw [j8 X.sheet X.kBj,zY (F:=kBj okf) (args:=[.ref h.length,v,u]) (fr:=[some (.ref h.length),some v,some u]) rfl rfl (zm (yN (zx (b:=false) (yZ (zc (ev1 (z5 rfl) ev0) e) rfl)))),List.append_assoc];rfl
theorem WZ (w:Oh h v):∃ g,run T (n+3) (.cls "Sheet") [.str "a",v] h=.exc "NoHand" (h++g):=by
 have e:=YX X (n:=n+1) kCq.1 (by decide) (hp:=h++[.inst "Sheet" []])
 have w:=(w.app [.inst "Sheet" []]).app [.list ([97].map fun _=>AV.bool true)]
 have w':NW (h++[.inst "Sheet" []]++[.list ([97].map fun _=>AV.bool true)]) v∨∃ k,v=.int k∧(k<1∨xQ .LtE (.int k) (.int 9) (h++[.inst "Sheet" []]++[.list ([97].map fun _=>AV.bool true)])=some false):=w.imp id fun ⟨k,e,q⟩=>⟨k,e,q.imp id fun q=>by rw [xV,decide_eq_false (Int.not_le.mpr q)]⟩
 refine ⟨[.inst "Sheet" []]++[.list ([97].map fun _=>AV.bool true)],?_⟩
 rw [wi.2.2.2.2.2.1,j8 X.sheet X.kBj,zY (F:=kBj okf) (args:=[.ref h.length,.str (tx [97]),v]) (fr:=[some (.ref h.length),some (.str (tx [97])),some v]) rfl rfl ((z7 ((zN (zx (b:=true) (yZ (v:=.bool true) (zc (ev1 (z5 rfl) ev0) e) rfl))).trans zL)).trans (zm (yN (qg X (n:=n+1) rfl rfl w')))),List.append_assoc];rfl
theorem WE:run T (n+4) (.meth "Sheet" "bring") [.ref h.length,.str (tx [97]),.none,.none] (ZB h [] [] [] [] [] [] [] [] [])=.ok (.ref (h.length+14)) (ZB h [.int 0] [.bool true] [.int 0] [.str (tx [97])] [.int 0] [.ref (h.length+15)] [.none] [.ref (h.length+16)] [.list [.int 0],.list [],.list []]):=by
 let m:=h.length
 let t:AV:=.str (tx [97])
 let F:Option AV→Option AV→Option AV→AFr:=fun bh fd lt=>[some (.ref m),some t,bh,some .none,fd,lt]
 rw [zG X.kBc]
 refine zO (fr:=F (some .none) none none) rfl rfl (fr':=F (some (.int 0)) (some (.ref (m+14))) (some t)) ?_
 unfold kBc
 dsimp only
 have e0:zT [] (run T (n+3)) (F (some .none) none none) (ZB h [] [] [] [] [] [] [] [] [])=.ok (.ref (m+14)) (ZB h [] [] [] [] [] [] [] [] [.list []]):=(yD ev0).trans (by rw [zX,List.append_assoc];rfl)
 refine (z7 (zd (j:=4) e0 (zU rfl))).trans ?_
 refine (z7 (fr1:=F (some (.int 0)) (some (.ref (m+14))) (some t)) (h1:=ZB h [.int 0] [.bool true] [.int 0] [t] [.int 0] [.ref (m+15)] [.none] [.ref (m+16)] [.list [.int 0],.list [],.list []]) (wj (en:=false) (src:=.imm ([97].map ch)) (m:=1) (v:=t) (z5 rfl) (JI _ _) ?_)).trans (zP (zo (z5 rfl)))
 have f0:∀ {bh fd lt:Option AV},(F bh fd lt)[0]? = some (some (.ref m)):=rfl
 have R0:RowAt (ZB h [] [] [] [] [] [] [] [] [.list []]) (m+2) [] []:=⟨zD h _ 2,zD h _ 3,zD h _ 4⟩
 have a1:=zI2 X (n:=n) R0 (zU rfl) (zU rfl) (yA h _ 3 _) (zD h _ 4) (zD h _ 2) (yA h _ 4 _)
 have R9:RowAt (ZB h [.int 0] [.bool false] [.int 0] [t] [.int 0] [.ref (m+15)] [.none] [.ref (m+16)] [.list [.int 0],.list [],.list []]) (m+2) [0] [false]:=⟨zD h _ 2,zD h _ 3,zD h _ 4⟩
 have a9:=z5u X (n:=n) R9 (i:=0) (v:=true) (by decide) (by decide) (zU rfl) (yA h _ 4 _)
 refine wx (x:=ch 97) (fr1:=F (some .none) (some (.ref (m+14))) (some t)) (h1:=ZB h [] [] [] [] [] [] [] [] [.list []]) rfl rfl ?_ (Zx rfl)
 have el:∀ {fr:AFr} {k:Nat} {a1 a2 a3 a4 a5 a6 a7 a8:List AV} {g:Hp},fr[0]? = some (some (.ref m))→a4.length=k→zK (zI (some (.bi .len))) [(zH (z6 0) "letters")] (run T (n+3)) fr (ZB h a1 a2 a3 a4 a5 a6 a7 a8 g)=.ok (.int k) (ZB h a1 a2 a3 a4 a5 a6 a7 a8 g):=fun e hk=>z22 (zR (z5 e) (zD h _ 0) rfl) (zD h _ 6) hk
 have en:∀ {fr:AFr} {k:Nat} {a1 a2 a3 a4 a5 a6 a7 a8:List AV} {g:Hp},g.length+14=k→zT [] (run T (n+3)) fr (ZB h a1 a2 a3 a4 a5 a6 a7 a8 g)=.ok (.ref (m+k)) (ZB h a1 a2 a3 a4 a5 a6 a7 a8 (g++[.list []])):=fun {fr k a1 a2 a3 a4 a5 a6 a7 a8 g} e=>(yD ev0).trans (by rw [zX,List.append_assoc,← e];rfl)
 have s1:=zd (okf:=okf) (j:=2) (zC (cf:=run T (n+3)) (me:=none) (a:=m+2) (zR (name := "row") (z5 (cf:=run T (n+3)) (fr:=F (some .none) (some (.ref (m+14))) (some t)) (i:=0) (h:=ZB h [] [] [] [] [] [] [] [] [.list []]) rfl) (zD h _ 0) rfl) (zD h _ 2) rn5 (ev1 (z5 (i:=2) rfl) ev0) a1) (zU rfl)
 refine (z7 s1).trans ?_
 refine (z7 (jU (a:=m+5) (ys:=[]) (v:=.int 0) (zR (z5 rfl) (zD h _ 0) rfl) (zD h _ 5) (el rfl rfl) (zD h _ 5) (zU rfl) (yA h _ 5 _))).trans ?_
 refine (z7 (jU (a:=m+14) (ys:=[]) (v:=.int 0) (z5 rfl) (zD h _ 14) (el rfl rfl) (zD h _ 14) (zU rfl) (yA h _ 14 _))).trans ?_
 refine (z7 (jU (a:=m+6) (ys:=[]) (v:=t) (zR (z5 rfl) (zD h _ 0) rfl) (zD h _ 6) (z5 rfl) (zD h _ 6) (zU rfl) (yA h _ 6 _))).trans ?_
 refine (z7 (jU (a:=m+7) (ys:=[]) (v:=.int 0) (zR (z5 rfl) (zD h _ 0) rfl) (zD h _ 7) (z5 rfl) (zD h _ 7) (zU rfl) (yA h _ 7 _))).trans ?_
 refine (z7 (jU (a:=m+8) (ys:=[]) (v:=.ref (m+15)) (zR (z5 rfl) (zD h _ 0) rfl) (zD h _ 8) (en rfl) (zD h _ 8) (zU rfl) (yA h _ 8 _))).trans ?_
 refine (z7 (jU (a:=m+9) (ys:=[]) (v:=.none) (zR (z5 rfl) (zD h _ 0) rfl) (zD h _ 9) (z5 rfl) (zD h _ 9) (zU rfl) (yA h _ 9 _))).trans ?_
 refine (z7 (jU (a:=m+10) (ys:=[]) (v:=.ref (m+16)) (zR (z5 rfl) (zD h _ 0) rfl) (zD h _ 10) (en rfl) (zD h _ 10) (zU rfl) (yA h _ 10 _))).trans ?_
 exact (z7 (zZ (zC (a:=m+2) (zR (z5 rfl) (zD h _ 0) rfl) (zD h _ 2) rn1 (ev1 (z5 rfl) (ev1 rfl ev0)) a9))).trans zL
theorem Wu:run T (n+5) (.cls "Sheet") [.str "a",.int 1] h=.ok (.ref h.length) (ZB h [.int 0] [.bool true] [.int 0] [.str (tx [97])] [.int 0] [.ref (h.length+15)] [.none] [.ref (h.length+16)] [.list [.int 0],.list [],.list []]):=by
 rw [wi.2.2.2.2.2.1]
 exact W9 X kCq.1 (by decide) (by decide) (by decide) (WE X)
theorem Wt {a:Nat} (hi:h[a]? = some (.inst "Sheet" (fZ a))) (hd:h[a+11]? = some (.list [])):run T (n+4) (.fn "undo") [.ref a,.int 0] h=.exc "NoDeed" h:=by
 have eh:run T (n+2) (.meth "Sheet" "need_hand") [.ref a,.int 0] h=.ok .none h:=by
  rw [zG X.kAk]
  exact yI (fr:=[some (.ref a),some (.int 0)]) rfl rfl (fr':=[some (.ref a),some (.int 0)]) ((z7 ((zN (yv (zx (b:=true) (yZ (v:=.bool true) (zc (ev1 (z5 rfl) ev0) (yE X)) rfl)) (yv (zx (b:=true) (yi (u:=.int 1) rfl (z5 rfl) (by rw [xV];rfl) (zR (z5 rfl) hi rfl) (by rw [yS];rfl))) qU))).trans zL)).trans zL)
 have e:run T (n+3) (.meth "Sheet" "last_standing") [.ref a,.int 0] h=.ok .none h:=by
  rw [zG X.kAa]
  refine zO (fr:=[some (.ref a),some (.int 0),none,none]) rfl rfl (fr':=[some (.ref a),some (.int 0),some .none,none]) ?_
  unfold kAa
  dsimp only
  refine (z7 (zZ (zC (a:=a) (z5 rfl) hi rfl (ev1 (z5 rfl) ev0) eh))).trans ?_
  refine (z7 (zd (j:=2) rfl (zU rfl))).trans ?_
  exact (z7 (wj (en:=false) (src:=.imm (xK 0 0)) (m:=0) (v:=.range 0 0) (xl (ev1 (z22 (k:=0) (zR (z5 rfl) hi rfl) hd rfl) ev0) (by rw [Z1];rfl)) rfl (Zx rfl))).trans (zP (zo (z5 rfl)))
 rw [yc X.f_undo]
 refine zY (fr:=[some (.ref a),some (.int 0),none]) rfl rfl (nw:=true) (fr':=[some (.ref a),some (.int 0),some .none]) ?_
 unfold f_undo
 dsimp only
 exact (z7 (zd (j:=2) (zC (a:=a) (z5 rfl) hi rfl (ev1 (z5 rfl) ev0) e) (zU rfl))).trans (zm (yN (zb (v:=.none) (w:=.none) (z5 rfl) rfl rfl)))
end
section
variable {T:Tab} {okf exm:Str→Str→Bool} {isx:Str→Str→Option Bool} {L:Nat→LamS} (X:TL T okf exm isx L) {n:Nat} {h:Hp} {v u:AV} {c0 c1:Nat}
include X
theorem l47 (e0:Cl h c0 v) (e1:Cl h c1 u) (w:Bt h v):Rf T (n+12) (L 47) [c0,c1] "text" h:=by
 obtain ⟨g,e⟩:=WY X.tt (n:=n+7) (u:=u) w
 refine xX X wm0 (g:=g) ?_
 rw [zW (X.lam 47 rfl) rfl]
 exact ZR (ev1 (zE rfl e0) (ev1 (zE rfl e1) ev0)) e
theorem l48 (e0:Cl h c0 v) (w:Oh h v):Rf T (n+12) (L 48) [c0] "hand" h:=by
 obtain ⟨g,e⟩:=WZ X.tt (n:=n+7) w
 refine xX X wm3 (g:=g) ?_
 rw [zW (X.lam 48 rfl) rfl]
 exact ZR (ev1 rfl (ev1 (zE rfl e0) ev0)) e
theorem l49:Rf T (n+12) (L 49) [] "deed" h:=by
 have e:=Wu X.tt (n:=n+5) (h:=h)
 have eu:=Wt X.tt (n:=n+6) (h:=ZB h [.int 0] [.bool true] [.int 0] [.str (tx [97])] [.int 0] [.ref (h.length+15)] [.none] [.ref (h.length+16)] [.list [.int 0],.list [],.list []]) (a:=h.length) (zD h _ 0) (zD h _ 11)
 exact xX X wm4 ((zW (X.lam 49 rfl) rfl).trans (zc (ev1 (ZR (ev1 rfl (ev1 rfl ev0)) e) (ev1 rfl ev0)) eu))
end
set_option genInjectivity false
set_option genSizeOf false
theorem zHe {cus:List (List Int)} {n:Nat} (h:cus.length=n):gC cus (n:Int)=[]:=by
 unfold gC
 rw [Int.toNat_natCast,List.getElem?_eq_none (by rw [h];exact Nat.le_refl _)];rfl
theorem zHc {mvs:List (List (Int×Int))} {n:Nat} (h:mvs.length=n):gM mvs (n:Int)=[]:=by
 unfold gM
 rw [Int.toNat_natCast,List.getElem?_eq_none (by rw [h];exact Nat.le_refl _)];rfl
theorem z5h {st:List Bool} {n:Nat} (h:st.length=n):fl (st++[true]) (n:Int)=true:=by
 unfold fl
 rw [Int.toNat_natCast,← h,zQ];rfl
section
variable {S:Sh} {mvs:List (List (Int×Int))} {cus:List (List Int)} {i q:Nat} {x:AV} {z:Nat}
noncomputable abbrev Sh.pz (S:Sh) (mvs:List (List (Int×Int))) (cus:List (List Int)) (i q:Nat) (x:AV) (z:Nat):Sh:={ S.s1.adds i (.int S.dn.length) q [z] with b:=yo (S.s1.adds i (.int S.dn.length) q [z]) (mvs++List.replicate [z].length []) (cus++List.replicate [z].length []) (S.s1.adds i (.int S.dn.length) q [z]).b (zg S.le.length [z].length),dn:=S.dn++[x] }
theorem z02 (V:Iv S mvs cus) (hs:S.s1.st.length<200) (hb:S.b.length+1<200) (he:S.le.length+1<200) (t1:tk S.b (S.l.take i)=[]) (t2:tk S.b (S.l.drop i)=tk S.b S.l) :
  Iv (S.pz mvs cus i q x z) (mvs++List.replicate [z].length []) (cus++List.replicate [z].length [])∧tk (S.pz mvs cus i q x z).b (S.pz mvs cus i q x z).l=(S.b.length:Int)::tk S.b S.l∧gI (S.pz mvs cus i q x z).ow (S.b.length:Int)=(S.le.length:Int)∧(S.pz mvs cus i q x z).cs=z::S.cs:=by
 have I:=V.I
 have V2:Iv (S.pz mvs cus i q x z) _ _:=V.put (i:=i) (q:=q) (x:=x) (cs:=[z]) hs hb he
 have lB:(S.pz mvs cus i q x z).b.length=S.b.length+1:=by
  show (yo _ _ _ _ _).length=_
  rw [qO]
  show (S.b++List.replicate 1 true).length=_
  rw [zX];rfl
 have go:gI (S.ow++zg S.le.length 1) (S.b.length:Int)=((S.le.length+0:Nat):Int):=xx (j:=0) (by rw [I.O.ow,Nat.add_zero]) (wB (by decide))
 have gf:gI (S.fi++zg S.b.length 1) (S.le.length:Int)=((S.b.length+0:Nat):Int):=xx (j:=0) (by rw [I.K.fi,Nat.add_zero]) (wB (by decide))
 have old:∀ y:Int,0≤y→y<S.b.length→fl (S.pz mvs cus i q x z).b y=fl S.b y:=fun y y0 h=>by
  obtain ⟨a,c⟩:=I.own_at y0 h
  rw [V2.flag y y0 (by rw [lB];exact QG 1 h),V.flag y y0 h]
  exact (j4 rfl (xS y0 (by rw [I.O.ow];exact h)) (xS a (by rw [I.K.fi];exact c)) ZE Xz (List.getElem?_append_left (by rw [I.K.br];exact qb a c)) I.fls.1 I.fls.2.1 I.fls.2.2).symm
 have new:fl (S.pz mvs cus i q x z).b (S.b.length:Int)=true:=by
  rw [V2.flag _ (Int.natCast_nonneg _) (by rw [lB];exact Int.ofNat_lt.mpr (Nat.lt_succ_self _))]
  show ((S.pz mvs cus i q x z).shw (cus++List.replicate 1 []) (gI (S.ow++zg S.le.length 1) (S.b.length:Int)) && decide ((S.b.length:Int)=(S.pz mvs cus i q x z).cur (mvs++List.replicate 1 []) (gI (S.ow++zg S.le.length 1) (S.b.length:Int))))=true
  rw [go]
  have hc:(S.pz mvs cus i q x z).cur (mvs++List.replicate 1 []) ((S.le.length+0:Nat):Int)=(S.b.length:Int):=by
   show yR (S.st++[true]) (gI (S.fi++zg S.b.length 1) (S.le.length:Int)) (gM (mvs++List.replicate 1 []) (S.le.length:Int))=_
   rw [ZE,zHc I.K.mv,gf];rfl
  have hw:(S.pz mvs cus i q x z).shw (cus++List.replicate 1 []) ((S.le.length+0:Nat):Int)=true:=by
   show (QB (S.st++[true]) ((S.br++List.replicate 1 (AV.int S.dn.length))[((S.le.length:Int)).toNat]?.getD .none) && !(gC (cus++List.replicate 1 []) (S.le.length:Int)).any (fl (S.st++[true])))=true
   rw [Xz,zHe I.K.cu,Int.toNat_natCast,← I.K.br]
   show (QB (S.st++[true]) ((S.br++[AV.int S.dn.length])[S.br.length]?.getD .none) && true)=true
   rw [zQ]
   show (fl (S.st++[true]) (S.dn.length:Int) && true)=true
   rw [z5h I.st];rfl
  rw [hc,hw,decide_eq_true rfl];rfl
 have hm:∀ {l:List Int},(∀ y∈l,y∈S.l)→tk (S.pz mvs cus i q x z).b l=tk S.b l:=fun {l} h=>List.filter_congr fun y hy=>old y (I.O.G.rng y (h y hy)).1 (I.O.G.rng y (h y hy)).2
 have ht:tk (S.pz mvs cus i q x z).b (S.pz mvs cus i q x z).l=(S.b.length:Int)::tk S.b S.l:=by
  show (S.l.take i++zg S.b.length 1++S.l.drop i).filter (fl (S.pz mvs cus i q x z).b)=_
  rw [List.filter_append,List.filter_append]
  show tk (S.pz mvs cus i q x z).b (S.l.take i)++tk (S.pz mvs cus i q x z).b (zg S.b.length 1)++tk (S.pz mvs cus i q x z).b (S.l.drop i)=_
  rw [hm fun y hy=>List.mem_of_mem_take hy,hm fun y hy=>List.mem_of_mem_drop hy,t1,t2]
  have:tk (S.pz mvs cus i q x z).b (zg S.b.length 1)=[(S.b.length:Int)]:=by
   show [(((S.b.length+0:Nat):Int))].filter (fl (S.pz mvs cus i q x z).b)=_
   rw [Nat.add_zero,List.filter_cons_of_pos new];rfl
  rw [this];rfl
 refine ⟨V2,ht,go,?_⟩
 show ((tk (S.pz mvs cus i q x z).b (S.pz mvs cus i q x z).l).map fun y=>(S.ow++zg S.le.length 1)[y.toNat]?.getD 0).map (fun j=>(S.le++[z])[j.toNat]?.getD 0)=_
 rw [ht,List.map_cons,List.map_cons]
 congr 1
 ·show (S.le++[z])[(gI (S.ow++zg S.le.length 1) (S.b.length:Int)).toNat]?.getD 0=z
  rw [go,Nat.add_zero,Int.toNat_natCast,zQ];rfl
 ·unfold Sh.cs Sh.sh
  rw [List.map_map,List.map_map]
  refine List.map_congr_left fun y hy=>?_
  obtain ⟨y0,y1⟩:=I.O.G.rng y (List.mem_filter.mp hy).1
  obtain ⟨a,c⟩:=I.own_at y0 y1
  show (S.le++[z])[(gI (S.ow++zg S.le.length 1) y).toNat]?.getD 0=S.le[(gI S.ow y).toNat]?.getD 0
  rw [xS y0 (by rw [I.O.ow];exact y1),List.getElem?_append_left (qb a c)]
end
set_option genInjectivity false
set_option genSizeOf false
theorem jA {h:Hp} {a k:Nat} {ys:List Int} (e:h[a]? = some (.list (ys.map AV.int))):(Src.enum a).next? h k=some ((ys.mapIdx fun i y=>AV.tup [.int (i:Int),.int y])[k]?):=by
 show (match h[a]? with | some (.list zs)=>some ((zs[k]?).map fun x=>AV.tup [.int k,x]) | _=>none)=_
 rw [e]
 show some (((ys.map AV.int)[k]?).map fun x=>AV.tup [.int k,x])=_
 rw [List.getElem?_map,List.getElem?_mapIdx,Option.map_map];rfl
structure Lp (G0:Z9) (hn:Int) (q:Nat) (ys:List Int) (k:Nat) (S:Sh) (mvs:List (List (Int×Int))) (cus:List (List Int)) (r:Hp):Prop where
 A:Bs hn 60 k [q] S mvs cus r
 y:r[q]? = some (.list (ys.map AV.int))
 g:S.g0=G0
 st:∀ b∈S.st,b=true
 lo:S.lo=[]
 ok:okT S.le
noncomputable abbrev FL (sc tx_:AV) (hn:Int) (v3 v4 v5 v6 v7:Option AV):AFr:=[some sc,some tx_,some (.int hn),v3,v4,v5,v6,v7,some (.ref 5),some (.ref 6),some (.ref 7)]
section
variable {T:Tab} {okf exm:Str→Str→Bool} {isx:Str→Str→Option Bool} {L:Nat→LamS} (X:TL T okf exm isx L) {n:Nat}
include X
theorem z1n {c:Int} {h:Hp}:∃ v,run T (n+1) (.fn "_law_size_by") [.int c] h=.ok (.int v) h:=by
 rw [yc X.tt.kA8]
 have t:=zb (op:=.Eq) (y:=z8 (.int 1)) (w:=.int 1) (b:=decide ((c.fdiv 13).fmod 8=1)) (qe (d:=8) (xM (d:=13) (z5 (i:=0) (cf:=run T n) (h:=h) (fr:=[some (.int c)]) rfl) (by decide)) (by decide)) rfl (by rw [xN,qK])
 cases hb:decide ((c.fdiv 13).fmod 8=1) with
 | true =>
  rw [hb] at t
  exact ⟨_,zO (fr:=[some (.int c)]) rfl rfl (zP ((yM t).trans (zP (zo (qw (x:=z8 (.int 30)) rfl (qe (d:=31) (xM (d:=104) (z5 rfl) (by decide)) (by decide)))))))⟩
 | false =>
  rw [hb] at t
  exact ⟨_,zO (fr:=[some (.int c)]) rfl rfl ((z7 ((zN t).trans zL)).trans (zP (zo (qe (d:=13) (z5 rfl) (by decide)))))⟩
variable {G0:Z9} {hn:Int} {q:Nat} {ys:List Int} {k:Nat} {S:Sh} {mvs:List (List (Int×Int))} {cus:List (List Int)} {r:Hp}
theorem z08 (P:Lp G0 hn q ys k S mvs cus r) (hk:k≤20) (h0:0<hn) (h7:G0.a7=.cell (some (.ref 9))) {fr:AFr} {a b:Int} (f2:fr[2]? = some (some (.int hn))) (f3:fr[3]? = some (some (.int a))) (f4:fr[4]? = some (some (.int b))) (f10:fr[10]? = some (some (.ref 7))) :
  ∃ S' mvs' cus' r',zJ [(zM (zK (zI (some (.fn "_law_do"))) [(zF 10),(zK (zI (some (.fn "_law_deed_by"))) [(zK (zI (some (.fn "_law_mixed"))) [(z6 4),(z6 3)]),(z9 (zF 10) "size" none []),(z6 2)])]))] (run T (n+19)) fr (S.hp r)=.ok .next fr (Sh.hp S' r')∧Lp G0 hn q ys (k+1) S' mvs' cus' r':=by
 have e7:∀ x:Hp,Cl (S.hp x) 7 (.ref 9):=fun x=>by show some S.g0.a7=_;rw [P.g,h7]
 obtain ⟨l1,l3⟩:=P.A.V.I.O.tkl
 have lc:S.b.countP id=S.sh.length:=by rw [l1,P.A.V.I.O.G.count]
 obtain ⟨hd,d,g,e,d0,d1,dk⟩:=z39 X.tt (n:=n+16) (z:=YG b a) (hands:=hn) (m:=S.b.countP id) (h:=S.hp r) (by rw [lc];exact Nat.le_of_lt l3) h0
 rw [lc] at dk
 have A1:=P.A.grow g (P':=[q]) (fun q' h=>.inl h)
 obtain ⟨S',mvs',cus',r',e',A',K,g',st',lo',ok'⟩:=do_ X.tt (n:=n+12) A1 (Nat.lt_of_le_of_lt (Nat.add_le_add_left (Nat.mul_le_mul_left 5 hk) 60) (by decide)) d0 d1 dk
 obtain ⟨p1,p2,p3⟩:=A1.p q (.head _)
 obtain ⟨y',_⟩:=K q _ p2 p3 (zB P.y)
 refine ⟨S',mvs',cus',r',(z7 (zZ (zc (ev1 (zE f10 (e7 r)) (ev1 (zc (ev1 (zc (ev1 (z5 f4) (ev1 (z5 f3) ev0)) (Wj X.tt (n:=n+18))) (ev1 (zC (a:=9) (zE f10 (e7 r)) rfl wI ev0 (Y8 X.tt (n:=n+17))) (ev1 (z5 f2) ev0))) e) ev0)) e'))).trans zL,A',y',g'.trans P.g,fun b hb=>?_,lo'.trans P.lo,ok' P.ok⟩
 rw [st'] at hb
 rcases wc hb with hb | hb
 ·exact P.st b hb
 ·exact qV hb
theorem Wk (I:Iw S mvs cus) (hh:0<S.hands) (h7:S.g0.a7=.cell (some (.ref 9))) {fr:AFr} {m:Nat} (hm:m=(S.hp r).length) (f5:fr[5]? = some (some (.ref m))) (f6:fr[6]? = some (some (.ref (m+2)))) (f10:fr[10]? = some (some (.ref 7))) :
  ∃ k1 kv1 k2 kv2 d g,sIf (zj (z9 (zF 10) "size" none []) [.Gt] [(z8 (.int 0))]) (zJ [(zM (z9 (z6 5) "stick" none [(z8 (.int 0)),(z8 (.int 0))])),(zM (z9 (z6 6) "tie" none [(z8 (.int 0)),(z9 (zF 10) "size" none [])]))]) (zJ []) (run T (n+19)) fr (S.hp r++[.inst "Marks" (mF m 0),.dict [],.inst "Threads" (mF (m+2) 0),.dict []])=.ok .next fr (S.hp (r++(.inst "Marks" (mF m k1)::.dict kv1::.inst "Threads" (mF (m+2) k2)::.dict kv2::g)))∧Kv kv1 d∧Kv kv2 d:=by
 subst hm
 let m:=(S.hp r).length
 have e7:∀ x:Hp,Cl (S.hp x) 7 (.ref 9):=fun x=>by show some S.g0.a7=_;rw [h7]
 have ez:∀ x:Hp,run T (n+19) (.meth "Sheet" "size") [.ref 9] (S.hp x)=.ok (.int (S.b.countP id:Nat)) (S.hp x):=fun x=>Y8 X.tt (n:=n+17)
 have t:zj (z9 (zF 10) "size" none []) [.Gt] [(z8 (.int 0))] (run T (n+19)) fr (S.hp r++[.inst "Marks" (mF m 0),.dict [],.inst "Threads" (mF (m+2) 0),.dict []])=.ok (decide ((0:Int)<(S.b.countP id:Nat))) (S.hp r++[.inst "Marks" (mF m 0),.dict [],.inst "Threads" (mF (m+2) 0),.dict []]):=zb (zC (a:=9) (zE f10 (e7 (r++[.inst "Marks" (mF m 0),.dict [],.inst "Threads" (mF (m+2) 0),.dict []]))) rfl wI ev0 (ez (r++[AO.inst "Marks" (mF m 0),AO.dict [],AO.inst "Threads" (mF (m+2) 0),AO.dict []]))) rfl Wy
 by_cases hp:(0:Int)<(S.b.countP id:Nat)
 ·rw [decide_eq_true hp] at t
  obtain ⟨p,hq⟩:∃ p,S.b.countP id=p+1:=⟨S.b.countP id - 1,(Nat.sub_add_cancel (Int.natCast_pos.mp hp)).symm⟩
  have hl:(tk S.b S.l).length=p+1:=by rw [I.O.G.count,hq]
  obtain ⟨y0,hy0⟩:∃ y,(tk S.b S.l)[0]? = some y:=⟨_,yO (by rw [hl];exact Nat.succ_pos _)⟩
  obtain ⟨y1,hy1⟩:∃ y,(tk S.b S.l)[p]? = some y:=⟨_,yO (by rw [hl];exact Nat.lt_succ_self _)⟩
  let x0:Hp:=r++[.inst "Marks" (mF m 0),.dict [],.inst "Threads" (mF (m+2) 0),.dict []]
  obtain ⟨g,es⟩:=zGp X.tt (n:=n+14) (x:=x0) I hh hy0 (a:=m) ⟨zD (S.hp r) _ 0,zD (S.hp r) _ 1⟩
  let w:AV:=.tup [.int 0,.int (gI S.ow y0)]
  let x1:Hp:=r++(.inst "Marks" (mF m 1)::.dict [(0,w)]::.inst "Threads" (mF (m+2) 0)::.dict []::g)
  have hx1:((S.hp (x0++g)).set m (.inst "Marks" (mF m 1))).set (m+1) (.dict [(0,w)])=S.hp x1:=by
   have a1:S.hp (x0++g)=S.hp r++(.inst "Marks" (mF m 0)::.dict []::.inst "Threads" (mF (m+2) 0)::.dict []::g):=by
    show S.hp (x0++g)=S.hp (r++_)
    exact congrArg S.hp (List.append_assoc _ _ _)
   have b1:(S.hp r++(.inst "Marks" (mF m 0)::.dict []::.inst "Threads" (mF (m+2) 0)::.dict []::g)).set m (.inst "Marks" (mF m 1))=S.hp r++(.inst "Marks" (mF m 1)::.dict []::.inst "Threads" (mF (m+2) 0)::.dict []::g):=yA (S.hp r) _ 0 _
   have b2:(S.hp r++(.inst "Marks" (mF m 1)::.dict []::.inst "Threads" (mF (m+2) 0)::.dict []::g)).set (m+1) (.dict [(0,w)])=S.hp r++(.inst "Marks" (mF m 1)::.dict [(0,w)]::.inst "Threads" (mF (m+2) 0)::.dict []::g):=yA (S.hp r) _ 1 _
   rw [a1,b1,b2];rfl
  rw [hx1] at es
  obtain ⟨g',v,et⟩:=zJp X.tt (n:=n+14) (x:=x1) (k:=r.length+2) I hy0 hy1 hq ⟨zD (S.hp r) _ 2,zD (S.hp r) _ 3⟩
  have hx2:(x1.set (r.length+2) (.inst "Threads" (mF (r.length+2+23) 1))++g').set (r.length+2+1) (.dict [(0,v)])=r++(.inst "Marks" (mF m 1)::.dict [(0,w)]::.inst "Threads" (mF (m+2) 1)::.dict [(0,v)]::(g++g')):=by
   rw [yA,List.append_assoc]
   show (r++(.inst "Marks" (mF m 1)::.dict [(0,w)]::.inst "Threads" (mF (m+2) 1)::.dict []::g++g')).set (r.length+3) (.dict [(0,v)])=_
   rw [yA];rfl
  rw [hx2] at et
  refine ⟨1,[(0,w)],1,[(0,v)],1,g++g',?_,.inr ⟨_,rfl,rfl⟩,.inr ⟨_,rfl,rfl⟩⟩
  refine (yM t).trans ?_
  refine (z7 (zZ (zC (a:=m) (z5 f5) (zD (S.hp r) _ 0) nM3 (ev1 rfl (ev1 rfl ev0)) es))).trans ?_
  exact (z7 (zZ (zC (a:=m+2) (z5 f6) (zD (S.hp r) _ 2) nM4 (ev1 rfl (ev1 (zC (a:=9) (zE f10 (e7 x1)) rfl wI ev0 (Y8 X.tt (n:=n+17) (S:=S) (r:=x1))) ev0)) et))).trans zL
 ·rw [decide_eq_false hp] at t
  exact ⟨0,[],0,[],0,[],(zN t).trans zL,.inl ⟨rfl,rfl⟩,.inl ⟨rfl,rfl⟩⟩
variable {x:Hp} {a1 a2 d1 d2:Nat} {k1 k2:Int} {kv1 kv2:List (Int×AV)}
theorem zHx (O:Ok1 S) (h7:S.g0.a7=.cell (some (.ref 9))) (M1:MkAt "Marks" (S.hp x) a1 k1 kv1) (K1:Kv kv1 d1) (M2:MkAt "Threads" (S.hp x) a2 k2 kv2) (K2:Kv kv2 d2) {fr:AFr} (f5:fr[5]? = some (some (.ref a1))) (f6:fr[6]? = some (some (.ref a2))) (f10:fr[10]? = some (some (.ref 7))) :
  ∃ g s1 s2 s3,evs [(z9 (zF 10) "text" none []),(z9 (zF 10) "deeds" none []),(z9 (zF 10) "many" none []),(z9 (zF 10) "shown" none []),(z9 (z6 5) "numbers" none []),(z9 (z6 6) "numbers" none [])] (run T (n+19)) fr (S.hp x)=.ok [.str (tx S.cs),.int S.dn.length,.int S.le.length,.ref s1,.ref s2,.ref s3] (S.hp (x++g))∧(S.hp (x++g))[s1]? = some (.list (S.sh.map AV.int))∧(S.hp (x++g))[s2]? = some (.list ((zg 0 d1).map AV.int))∧(S.hp (x++g))[s3]? = some (.list ((zg 0 d2).map AV.int)):=by
 have e7:∀ x:Hp,Cl (S.hp x) 7 (.ref 9):=fun x=>by show some S.g0.a7=_;rw [h7]
 obtain ⟨ga,ea⟩:=z5r X.tt (n:=n+14) (r:=x) O
 have es:=WX X.tt (n:=n+15) (r:=x++ga) O
 let l2:Hp:=[.list (S.l.map AV.int),.list (S.sh.map AV.int)]
 let n1:Hp:=[.list ((zg 0 d1).map AV.int)]
 let n2:Hp:=[.list ((zg 0 d2).map AV.int)]
 have e1:=Qp X.tt (n:=n+18) ((M1.app ga).app l2) K1
 have e2:=QL X.tt (n:=n+18) (((M2.app ga).app l2).app n1) K2
 have q1:(S.hp (x++ga++l2))[(x++ga).length+24]? = some (.list (S.sh.map AV.int)):=by
  show (x++ga++l2)[(x++ga).length+1]? = _
  rw [zD];rfl
 have q2:(S.hp (x++ga++l2)++n1)[(S.hp (x++ga++l2)).length]? = some (.list ((zg 0 d1).map AV.int)):=zQ _ _ []
 have q3:(S.hp (x++ga++l2)++n1++n2)[(S.hp (x++ga++l2)++n1).length]? = some (.list ((zg 0 d2).map AV.int)):=zQ _ _ []
 have hx:S.hp (x++(ga++(l2++(n1++n2))))=S.hp (x++ga++l2)++n1++n2:=by
  show _=S.hp (x++ga++l2++n1++n2)
  refine congrArg S.hp ?_
  rw [List.append_assoc,List.append_assoc,List.append_assoc]
 refine ⟨ga++(l2++(n1++n2)),(x++ga).length+24,(S.hp (x++ga++l2)).length,(S.hp (x++ga++l2)++n1).length,?_,?_,?_,?_⟩
 ·rw [hx]
  exact ev1 (zC (a:=9) (zE f10 (e7 x)) rfl JU ev0 ea) (ev1 (zC (a:=9) (zE f10 (e7 (x++ga))) rfl YQ ev0 (Ww X.tt (n:=n+18))) (ev1 (zC (a:=9) (zE f10 (e7 (x++ga))) rfl Xv ev0 (z2i X.tt (n:=n+18))) (ev1 (zC (a:=9) (zE f10 (e7 (x++ga))) rfl YM ev0 es) (ev1 (zC (a:=a1) (z5 f5) ((M1.app ga).app l2).i z4z ev0 e1) (ev1 (zC (a:=a2) (z5 f6) (((M2.app ga).app l2).app n1).i z4z ev0 e2) ev0)))))
 ·rw [hx];exact zB (zB q1)
 ·rw [hx];exact zB q2
 ·rw [hx];exact q3
omit X in
theorem XX {h:Hp} {a m:Nat} {l:List Int} (e:h[a]? = some (.list (l.map AV.int))):toD h (m+1) (.ref a)=some (.list (l.map PyData.int)):=by
 show (match y7 h a with | some xs=>(yd (toD h m) xs).map PyData.list | none=>none)=_
 rw [YR e]
 exact congrArg (Option.map PyData.list) (jB h m l)
omit X in
theorem z4l {h:Hp} {A B:Nat} {cs:List Nat} {u v:Int} {s n1 n2:List Int} {s1 s2 s3 t1 t2 t3:Nat} (ok:okT cs) (hA:h[A]? = some (.list [.str (tx cs),.int u,.int v,.ref s1,.ref s2,.ref s3])) (hB:h[B]? = some (.list [.str (tx cs),.int u,.int v,.ref t1,.ref t2,.ref t3]))
  (e1:h[s1]? = some (.list (s.map AV.int))) (e2:h[s2]? = some (.list (n1.map AV.int))) (e3:h[s3]? = some (.list (n2.map AV.int))) (e4:h[t1]? = some (.list (s.map AV.int))) (e5:h[t2]? = some (.list (n1.map AV.int))) (e6:h[t3]? = some (.list (n2.map AV.int))):aEq h (.ref A) (.ref B)=some true:=by
 have os:=kCb ok
 have ds:toD h 7 (.str (tx cs))=some (.str (tx cs)):=by show (if PyData.strOk (tx cs) then some (PyData.str (tx cs)) else none)=_;rw [if_pos os]
 have k:∀ {A a b c:Nat},h[A]? = some (.list [.str (tx cs),.int u,.int v,.ref a,.ref b,.ref c])→h[a]? = some (.list (s.map AV.int))→h[b]? = some (.list (n1.map AV.int))→h[c]? = some (.list (n2.map AV.int))→toD h 8 (.ref A)=some (.list [.str (tx cs),.int u,.int v,.list (s.map PyData.int),.list (n1.map PyData.int),.list (n2.map PyData.int)]):=fun hA ha hb hc =>
  jf hA (xE ds (xE (XY h 7 u) (xE (XY h 7 v) (xE (XX ha) (xE (XX hb) (xE (XX hc) rfl))))))
 rw [ZJ (k hA e1 e2 e3) (k hB e4 e5 e6),SeqAt.eqv_refl]
 show (PyData.strOk (tx cs) && (true && (true && (PyData.canLay0 (.list (s.map PyData.int)) && (PyData.canLay0 (.list (n1.map PyData.int)) && (PyData.canLay0 (.list (n2.map PyData.int)) && true))))))=true
 rw [os,js,js,js];rfl
end
set_option genInjectivity false
set_option genSizeOf false
noncomputable abbrev z44:Hp:=[.tab "law",.tab "_law_rows",.tab "_law_deeds",.tab "_law_numbers",.tab "_law_marks"]
theorem kCo {S:Sh} (O:Ok1 S) (ok:okT S.le):okT S.cs:=fun c hc=>by
 obtain ⟨i,hi,rfl⟩:=List.mem_map.mp hc
 obtain ⟨i0,i1⟩:=O.sh_mem hi
 rw [yO (qb i0 i1)]
 exact ok _ (List.getElem_mem _)
section
variable {T:Tab} {okf exm:Str→Str→Bool} {isx:Str→Str→Option Bool} {L:Nat→LamS} (X:TL T okf exm isx L) {n:Nat}
theorem Wf {h:Hp} {cf:CF} {fr:AFr} {c:Int} (f4:fr[4]? = some (some (.int c))):∃ v g,zn (zT [(z8 (.int 0)),(z8 (.int 10)),(Zo (z8 (.int 1))),(z8 (.bool true)),(z8 .none),(z8 (.str "2")),(zT [(z8 (.int 1))]),(zV .Pow (z8 (.int 10)) (z8 (.int 9)))]) (zV .Mod (zV .FloorDiv (z6 4) (z8 (.int 19))) (z8 (.int 8))) cf fr h=.ok v (h++g)∧Oh (h++g) v:=by
 let A:AO:=.list [.int 1]
 let vs:List AV:=[.int 0,.int 10,.int (-1),.bool true,.none,.str "2",.ref h.length,.int 1000000000]
 have el:zT [(z8 (.int 0)),(z8 (.int 10)),(Zo (z8 (.int 1))),(z8 (.bool true)),(z8 .none),(z8 (.str "2")),(zT [(z8 (.int 1))]),(zV .Pow (z8 (.int 10)) (z8 (.int 9)))] cf fr h=.ok (.ref (h.length+1)) (h++[A,.list vs]):=(yD (vs:=vs) (h1:=h++[A]) (ev1 rfl (ev1 rfl (ev1 (v:=.int (-1)) (z21 (k:=1) rfl) (ev1 rfl (ev1 rfl (ev1 rfl (ev1 (yD (ev1 rfl ev0)) (ev1 zJs ev0))))))))).trans (by rw [zX,List.append_assoc];rfl)
 obtain ⟨z0,z1⟩:=fmr (c.fdiv 19) (d:=8) (by decide)
 obtain ⟨v,hv,ev⟩:=z4w (h:=h++[A,.list vs]) (a:=h.length+1) (vs:=vs) (zD h _ 1) z0 z1 (zU rfl)
 refine ⟨v,[A,.list vs],ya el (qe (xM (z5 f4) (by decide)) (by decide)) ev,?_⟩
 have hv:v∈([.int 0,.int 10,.int (-1),.bool true,.none,.str "2",.ref h.length,.int 1000000000]:List AV):=hv
 simp only [List.mem_cons,List.not_mem_nil,or_false] at hv
 rcases hv with rfl | rfl | rfl | rfl | rfl | rfl | rfl | rfl
 ·exact .inr ⟨_,rfl,by decide⟩
 ·exact .inr ⟨_,rfl,by decide⟩
 ·exact .inr ⟨_,rfl,by decide⟩
 ·exact .inl (.inr (.inl ⟨_,rfl⟩))
 ·exact .inl (.inl rfl)
 ·exact .inl (.inr (.inr (.inl ⟨_,rfl⟩)))
 ·exact .inl (.inr (.inr (.inr (.inr ⟨_,A,rfl,zQ h _ _,.inl ⟨_,rfl⟩⟩))))
 ·exact .inr ⟨_,rfl,by decide⟩
theorem z29 {h:Hp} {cf:CF} {fr:AFr} {c:Int} (f4:fr[4]? = some (some (.int c))):∃ v g,zn (zT [(z8 .none),(z8 (.int 5)),(zT [(z8 (.str "a"))]),(z8 (.str "\t")),(z8 (.str "a\tb")),(z8 (.bool true)),wZ]) (zV .Mod (zV .FloorDiv (z6 4) (z8 (.int 23))) (z8 (.int 7))) cf fr h=.ok v (h++g)∧Bt (h++g) v:=by
 let A:AO:=.list [.str "a"]
 let vs:List AV:=[.none,.int 5,.ref h.length,.str "\t",.str "a\tb",.bool true,.ref (h.length+1)]
 have ed:wZ cf fr (h++[A])=.ok (.ref (h.length+1)) (h++[A,.dict []]):=by
  show Out.ok (AV.ref (h++[A]).length) (h++[A]++[AO.dict []])=_
  rw [zX,List.append_assoc];rfl
 have el:zT [(z8 .none),(z8 (.int 5)),(zT [(z8 (.str "a"))]),(z8 (.str "\t")),(z8 (.str "a\tb")),(z8 (.bool true)),wZ] cf fr h=.ok (.ref (h.length+2)) (h++[A,.dict [],.list vs]):=(yD (vs:=vs) (h1:=h++[A,.dict []]) (ev1 rfl (ev1 rfl (ev1 (yD (ev1 rfl ev0)) (ev1 rfl (ev1 rfl (ev1 rfl (ev1 ed ev0)))))))).trans (by rw [zX,List.append_assoc];rfl)
 obtain ⟨z0,z1⟩:=fmr (c.fdiv 23) (d:=7) (by decide)
 obtain ⟨v,hv,ev⟩:=z4w (h:=h++[A,.dict [],.list vs]) (a:=h.length+2) (vs:=vs) (zD h _ 2) z0 z1 (zU rfl)
 refine ⟨v,[A,.dict [],.list vs],ya el (qe (xM (z5 f4) (by decide)) (by decide)) ev,?_⟩
 have hv:v∈([.none,.int 5,.ref h.length,.str "\t",.str "a\tb",.bool true,.ref (h.length+1)]:List AV):=hv
 simp only [List.mem_cons,List.not_mem_nil,or_false] at hv
 rcases hv with rfl | rfl | rfl | rfl | rfl | rfl | rfl
 ·exact .inl rfl
 ·exact .inr (.inr (.inl ⟨_,rfl⟩))
 ·exact .inr (.inr (.inr (.inr ⟨_,A,rfl,zQ h _ _,.inl ⟨_,rfl⟩⟩)))
 ·exact .inr (.inr (.inr (.inl ⟨_,rfl,.inl rfl⟩)))
 ·exact .inr (.inr (.inr (.inl ⟨_,rfl,.inr rfl⟩)))
 ·exact .inr (.inl ⟨_,rfl⟩)
 ·exact .inr (.inr (.inr (.inr ⟨_,.dict [],rfl,zD h _ 1,.inr ⟨_,rfl⟩⟩)))
include X
theorem z57 {S:Sh} {x:Hp} {fr:AFr} {c:Int} (hh:0<S.hands) (hl:S.lo=[]) (t0:S.g0.a0=.tab "law") (t5:S.g0.a5=.cell none) (t6:S.g0.a6=.cell none) (t7:S.g0.a7=.cell (some (.ref 9))) (f4:fr[4]? = some (some (.int c))) (f8:fr[8]? = some (some (.ref 5))) (f9:fr[9]? = some (some (.ref 6))) (m47:yd (wC fr) [8,9]=some [5,6]) (m48:yd (wC fr) [9]=some [6]) (m50:yd (wC fr) [10]=some [7]) :
  ∃ (z:Z9) (y:Hp),zJ (zJ6 okf L) (run T (n+12)) fr (S.hp x)=.ok (.ret (.bool true)) fr (({ S with g0:=z }:Sh).hp y)∧z.a0=S.g0.a0∧z.a1=S.g0.a1∧z.a2=S.g0.a2∧z.a3=S.g0.a3∧z.a4=S.g0.a4:=by
 obtain ⟨vo,g1,e1,w1⟩:=Wf (h:=S.hp x) (cf:=run T (n+12)) f4
 let S1:Sh:={ S with g0:={ S.g0 with a6:=.cell (some vo) } }
 have k6:(S.hp (x++g1))[6]? = some (.cell none):=by show some S.g0.a6=_;rw [t6]
 have s1:=qT (okf:=okf) (j:=9) (h2:=S1.hp (x++g1)) e1 f9 k6 rfl
 have w1:Oh (S1.hp (x++g1)) vo:=w1.imp (fun w=>NW.set (h:=S.hp (x++g1)) w k6) id
 obtain ⟨vb,g2,e2,w2⟩:=z29 (h:=S1.hp (x++g1)) (cf:=run T (n+12)) f4
 let S2:Sh:={ S with g0:={ S.g0 with a6:=.cell (some vo),a5:=.cell (some vb) } }
 let x2:Hp:=x++g1++g2
 have k5:(S1.hp x2)[5]? = some (.cell none):=by show some S.g0.a5=_;rw [t5]
 have s2:=qT (okf:=okf) (j:=8) (h2:=S2.hp x2) e2 f8 k5 rfl
 have w2:Bt (S2.hp x2) vb:=Bt.set (h:=S1.hp x2) w2 k5
 have w1:Oh (S2.hp x2) vo:=(w1.app g2).imp (fun w=>NW.set (h:=S1.hp x2) w k5) id
 have c5:Cl (S2.hp x2) 5 vb:=rfl
 have c6:Cl (S2.hp x2) 6 vo:=rfl
 have tb:∀ {k:Nat},(L k).q = "law" → some S.g0.a0=some (.tab (L k).q):=fun {k} e=>by rw [e,t0]
 obtain ⟨g3,e3⟩:=l47 X (n:=n) (h:=S2.hp x2) c5 c6 w2
 obtain ⟨g4,e4⟩:=l48 X (n:=n) (h:=S2.hp x2++g3) (zB c6) (w1.app g3)
 obtain ⟨g5,e5⟩:=l49 X (n:=n) (h:=S2.hp x2++g3++g4)
 let x5:Hp:=x2++g3++g4++g5
 have c7:Cl (S2.hp x5) 7 (.ref 9):=by show some S.g0.a7=_;rw [t7]
 obtain ⟨g6,e6⟩:=l50 X (n:=n) (S:=S2) (x:=x5) (c0:=7) c7 hh hl
 refine ⟨{ S.g0 with a6:=.cell (some vo),a5:=.cell (some vb) },x5++g6,(z7 s1).trans ((z7 s2).trans ?_),rfl,rfl,rfl,rfl,rfl⟩
 refine (z7 ((zN (yv (zb (zc (ev1 (zq (tb (X.q 47 rfl)) m47) ev0) e3) (xi (ev1 rfl ev0)) (b:=false) (by rw [wS,xR wm0];rfl)) (yv (zb (zc (ev1 (zq (tb (X.q 48 rfl)) m48) ev0) e4) (xi (ev1 rfl ev0)) (b:=false) (by rw [wS,xR wm3];rfl)) qU))).trans zL)).trans ?_
 exact zP (zo (wH (yi (zc (ev1 (zq (tb (X.q 49 rfl)) (cs:=[]) rfl) ev0) e5) (xi (ev1 rfl ev0)) (by rw [xN,xR wm4]) (zc (ev1 (zq (tb (X.q 50 rfl)) m50) ev0) e6) (by rw [xN,xR wm4]))))
end
set_option genInjectivity false
set_option genSizeOf false
section
variable {T:Tab} {okf exm:Str→Str→Bool} {isx:Str→Str→Option Bool} {L:Nat→LamS} (X:TL T okf exm isx L) {n:Nat}
include X
variable {G0:Z9} {hn:Int} {q:Nat} {ys:List Int} {k:Nat} {S:Sh} {mvs:List (List (Int×Int))} {cus:List (List Int)} {r:Hp}
theorem z56 (P:Lp G0 hn q ys k S mvs cus r) (hk:k≤4) (h1:1≤hn) (t0:G0.a0=.tab "law") (t1:G0.a1=.tab "_law_rows") (t2:G0.a2=.tab "_law_deeds") (t3:G0.a3=.tab "_law_numbers") (t4:G0.a4=.tab "_law_marks") (t5:G0.a5=.cell none) (t6:G0.a6=.cell none) (t7:G0.a7=.cell (some (.ref 9)))
  {is:List Int} (hs:is.length≤63) {tv:AV} {v3 v4:Option AV} :
  ∃ (S':Sh) (y:Hp) (fr':AFr),zJ (zJ5 okf L) (run T (n+19)) (FL (.lst (is.map AV.int)) tv hn v3 v4 none none none) (S.hp r)=.ok (.ret (.bool true)) fr' (Sh.hp S' y)∧S'.g0.a0=G0.a0∧S'.g0.a1=G0.a1∧S'.g0.a2=G0.a2∧S'.g0.a3=G0.a3∧S'.g0.a4=G0.a4:=by
 have V:=P.A.V
 have I:=V.I
 have O:=I.O
 have hd:S.hands=hn:=P.A.hd
 have hh:0<S.hands:=by rw [hd];exact Int.lt_of_lt_of_le (by decide) h1
 have g7:S.g0.a7=.cell (some (.ref 9)):=by rw [P.g,t7]
 have e7:∀ x:Hp,Cl (S.hp x) 7 (.ref 9):=fun x=>by show some S.g0.a7=_;rw [g7]
 have bn:=P.A.bn
 have bb:=P.A.bb
 have bl:=P.A.bl
 have hst:S.st.length=S.dn.length:=I.st
 have hs1:S.st.length<200:=by rw [hst];exact Nat.lt_of_le_of_lt bn (Nat.lt_of_le_of_lt hk (by decide))
 have b80:S.b.length+1<200:=Nat.lt_of_le_of_lt (Nat.succ_le_succ (Nat.le_trans bb (Nat.add_le_add_left (Nat.mul_le_mul_left 5 hk) 60))) (by decide)
 have l80:S.le.length+1<200:=Nat.lt_of_le_of_lt (Nat.succ_le_succ (Nat.le_trans bl (Nat.add_le_add_left (Nat.mul_le_mul_left 4 hk) 60))) (by decide)
 have hf:∀ i:Int,0≤i→i<S.dn.length→fl S.st i=true:=fun i i0 i1=>by
  have hl:i.toNat<S.st.length:=by rw [hst];exact qb i0 i1
  unfold fl
  rw [yO hl]
  exact P.st _ (List.getElem_mem hl)
 let sc:AV:=.lst (is.map AV.int)
 let m:=(S.hp r).length
 have em:=Wl X.tt (n:=n+18) (h:=S.hp r)
 have et:=XZ X.tt (n:=n+18) (h:=S.hp r++[.inst "Marks" (mF m 0),.dict []])
 rw [zX,List.append_assoc] at et
 obtain ⟨k1,kv1,k2,kv2,d,g,e8,K1,K2⟩:=Wk X (n:=n) (r:=r) I hh g7 (fr:=FL sc tv hn v3 v4 (some (.ref m)) (some (.ref (m+2))) none) (m:=m) rfl rfl rfl rfl
 let x1:Hp:=r++(.inst "Marks" (mF m k1)::.dict kv1::.inst "Threads" (mF (m+2) k2)::.dict kv2::g)
 have M1:MkAt "Marks" (S.hp x1) m k1 kv1:=⟨zD (S.hp r) _ 0,zD (S.hp r) _ 1⟩
 have M2:MkAt "Threads" (S.hp x1) (m+2) k2 kv2:=⟨zD (S.hp r) _ 2,zD (S.hp r) _ 3⟩
 have D1:Dy S mvs cus x1:=P.A.D.grow _
 have c3:=Z0 X.tt (n:=n+18) (is:=is) (k:=3) (h:=S.hp x1) (by decide) hs
 generalize hcc:YG (is[(3:Int).toNat]?.getD 0) 5=cc
 have ecc:=Wj X.tt (n:=n+18) (c:=is[(3:Int).toNat]?.getD 0) (k:=5) (h:=S.hp x1)
 rw [hcc] at ecc
 let F:Option AV→AFr:=fun v7=>FL sc tv hn v3 (some (.int cc)) (some (.ref m)) (some (.ref (m+2))) v7
 obtain ⟨ga,s1,s2,s3,ev,q1,q2,q3⟩:=zHx X (n:=n) (x:=x1) O g7 M1 K1 M2 K2 (fr:=F none) rfl rfl rfl
 let six:List AV:=[.str (tx S.cs),.int S.dn.length,.int S.le.length,.ref s1,.ref s2,.ref s3]
 let a:Nat:=(x1++ga).length
 let A:Nat:=(S.hp (x1++ga)).length
 have s7:=zd (okf:=okf) (j:=7) (yD ev) (show 7<(F none).length from zU rfl)
 let x2:Hp:=x1++ga++[.list six]
 let f:AFr:=F (some (.ref A))
 obtain ⟨g3,e3⟩:=zHy X (n:=n+6) (h0:=S.hp x2) (c:=cc) (by show some S.g0.a1=_;rw [P.g,t1])
 obtain ⟨g4,e4⟩:=z0l X (n:=n+6) (S:=S) (r:=x2++g3) O.G hh (by rw [P.g,t2]) (c:=cc.fdiv 11)
 obtain ⟨g5,e5⟩:=Qi X (n:=n+6) (S:=S) (r:=x2++g3++g4) (by rw [P.g,t3]) hst hs1 hf (c:=cc.fdiv 13)
 have M1a:MkAt "Marks" (S.hp (x2++g3++g4++g5)) m k1 kv1:=((((M1.app ga).app [.list six]).app g3).app g4).app g5
 have M2a:MkAt "Threads" (S.hp (x2++g3++g4++g5)) (m+2) k2 kv2:=((((M2.app ga).app [.list six]).app g3).app g4).app g5
 obtain ⟨g6,e6⟩:=z05 X (n:=n+6) (S:=S) (r:=x2++g3++g4++g5) O.G hh (by rw [P.g,t4]) M1a K1 M2a K2 (c:=cc.fdiv 17)
 rw [hd] at e4 e6
 let x6:Hp:=x2++g3++g4++g5++g6
 obtain ⟨gb,u1,u2,u3,ev',r1,r2,r3⟩:=zHx X (n:=n) (x:=x6) O g7 (M1a.app g6) K1 (M2a.app g6) K2 (fr:=f) rfl rfl rfl
 let six':List AV:=[.str (tx S.cs),.int S.dn.length,.int S.le.length,.ref u1,.ref u2,.ref u3]
 let x7:Hp:=x6++gb++[.list six']
 have up:∀ {j:Nat} {o:AO},x2[j]? = some o→x7[j]? = some o:=fun h=>zB (zB (zB (zB (zB (zB h)))))
 have upS:∀ {j:Nat} {o:AO},(S.hp x2)[j]? = some o→(S.hp x7)[j]? = some o:=fun {j o} h=>zB (l:=[AO.list six']) (zB (l:=gb) (zB (l:=g6) (zB (l:=g5) (zB (l:=g4) (zB (l:=g3) h)))))
 have hA:x2[a]? = some (.list six):=zQ _ _ []
 have hAS:(S.hp x2)[A]? = some (.list six):=zQ (S.hp (x1++ga)) _ []
 have ok:=kCo O P.ok
 have Q1:(S.hp x2)[s1]? = some (.list (S.sh.map AV.int)):=zB (l:=[AO.list six]) q1
 have Q2:(S.hp x2)[s2]? = some (.list ((zg 0 d).map AV.int)):=zB (l:=[AO.list six]) q2
 have Q3:(S.hp x2)[s3]? = some (.list ((zg 0 d).map AV.int)):=zB (l:=[AO.list six]) q3
 have R1:(S.hp x7)[u1]? = some (.list (S.sh.map AV.int)):=zB (l:=[AO.list six']) r1
 have R2:(S.hp x7)[u2]? = some (.list ((zg 0 d).map AV.int)):=zB (l:=[AO.list six']) r2
 have R3:(S.hp x7)[u3]? = some (.list ((zg 0 d).map AV.int)):=zB (l:=[AO.list six']) r3
 have hBS:(S.hp x7)[(S.hp (x6++gb)).length]? = some (.list six'):=zQ (S.hp (x6++gb)) _ []
 have eq:aEq (S.hp x7) (.ref A) (.ref (S.hp (x6++gb)).length)=some true:=z4l ok (upS hAS) hBS (upS Q1) (upS Q2) (upS Q3) R1 R2 R3
 have D7:Dy S mvs cus x7:=((((((((D1.grow ga).grow [.list six]).grow g3).grow g4).grow g5).grow g6).grow gb).grow [.list six'])
 have hs2:S.s1.st.length<200:=by rw [Xk,hst];exact Nat.lt_of_le_of_lt (Nat.succ_le_succ (Nat.le_trans bn hk)) (by decide)
 obtain ⟨r',i,q',x,tt1,tt2,_,ep,D2,kp,_⟩:=zI3 X.tt (n:=n+13) O I.K D7 hst (hd:=0) (p:=0) (cs:=[122]) (Int.le_refl 0) hh (Int.le_refl 0) (Int.natCast_nonneg _) kCq.2 (fun h=>nomatch h) (by decide) b80 l80 hs2
 obtain ⟨V2,ht,go,hcs⟩:=z02 (x:=x) (q:=q') (z:=122) V hs2 b80 l80 tt1 tt2
 let S2:Sh:=S.pz mvs cus i q' x 122
 have ez:("z" : Str)=tx [122]:=wi.2.2.2.2.2.2.1
 have ep:run T (n+19) (.meth "Sheet" "put") [.ref 9,.int 0,.int 0,.str "z"] (S.hp x7)=.ok (.int S.dn.length) (S2.hp r'):=by rw [ez];exact ep
 have ra:r.length≤a:=by
  show r.length≤(x1++ga).length
  rw [zX,zX];exact Nat.le_trans (Nat.le_add_right _ _) (Nat.le_add_right _ _)
 have hA2:∀ g:Hp,(S2.hp (r'++g))[A]? = some (.list six):=fun g=>by
  have:=kp a _ (P.A.D.ge ra).1 (P.A.D.ge ra).2 (up hA)
  exact zB (l:=g) (show (S2.hp r')[A]? = some (.list six) from this)
 have hA3:(S2.hp r')[A]? = some (.list six):=by have:=hA2 [];rwa [List.append_nil] at this
 have g7':S2.g0.a7=.cell (some (.ref 9)):=g7
 have e7':∀ x:Hp,Cl (S2.hp x) 7 (.ref 9):=fun x=>by show some S2.g0.a7=_;rw [g7']
 have ix:∀ {h:Hp} {j:Nat} {v:AV},h[A]? = some (.list six)→j≤5→six[j]? = some v→we h (.ref A) (.int (j:Int))=some v:=fun {h j v} e hj hv=>by
  rw [xn (qf (Nat.le_trans hj (by decide))),e];exact hv
 obtain ⟨g8,et8⟩:=z5r X.tt (n:=n+14) (S:=S2) (r:=r') V2.I.O
 obtain ⟨g9,et9⟩:=jh X.tt (n:=n+15) (S:=S2) (r:=r'++g8) V2.I (p:=0) (x:=(S.b.length:Int)) (by rw [ht];rfl)
 have hcs:S2.cs=122::S.cs:=hcs
 have go:gI S2.ow (S.b.length:Int)=(S.le.length:Int):=go
 rw [hcs] at et8
 rw [go] at et9
 have lcs:S.cs.length<200:=by
  show (S.sh.map _).length<200
  rw [List.length_map];exact O.tkl.2
 have ez2:zV .Add (z8 (.str "z")) (zn (z6 7) (z8 (.int 0))) (run T (n+19)) f (S2.hp (r'++g8))=.ok (.str (tx (122::S.cs))) (S2.hp (r'++g8)):=by
  refine xI (v:=.str "z") (w:=.str (tx S.cs)) rfl (ya (w:=.int 0) (z5 rfl) rfl (ix (j:=0) (hA2 g8) (by decide) rfl)) ?_
  rw [Jh,ez,if_pos,Xb];rfl
  show 1+(S.cs.toArray).size≤1048576
  rw [List.size_toArray];exact Nat.le_trans (Nat.add_le_add_left (Nat.le_of_lt lcs) 1) (by decide)
 have ok2:okT (122::S.cs):=fun c hc=>by
  cases hc with
  | head=>exact kCq.2 122 (.head _)
  | tail _ h=>exact ok c h
 have s9:sIf (y8 .Or [(zj (z9 (zF 10) "put" none [(z8 (.int 0)),(z8 (.int 0)),(z8 (.str "z"))]) [.NotEq] [(zn (z6 7) (z8 (.int 1)))]),(zj (z9 (zF 10) "text" none []) [.NotEq] [(zV .Add (z8 (.str "z")) (zn (z6 7) (z8 (.int 0))))]),(zj (z9 (zF 10) "sign_at" none [(z8 (.int 0))]) [.NotEq] [(zn (z6 7) (z8 (.int 2)))])]) (zJ [(zi (z8 (.bool false)))]) (zJ []) (run T (n+19)) f (S.hp x7)=.ok .next f (S2.hp (r'++g8++g9)):=by
  refine (zN (yv (h1:=S2.hp r') (zb (zC (a:=9) (zE rfl (e7 x7)) rfl YN (ev1 rfl (ev1 rfl (ev1 rfl ev0))) ep) (ya (w:=.int 1) (z5 rfl) rfl (ix (j:=1) hA3 (by decide) rfl)) (b:=false) (by rw [wS,qK,decide_eq_true rfl];rfl)) (yv (h1:=S2.hp (r'++g8)) (zb (zC (a:=9) (zE rfl (e7' r')) rfl JU ev0 et8) ez2 (b:=false) (by rw [wS,qj (kCb ok2) (kCb ok2),beq_self_eq_true];rfl)) (yv (zb (zC (a:=9) (zE rfl (e7' (r'++g8))) rfl xT (ev1 rfl ev0) et9) (ya (w:=.int 2) (z5 rfl) rfl (ix (j:=2) (zB (l:=g9) (hA2 g8)) (by decide) rfl)) (b:=false) (by rw [wS,qK,decide_eq_true rfl];rfl)) qU)))).trans zL
 have gz:S2.g0=G0:=P.g
 obtain ⟨z,y,eend,z0,z1,z2,z3,z4⟩:=z57 X (n:=n+7) (S:=S2) (x:=r'++g8++g9) (fr:=f) (c:=cc) hh P.lo (by rw [gz,t0]) (by rw [gz,t5]) (by rw [gz,t6]) g7' rfl rfl rfl rfl rfl rfl
 rw [gz] at z0 z1 z2 z3 z4
 refine ⟨{ S2 with g0:=z },y,f,?_,z0,z1,z2,z3,z4⟩
 refine (z7 (zd (j:=5) (ZR (ev1 (zE rfl (e7 r)) ev0) em) (zU rfl))).trans ?_
 refine (z7 (zd (j:=6) (fr:=FL sc tv hn v3 v4 (some (.ref m)) none none) (ZR (ev1 (zE rfl (e7 (r++[AO.inst "Marks" (mF m 0),AO.dict []]))) ev0) et) (zU rfl))).trans ?_
 refine (z7 e8).trans ?_
 refine (z7 (zd (j:=4) (zc (ev1 (zc (ev1 (z5 rfl) (ev1 rfl ev0)) c3) (ev1 rfl ev0)) ecc) (zU rfl))).trans ?_
 refine (z7 s7).trans ?_
 refine (z7 ((zN (yv (zx (b:=true) (yZ (v:=.bool true) (zc (ev1 (z5 rfl) ev0) e3) rfl)) (yv (zx (b:=true) (yZ (v:=.bool true) (zc (ev1 (zE rfl (e7 (x2++g3))) (ev1 (xM (z5 rfl) (by decide)) (ev1 (z5 rfl) ev0))) e4) rfl)) (yv (zx (b:=true) (yZ (v:=.bool true) (zc (ev1 (zE rfl (e7 (x2++g3++g4))) (ev1 (xM (z5 rfl) (by decide)) ev0)) e5) rfl)) qU)))).trans zL)).trans ?_
 refine (z7 ((zN (zx (b:=true) (yZ (v:=.bool true) (zc (ev1 (zE rfl (e7 (x2++g3++g4++g5))) (ev1 (z5 rfl) (ev1 (z5 rfl) (ev1 (xM (z5 rfl) (by decide)) (ev1 (z5 rfl) ev0))))) e6) rfl))).trans zL)).trans ?_
 refine (z7 ((zN (zb (op:=.NotEq) (v:=.ref A) (z5 rfl) (yD ev') (b:=false) (congrArg (Option.map (fun b:Bool=>!b)) eq))).trans zL)).trans ?_
 exact (z7 s9).trans eend
end
set_option genInjectivity false
set_option genSizeOf false
section
variable {T:Tab} {okf exm:Str→Str→Bool} {isx:Str→Str→Option Bool} {L:Nat→LamS} (X:TL T okf exm isx L) {n:Nat}
include X
theorem law_ {is:List Int} (hs:is.length≤63):∃ rr,run T (n+20) (.fn "law") [.lst (is.map AV.int)] z44=.ok (.bool true) (z44++rr):=by
 let sc:AV:=.lst (is.map AV.int)
 let hC:Hp:=z44++[.cell none,.cell none,.cell none]
 have c0:=fun h=>Z0 X.tt (n:=n+18) (is:=is) (k:=0) (h:=h) (by decide) hs
 have c1:=fun h=>Z0 X.tt (n:=n+18) (is:=is) (k:=1) (h:=h) (by decide) hs
 have c2:=fun h=>Z0 X.tt (n:=n+18) (is:=is) (k:=2) (h:=h) (by decide) hs
 obtain ⟨sz,es⟩:=z1n X (n:=n+18) (c:=is[(0:Int).toNat]?.getD 0) (h:=hC)
 have m20:=fmr sz (d:=20) (by decide)
 obtain ⟨cs,o,et,ok,lc⟩:=QN X.tt (n:=n+17) (c:=is[(1:Int).toNat]?.getD 0) (m:=sz.fmod 20) (h:=hC) m20.1 (Int.le_trans (Int.le_of_lt m20.2) (by decide))
 have hc:cs.length≤60:=Int.ofNat_le.mp (by rw [lc];exact Int.le_trans (Int.le_of_lt m20.2) (by decide))
 have h9:=fmr (is[(2:Int).toNat]?.getD 0) (d:=9) (by decide)
 generalize hhn:1+(is[(2:Int).toNat]?.getD 0).fmod 9=hn
 have hh1:1≤hn∧hn≤9:=by rw [← hhn];exact ⟨Int.le_add_of_nonneg_right h9.1,(show (1:Int)+_≤1+8 from Int.add_le_add_left (Int.le_of_lt_add_one h9.2) 1)⟩
 let Ga:Z9:=⟨.tab "law",.tab "_law_rows",.tab "_law_deeds",.tab "_law_numbers",.tab "_law_marks",.cell none,.cell none,.cell none,o⟩
 let Gb:Z9:=⟨.tab "law",.tab "_law_rows",.tab "_law_deeds",.tab "_law_numbers",.tab "_law_marks",.cell none,.cell none,.cell (some (.ref 9)),o⟩
 obtain ⟨g2,r,ei,D⟩:=zJ8 X.tt (n:=n+14) (g0:=Ga) (hands:=hn) ok hc hh1.1 hh1.2
 have V:=iv1 Gb g2 hn (cs:=cs) (Nat.lt_of_le_of_lt hc (by decide))
 let S:Sh:=sh1 Gb g2 hn cs
 have D:Dy S (List.replicate cs.length []) (List.replicate cs.length []) r:=⟨D.ml,D.cl,D.m,D.c,D.nd⟩
 let F0:Option AV→Option AV→AFr:=fun a b=>[some sc,a,b,none,none,none,none,none,some (.ref 5),some (.ref 6),some (.ref 7)]
 have s1:zA okf (.names (.one 1)) (zK (zI (some (.fn "_law_text_by"))) [(zK (zI (some (.fn "_law_cell_at"))) [(z6 0),(z8 (.int 1))]),(zV .Mod (zK (zI (some (.fn "_law_size_by"))) [(zK (zI (some (.fn "_law_cell_at"))) [(z6 0),(z8 (.int 0))])]) (z8 (.int 20)))]) (run T (n+19)) (F0 none none) hC=.ok .next (F0 (some (.str (tx cs))) none) (hC++[o]):=zd (j:=1) (zc (ev1 (zc (ev1 (z5 rfl) (ev1 rfl ev0)) (c1 hC)) (ev1 (qe (zc (ev1 (zc (ev1 (z5 rfl) (ev1 rfl ev0)) (c0 hC)) ev0) es) (by decide)) ev0)) et) (zU rfl)
 have s2:zA okf (.names (.one 2)) (zV .Add (z8 (.int 1)) (zV .Mod (zK (zI (some (.fn "_law_cell_at"))) [(z6 0),(z8 (.int 2))]) (z8 (.int 9)))) (run T (n+19)) (F0 (some (.str (tx cs))) none) (hC++[o])=.ok .next (F0 (some (.str (tx cs))) (some (.int hn))) (hC++[o]):=by
  rw [← hhn]
  exact zd (j:=2) (qw (x:=z8 (.int 1)) rfl (qe (d:=9) (zc (ev1 (z5 rfl) (ev1 rfl ev0)) (c2 (hC++[o]))) (by decide))) (zU rfl)
 have s3:zA okf (.cell 10) (zK (zI (some (.cls "Sheet"))) [(z6 1),(z6 2)]) (run T (n+19)) (F0 (some (.str (tx cs))) (some (.int hn))) (hC++[o])=.ok .next (F0 (some (.str (tx cs))) (some (.int hn))) (S.hp r):=qT (a:=7) (u:=none) (ZR (ev1 (z5 rfl) (ev1 (z5 rfl) ev0)) ei) rfl rfl rfl
 generalize hys:(is.take 9).drop 5=ys
 have ly:ys.length≤4:=by rw [← hys,List.length_drop,List.length_take];exact Nat.sub_le_of_le_add (Nat.min_le_left _ _)
 have A0:Bs hn 60 0 [] S (List.replicate cs.length []) (List.replicate cs.length []) r:=⟨V,D,fun q h=>(nomatch h),rfl,by show (List.replicate cs.length true).length≤_;rw [List.length_replicate];exact hc,hc,Nat.le_refl _⟩
 let r0:Hp:=r++[.list (ys.map AV.int)]
 have L0:Lp Gb hn r.length ys 0 S (List.replicate cs.length []) (List.replicate cs.length []) r0:=⟨A0.grow [.list (ys.map AV.int)] fun q hq=>.inr (by
  rw [qV hq,zX]
  exact ⟨Nat.le_refl _,Nat.lt_succ_self _⟩),zQ r _ [],rfl,fun b hb=>(nomatch hb),rfl,ok⟩
 have ec:Ym (z6 0) (z8 (.int 5)) (z8 (.int 9)) (run T (n+19)) (F0 (some (.str (tx cs))) (some (.int hn))) (S.hp r)=.ok (.ref (r.length+23)) (S.hp r0):=by
  refine (z5w (z5 rfl) rfl rfl (z5m (jK (show okI 5=true from rfl)) (jK (show okI 9=true from rfl)) (by rw [List.length_map];exact Nat.le_trans hs (by decide)))).trans ?_
  have e1:ys.map AV.int=Zn (is.map AV.int) 5 (some 9):=by
   rw [← hys]
   show ((is.take 9).drop 5).map AV.int=((is.map AV.int).take 9).drop 5
   rw [List.map_drop,List.map_take]
  show Out.ok (AV.ref (r.length+23)) (S.hp (r++[.list (Zn (is.map AV.int) 5 (some 9))]))=_
  rw [← e1]
 have hsx:yw (S.hp r0) (.ref (r.length+23))=some (.ref (r.length+23),ys.length):=by
  show (match (S.hp r0)[r.length+23]? with | some (.list xs)=>some (Src.ref (r.length+23),xs.length) | _=>none)=_
  rw [show (S.hp r0)[r.length+23]? = some (.list (ys.map AV.int)) from zQ r _ []]
  show some (Src.ref (r.length+23),(ys.map AV.int).length)=_
  rw [List.length_map]
 obtain ⟨fr',h',ef,v3,v4,S',mvs,cus,r',rfl,rfl,P⟩:=wO (t:=.many [3,4]) (src:=.enum (r.length+23)) (cf:=run T (n+19)) (xs:=ys.mapIdx fun i y=>AV.tup [.int (i:Int),.int y]) (body:=zJ [(zM (zK (zI (some (.fn "_law_do"))) [(zF 10),(zK (zI (some (.fn "_law_deed_by"))) [(zK (zI (some (.fn "_law_mixed"))) [(z6 4),(z6 3)]),(z9 (zF 10) "size" none []),(z6 2)])]))])
  (fun k fr h=>∃ v3 v4 S' mvs cus r',fr=FL sc (.str (tx cs)) hn v3 v4 none none none∧h=Sh.hp S' r'∧Lp Gb hn r.length ys k S' mvs cus r')
  (fun k fr h st=>by
   obtain ⟨v3,v4,S',mvs,cus,r',rfl,rfl,P⟩:=st
   exact jA (show (Sh.hp S' r')[r.length+23]? = _ from P.y))
  (fun k x fr h st hx=>by
   obtain ⟨v3,v4,S',mvs,cus,r',rfl,rfl,P⟩:=st
   rw [List.getElem?_mapIdx] at hx
   obtain ⟨y,hy,rfl⟩:=yC hx
   have hk:=(yj hy).1
   obtain ⟨S2,mvs2,cus2,r2,e,P2⟩:=z08 X (n:=n) P (Nat.le_trans (Nat.le_of_lt hk) (Nat.le_trans ly (by decide))) (Int.lt_of_lt_of_le (by decide) hh1.1) rfl (fr:=FL sc (.str (tx cs)) hn (some (.int (k:Int))) (some (.int y)) none none none) rfl rfl rfl rfl
   exact ⟨_,_,_,rfl,e,_,_,S2,mvs2,cus2,r2,rfl,rfl,P2⟩)
  (fr:=F0 (some (.str (tx cs))) (some (.int hn))) (h:=S.hp r0) ⟨none,none,S,_,_,r0,rfl,rfl,L0⟩
 rw [List.length_mapIdx] at ef P
 obtain ⟨Sz,y,frz,ez,z0,z1,z2,z3,z4⟩:=z56 X (n:=n) P ly hh1.1 rfl rfl rfl rfl rfl rfl rfl rfl hs (tv:=.str (tx cs)) (v3:=v3) (v4:=v4)
 refine ⟨(Sz.hp y).drop 5,?_⟩
 have hz:z44++(Sz.hp y).drop 5=Sz.hp y:=by
  show _=Sz.g0.a0::Sz.g0.a1::Sz.g0.a2::Sz.g0.a3::Sz.g0.a4::_
  rw [z0,z1,z2,z3,z4];rfl
 rw [hz,yc X.kCp]
 refine zO (fr:=[some sc,none,none,none,none,none,none,none,none,none,none]) rfl rfl (fr':=frz) ?_
 unfold kCp
 dsimp only
 refine jm (m:=5) (fr1:=F0 none none) (g:=[.cell none,.cell none,.cell none]) rfl rfl ?_
 exact (z7 s1).trans ((z7 s2).trans ((z7 s3).trans ((z7 (zGy ec hsx ef)).trans ez)))
end
end Mine.LS
end
section
open PySem PySem.W PyProof.Rows
set_option maxRecDepth 1000000
set_option maxHeartbeats 8000000
namespace Mine
noncomputable def w0 (q:Str):Nat→Expr→List LamS
 | 0,_=>[]
 | n+1,e=>match e with
  | .Lambda ar b sp _=>[⟨ar,b,sp,q⟩]
  | .List es _=>es.flatMap (w0 q n)
  | .BinOp l _ r _=>w0 q n l++w0 q n r
  | .Call f as _ _=>w0 q n f++as.flatMap (w0 q n)
  | .Compare l _ rs _=>w0 q n l++rs.flatMap (w0 q n)
  | .BoolOp _ es _=>es.flatMap (w0 q n)
  | .UnaryOp _ e _=>w0 q n e
  | _=>[]
noncomputable def JW (q:Str):Nat→Stmt→List LamS
 | 0,_=>[]
 | n+1,s=>match s with
  | .Assign _ e _=>w0 q 9 e
  | .Expr e _=>w0 q 9 e
  | .Return eo _=>(match eo with
   | some e=>w0 q 9 e
   | none=>[])
  | .If t a b _=>w0 q 9 t++a.flatMap (JW q n)++b.flatMap (JW q n)
  | .For _ _ b _ _=>b.flatMap (JW q n)
  | _=>[]
noncomputable def fnB (q:Str):List LamS:=(Hd.prog.main.body.findSome? fun s=>match s with
 | .FunctionDef n _ b _ _ _ _ _ _ _=>if n == q then some (b.flatMap (JW q 5)) else none
 | _=>none).getD []
noncomputable def Ls (k:Nat):LamS:=((fnB "_law_rows" ++ fnB "_law_deeds" ++ fnB "_law_numbers" ++ fnB "_law_marks" ++ fnB "law")[k]?).getD ⟨default,default,default, ""⟩
theorem tt (P:Params):LS.TT (y5 (Hd.K P)) (gOf (Hd.K P)).okf:=by constructor <;> kernel_rfl
theorem tl (P:Params):LS.TL (y5 (Hd.K P)) (gOf (Hd.K P)).okf (gOf (Hd.K P)).exm (gOf (Hd.K P)).isx Ls:=by
 constructor
 ·exact tt P
 all_goals kernel_rfl
theorem tbs (P:Params):WR (Hd.K P) [692,672,677,682,687]=true:=by kernel_rfl
namespace Hd
theorem left:LeftO prog qv [] Xt hk.obs hk.val 9934:=LeftO.of_pieces (H₀:=boot_heap) (H₁:=H1) (gs₀:=Array.mk []) (gs₁:=Array.mk []) (d₀:=boot_drawn) (d₁:={}) (k₀:=boot_toks) (k₁:=1114) (m₀:=11) (ann:=some (.ref 6)) (M:=9934) opn siz run (by decide)
 (fun w=>funext fun os=>Prod.ext (lk1 w os) (Prod.ext (lk2 w os) (lk3 w os)))
end Hd
end Mine
end
open PySem PySem.W PyProof.Rows
set_option maxRecDepth 1000000 in
set_option maxHeartbeats 8000000 in
theorem PySem.Challenge.cw_uf010039_04_holds : PySem.Challenge.rw_uf010039_04.Holds := by
  w_on
  refine holds_law Mine.Hd.ws fun said => ?_
  refine holds_open (q := Mine.Hd.qv) (loose := []) (Xt := Mine.Hd.Xt) (XP := XL Mine.Hd.qv []) (Yf := Mine.Hd.hk.obs) (Ya := Mine.Hd.hk.val) (YP := Mine.Hd.hk.says) (N := 9934) Mine.Hd.left Mine.Hd.hk.of Mine.Hd.hk.keeps (fun s e => xl_of s (Bool.and_eq_true_iff.mp e).1) XL.keeps (by rfl) (by rfl) (by rfl) (fun s e => recFacts_of (Bool.and_eq_true_iff.mp e).2) (by rfl) (by assumption) (by decide +kernel) ⟨rfl, rfl, rfl, rfl, rfl, by decide +kernel⟩ ?hw ?hc
  case hw => w_witness2
  intro w s₀ s₁ mg mb G Y fa o pm cd doc dV kV ho hd hcd hD hmg hg args vals as hpre hlay hrd hwl hlo
  have KX := km_in_of Y
  have hP := km_tabs_of Y
  clear Y
  refine Ground.open G ?_
  intro T B D TE TW
  clear ho hd hcd hD B D TE TW G
  wrow_args hpre hlay hrd hwl hlo
  rename IntsAre _ _ => hI
  rename Heap.IsList _ _ _ => hL
  rename ¬ _ < _ => hlen
  refine Mine.law_true T KX [692, 672, 677, 682, 687] hP (Mine.tbs _) hg hmg 697 (by kernel_rfl) hL hI hlen (Mine.LS.law_ (n := 0) (Mine.tl _) (by lia)) (raisesW_false ?_) ?_
  · wrow_none_raised
  · kc_post

import PyProof.Rows.All
import Wide.All
import OpenK.AllK
import Wide.FinOn
import Lean
import PySem.Challenge.RW_pq1306_01
open PySem PySem.W PyProof.Rows PySem.Spec PySem.Calls
set_option Elab.async false
set_option maxRecDepth 100000
set_option maxHeartbeats 8000000
set_option linter.all false
set_option genSizeOf false
set_option genInjectivity false
namespace Mine.Internal
section
noncomputable def st (i:Nat):Stmt:=match PySem.Challenge.pw_pq1306_01.main.body[i]? with
 |some s=>s
 |none=>.Pass ⟨0,0,0,0⟩
noncomputable def sc (i j:Nat):Stmt:=match st i with
 | .ClassDef _ _ _ b ..=>(match b[j]? with
   |some s=>s
   |none=>.Pass ⟨0,0,0,0⟩)
 |s=>s
noncomputable def fd (s:Stmt) (name qual:Str) (g:Addr) (cl:List (Str×Addr)) (dv kv doc pm:Value) (an:Option Addr) (cd ct:Value) (bl:Addr):FuncData:=match s with
 | .FunctionDef _ ps b _ _ _ s ..=>⟨name,qual,ps,.stmts b,s,g,cl,dv,kv,doc,pm,an,cd,ct,bl⟩
 |_=>default
noncomputable def de (P:Params) (x:Str) (t:Tok) (v:Value):DictEntry:=⟨PyData.keyHash P x,.str x t,v⟩
noncomputable def esO (o:Obj):List DictEntry:=match o.data with
 | .dict es _=>es.toList
 |_=>[]
noncomputable def fsO (o:Obj):List Value:=match o.data with
 | .fields vs=>vs.toList
 |_=>[]
noncomputable def ldv (P:Params):Value:=((esO (boot_o_3 P)).getD 3 default).val
noncomputable def oT (vs:Array Value):Obj:=⟨.type "tuple",none,.seq vs 0,#[]⟩
noncomputable def oF (vs:Array Value):Obj:=⟨.none,none,.fields vs,#[]⟩
noncomputable def oK (s:Stmt) (n q:Str):Obj:=⟨.none,none,.func (fd s n q 0 [] .none .none .none .none none .none .none 0),#[]⟩
noncomputable def oD (s:Stmt) (n q:Str) (dv pm:Value) (cd:Addr):Obj:=⟨.type "function",none,.func (fd s n q 3 [] dv .none .none pm none (.ref cd) .none 0),#[]⟩
noncomputable def oC (n q:Str) (t:Tok) (line a fl:Int) (c:Addr) (b:Bool) (u v x:Value) (k:Int):Obj:=⟨.type "code",none,.fields #[.str n t,.str q (t+1),.str "/claim/cut.py" (t+2),.int line 0,.int a 0,.int 0 0,.int 0 0,.int fl 0,.ref c,.bool b,.int 181 0,.ref (c+1),.none,u,v,x,.int k 0,.int line 0,.str "/claim/cut.py" (k.toNat+1)],#[]⟩
noncomputable def hd.view_39:Program:=view PySem.Challenge.pw_pq1306_01 [0,2,3,4,5,6,7,8,9,10,11,12,13,14,15,16,18,19,20,21,22,23,24,26,27,28,29,30,31,32,34,36,37,38,39,40,41,42,44,45,46,48,49,51,52,53,54,55,56,57,58,59,60,61,62,63,64,65,66,67,68,69]
noncomputable def hd.heap_39 (P:Params):Frag:=
 (nat_lit 2,⟨.none,none,.dict #[de P "type.__subclasses__.Exception.0" 229 (.int 39 0),de P "type.__subclasses__.Exception.n" 230 (.int 1 0)] 2,#[]⟩)::
 (nat_lit 3,⟨.type "dict",none,.dict #[de P "__name__" 165 (.str "law_pq1306_01" 698),de P "__doc__" 166 .none,de P "__package__" 167 .none,de P "__loader__" 168 (ldv P),de P "__spec__" 169 .none,de P "__annotations__" 170 (.ref 6),de P "__builtins__" 171 (.ref 4),de P "__file__" 173 (.str "/claim/cut.py" 172),de P "__cached__" 174 .none,de P "_wall" 193 (.ref 21),de P "MAX_CODE" 197 (.int 1114111 196),de P "HEX_DIGITS" 199 (.bytes #[48,49,50,51,52,53,54,55,56,57,65,66,67,68,69,70] 198),de P "LEAST_HEX" 201 (.int 4 200),de P "MOST_HEX" 203 (.int 6 202),de P "UniError" 232 (.ref 39),de P "BadCode" 248 (.ref 52),de P "BadRow" 264 (.ref 64),de P "codes_of" 270 (.ref 71),de P "octets_of_ascii" 279 (.ref 78),de P "ascii_of" 285 (.ref 83),de P "hex_code" 294 (.ref 90),de P "hex_value" 301 (.ref 97),de P "code_of_hex" 311 (.ref 104),de P "decimal_octets" 320 (.ref 111),de P "place_by_half" 331 (.ref 118),de P "UCD_BLANKS" 335 (.bytes #[32,9,13] 334),de P "UCD_MARK" 337 (.bytes #[239,187,191] 336),de P "UCD_MISSING" 339 (.bytes #[64,109,105,115,115,105,110,103,58] 338),de P "ucd_lines" 347 (.ref 125),de P "rows_of" 353 (.ref 130),de P "missing_rows" 359 (.ref 135),de P "code_of_field" 367 (.ref 142),de P "range_of" 379 (.ref 150),de P "word_of_field" 387 (.ref 157),de P "ucd_value" 397 (.ref 164),de P "ucd_check_apart" 408 (.ref 171),de P "ucd_ranged" 422 (.ref 178),de P "ucd_meant" 433 (.ref 185),de P "ucd_missing_puts" 447 (.ref 192),de P "ucd_check_told" 456 (.ref 199),de P "read_property" 462 (.ref 205),de P "range_octets" 470 (.ref 212),de P "property_octets" 484 (.ref 220),de P "booleans_octets" 496 (.ref 227),de P "fraction_octets" 504 (.ref 234),de P "ucd_mapping_octets" 510 (.ref 239),de P "ucd_number_octets" 521 (.ref 246),de P "ucd_code_octets" 528 (.ref 253),de P "unicode_row_octets" 534 (.ref 258),de P "unicode_data_octets" 540 (.ref 263),de P "range_are_like" 548 (.ref 268),de P "RangeMap" 616 (.ref 311),de P "range_rows" 628 (.ref 322),de P "data_defaults" 638 (.ref 329),de P "Data" 697 (.ref 367),de P "_law_pool" 706 (.ref 372),de P "_law_names" 709 (.ref 373),de P "_law_mappings" 721 (.ref 382),de P "_law_numbers" 751 (.ref 403),de P "_law_others" 755 (.ref 404),de P "_law_spans" 766 (.ref 410),de P "_law_spelt" 772 (.ref 417),de P "_law_draw" 782 (.ref 424),de P "_law_pick" 790 (.ref 431),de P "_law_hex" 798 (.ref 438),de P "_law_code" 805 (.ref 445),de P "_law_mapping" 811 (.ref 450),de P "_law_number" 820 (.ref 457),de P "_law_told_code" 826 (.ref 462),de P "_law_rows_right" 832 (.ref 467),de P "_law_line" 838 (.ref 472),de P "_law_property_right" 844 (.ref 477),de P "_law_truths_right" 857 (.ref 484),de P "law" 863 (.ref 489)] 74,#[]⟩)::
 (nat_lit 11,oT #[])::
 (nat_lit 12,oF #[.int 1 0,.int 0 0,.ref 20,.int 9 0,.int 0 0,.ref 27,.int 13 0,.int 0 0,.ref 48,.int 15 0,.int 0 0,.ref 60,.int 17 0,.int 0 0,.ref 70,.int 19 0,.int 0 0,.ref 77,.int 25 0,.int 0 0,.ref 82,.int 30 0,.int 0 0,.ref 89,.int 37 0,.int 0 0,.ref 96,.int 45 0,.int 0 0,.ref 103,.int 57 0,.int 0 0,.ref 110,.int 64 0,.int 0 0,.ref 117,.int 78 0,.int 0 0,.ref 124,.int 81 0,.int 0 0,.ref 129,.int 91 0,.int 0 0,.ref 134,.int 102 0,.int 0 0,.ref 141,.int 109 0,.int 0 0,.ref 149,.int 117 0,.int 0 0,.ref 156,.int 122 0,.int 0 0,.ref 163,.int 129 0,.int 0 0,.ref 170,.int 136 0,.int 0 0,.ref 177,.int 144 0,.int 0 0,.ref 184,.int 150 0,.int 0 0,.ref 191,.int 156 0,.int 0 0,.ref 198,.int 160 0,.int 0 0,.ref 204,.int 170 0,.int 0 0,.ref 211,.int 172 0,.int 0 0,.ref 219,.int 182 0,.int 0 0,.ref 226,.int 188 0,.int 0 0,.ref 233,.int 191 0,.int 0 0,.ref 238,.int 196 0,.int 0 0,.ref 245,.int 202 0,.int 0 0,.ref 252,.int 204 0,.int 0 0,.ref 257,.int 212 0,.int 0 0,.ref 262,.int 215 0,.int 0 0,.ref 267,.int 219 0,.int 0 0,.ref 274,.int 250 0,.int 0 0,.ref 321,.int 257 0,.int 0 0,.ref 328,.int 269 0,.int 0 0,.ref 335,.int 296 0,.int 0 0,.ref 416,.int 298 0,.int 0 0,.ref 423,.int 302 0,.int 0 0,.ref 430,.int 304 0,.int 0 0,.ref 437,.int 310 0,.int 0 0,.ref 444,.int 312 0,.int 0 0,.ref 449,.int 316 0,.int 0 0,.ref 456,.int 321 0,.int 0 0,.ref 461,.int 335 0,.int 0 0,.ref 466,.int 344 0,.int 0 0,.ref 471,.int 347 0,.int 0 0,.ref 476,.int 369 0,.int 0 0,.ref 483,.int 378 0,.int 0 0,.ref 488])::
 (nat_lit 13,oC "<module>" "<module>" 182 1 0 0 11 false .none .none .none 185)::
 (nat_lit 14,⟨.type "frame",none,.plain,#[some (.ref 13),some (.ref 3),some (.ref 3),none,some (.str "__main__" 164),none,some (.ref 0)]⟩)::
 (nat_lit 15,oT #[])::
 (nat_lit 16,oF #[])::
 (nat_lit 17,oT #[.str "k" 190])::
 (nat_lit 18,oT #[])::
 (nat_lit 19,oK (st 0) "_wall" "_wall")::
 (nat_lit 20,oC "_wall" "_wall" 187 1 1 3 15 true (.ref 17) (.ref 18) (.ref 19) 191)::
 (nat_lit 21,oD (st 0) "_wall" "_wall" .none (.str "__main__" 164) 20)::
 (nat_lit 22,oT #[.type "Exception"])::
 (nat_lit 23,⟨.type "builtin_function_or_method",none,.fields #[.builtin "type.__prepare__",.type "type"],#[]⟩)::
 (nat_lit 24,⟨.type "dict",none,.dict #[de P "__module__" 211 (.str "unicore.base" 194),de P "__qualname__" 213 (.str "UniError" 212),de P "__firstlineno__" 215 (.int 9 214),de P "__init__" 223 (.ref 36),de P "__static_attributes__" 225 (.ref 37)] 5,#[]⟩)::
 (nat_lit 25,oT #[])::
 (nat_lit 26,oF #[.int 11 0,.int 4 0,.ref 35])::
 (nat_lit 27,oC "UniError" "UniError" 206 9 0 0 25 false .none .none .none 209)::
 (nat_lit 28,⟨.type "frame",none,.plain,#[some (.ref 27),some (.ref 3),some (.ref 24),none,some (.str "unicore.base" 194),none,some (.ref 0)]⟩)::
 (nat_lit 29,oT #[.none])::
 (nat_lit 30,oT #[])::
 (nat_lit 31,oF #[])::
 (nat_lit 32,oT #[.str "self" 219,.str "told" 220])::
 (nat_lit 33,oT #[])::
 (nat_lit 34,oK (sc 6 0) "__init__" "UniError.__init__")::
 (nat_lit 35,oC "__init__" "UniError.__init__" 216 11 2 3 30 true (.ref 32) (.ref 33) (.ref 34) 221)::
 (nat_lit 36,oD (sc 6 0) "__init__" "UniError.__init__" (.ref 29) (.str "unicore.base" 194) 35)::
 (nat_lit 37,oT #[.str "told" 224])::
 (nat_lit 38,⟨.type "dict",none,.dict #[de P "__module__" 211 (.str "unicore.base" 194),de P "__firstlineno__" 215 (.int 9 214),de P "__init__" 223 (.ref 36),de P "__static_attributes__" 225 (.ref 37),de P "__weakref__" 227 (.ref 40),de P "__doc__" 228 .none] 3,#[]⟩)::
 (nat_lit 39,⟨.type "type",none,.cls ⟨"UniError",[.type "Exception"],[.ref 39,.type "Exception",.type "BaseException",.type "object"],38,"UniError",true,[],[.ref 52,.ref 64],false,none,false⟩,#[some (.ref 22),none,some (.str "UniError" 204),some (.str "UniError" 212),some (.builtin "Exception.__new__"),some (.bool true)]⟩)::
 (nat_lit 40,⟨.type "getset_descriptor",none,.fields #[.str "__weakref__" 226,.ref 39,.builtin "ExceptionGroup.__weakref__",.none],#[]⟩)::
 (nat_lit 41,⟨.type "super",none,.fields #[.ref 39,.ref 39,.ref 39],#[]⟩)::
 (nat_lit 42,⟨.type "builtin_function_or_method",none,.fields #[.builtin "object.__init_subclass__",.ref 39],#[]⟩)::
 (nat_lit 43,oT #[.ref 39])::
 (nat_lit 44,⟨.type "builtin_function_or_method",none,.fields #[.builtin "type.__prepare__",.type "type"],#[]⟩)::
 (nat_lit 45,⟨.type "dict",none,.dict #[de P "__module__" 240 (.str "unicore.base" 194),de P "__qualname__" 242 (.str "BadCode" 241),de P "__firstlineno__" 244 (.int 13 243),de P "__static_attributes__" 245 (.ref 50)] 4,#[]⟩)::
 (nat_lit 46,oT #[])::
 (nat_lit 47,oF #[])::
 (nat_lit 48,oC "BadCode" "BadCode" 235 13 0 0 46 false .none .none .none 238)::
 (nat_lit 49,⟨.type "frame",none,.plain,#[some (.ref 48),some (.ref 3),some (.ref 45),none,some (.str "unicore.base" 194),none,some (.ref 0)]⟩)::
 (nat_lit 50,oT #[])::
 (nat_lit 51,⟨.type "dict",none,.dict #[de P "__module__" 240 (.str "unicore.base" 194),de P "__firstlineno__" 244 (.int 13 243),de P "__static_attributes__" 245 (.ref 50),de P "__doc__" 246 .none] 2,#[]⟩)::
 (nat_lit 52,⟨.type "type",none,.cls ⟨"BadCode",[.ref 39],[.ref 52,.ref 39,.type "Exception",.type "BaseException",.type "object"],51,"BadCode",true,[],[],false,none,false⟩,#[some (.ref 43),none,some (.str "BadCode" 233),some (.str "BadCode" 241),some (.builtin "Exception.__new__"),some (.bool true)]⟩)::
 (nat_lit 53,⟨.type "super",none,.fields #[.ref 52,.ref 52,.ref 52],#[]⟩)::
 (nat_lit 54,⟨.type "builtin_function_or_method",none,.fields #[.builtin "object.__init_subclass__",.ref 52],#[]⟩)::
 (nat_lit 55,oT #[.ref 39])::
 (nat_lit 56,⟨.type "builtin_function_or_method",none,.fields #[.builtin "type.__prepare__",.type "type"],#[]⟩)::
 (nat_lit 57,⟨.type "dict",none,.dict #[de P "__module__" 256 (.str "unicore.base" 194),de P "__qualname__" 258 (.str "BadRow" 257),de P "__firstlineno__" 260 (.int 15 259),de P "__static_attributes__" 261 (.ref 62)] 4,#[]⟩)::
 (nat_lit 58,oT #[])::
 (nat_lit 59,oF #[])::
 (nat_lit 60,oC "BadRow" "BadRow" 251 15 0 0 58 false .none .none .none 254)::
 (nat_lit 61,⟨.type "frame",none,.plain,#[some (.ref 60),some (.ref 3),some (.ref 57),none,some (.str "unicore.base" 194),none,some (.ref 0)]⟩)::
 (nat_lit 62,oT #[])::
 (nat_lit 63,⟨.type "dict",none,.dict #[de P "__module__" 256 (.str "unicore.base" 194),de P "__firstlineno__" 260 (.int 15 259),de P "__static_attributes__" 261 (.ref 62),de P "__doc__" 262 .none] 2,#[]⟩)::
 (nat_lit 64,⟨.type "type",none,.cls ⟨"BadRow",[.ref 39],[.ref 64,.ref 39,.type "Exception",.type "BaseException",.type "object"],63,"BadRow",true,[],[],false,none,false⟩,#[some (.ref 55),none,some (.str "BadRow" 249),some (.str "BadRow" 257),some (.builtin "Exception.__new__"),some (.bool true)]⟩)::
 (nat_lit 65,⟨.type "super",none,.fields #[.ref 64,.ref 64,.ref 64],#[]⟩)::
 (nat_lit 66,⟨.type "builtin_function_or_method",none,.fields #[.builtin "object.__init_subclass__",.ref 64],#[]⟩)::
 (nat_lit 67,oT #[])::
 (nat_lit 68,oF #[])::
 (nat_lit 69,oK (st 9) "codes_of" "codes_of")::
 (nat_lit 70,oC "codes_of" "codes_of" 265 17 1 3 67 true .none .none (.ref 69) 268)::
 (nat_lit 71,oD (st 9) "codes_of" "codes_of" .none (.str "unicore.base" 194) 70)::
 (nat_lit 72,oT #[])::
 (nat_lit 73,oF #[])::
 (nat_lit 74,oT #[.str "signs" 274,.str "numbers" 275,.str "number" 276])::
 (nat_lit 75,oT #[])::
 (nat_lit 76,oK (st 10) "octets_of_ascii" "octets_of_ascii")::
 (nat_lit 77,oC "octets_of_ascii" "octets_of_ascii" 271 19 1 3 72 true (.ref 74) (.ref 75) (.ref 76) 277)::
 (nat_lit 78,oD (st 10) "octets_of_ascii" "octets_of_ascii" .none (.str "unicore.base" 194) 77)::
 (nat_lit 79,oT #[])::
 (nat_lit 80,oF #[])::
 (nat_lit 81,oK (st 11) "ascii_of" "ascii_of")::
 (nat_lit 82,oC "ascii_of" "ascii_of" 280 25 1 3 79 true .none .none (.ref 81) 283)::
 (nat_lit 83,oD (st 11) "ascii_of" "ascii_of" .none (.str "unicore.base" 194) 82)::
 (nat_lit 84,oT #[])::
 (nat_lit 85,oF #[])::
 (nat_lit 86,oT #[.str "code" 289,.str "found" 290,.str "rest" 291])::
 (nat_lit 87,oT #[])::
 (nat_lit 88,oK (st 12) "hex_code" "hex_code")::
 (nat_lit 89,oC "hex_code" "hex_code" 286 30 1 3 84 true (.ref 86) (.ref 87) (.ref 88) 292)::
 (nat_lit 90,oD (st 12) "hex_code" "hex_code" .none (.str "unicore.base" 194) 89)::
 (nat_lit 91,oT #[])::
 (nat_lit 92,oF #[])::
 (nat_lit 93,oT #[.str "octet" 298])::
 (nat_lit 94,oT #[])::
 (nat_lit 95,oK (st 13) "hex_value" "hex_value")::
 (nat_lit 96,oC "hex_value" "hex_value" 295 37 1 3 91 true (.ref 93) (.ref 94) (.ref 95) 299)::
 (nat_lit 97,oD (st 13) "hex_value" "hex_value" .none (.str "unicore.base" 194) 96)::
 (nat_lit 98,oT #[])::
 (nat_lit 99,oF #[])::
 (nat_lit 100,oT #[.str "octets" 305,.str "number" 306,.str "octet" 307,.str "digit" 308])::
 (nat_lit 101,oT #[])::
 (nat_lit 102,oK (st 14) "code_of_hex" "code_of_hex")::
 (nat_lit 103,oC "code_of_hex" "code_of_hex" 302 45 1 3 98 true (.ref 100) (.ref 101) (.ref 102) 309)::
 (nat_lit 104,oD (st 14) "code_of_hex" "code_of_hex" .none (.str "unicore.base" 194) 103)::
 (nat_lit 105,oT #[])::
 (nat_lit 106,oF #[])::
 (nat_lit 107,oT #[.str "number" 315,.str "found" 316,.str "rest" 317])::
 (nat_lit 108,oT #[])::
 (nat_lit 109,oK (st 15) "decimal_octets" "decimal_octets")::
 (nat_lit 110,oC "decimal_octets" "decimal_octets" 312 57 1 3 105 true (.ref 107) (.ref 108) (.ref 109) 318)::
 (nat_lit 111,oD (st 15) "decimal_octets" "decimal_octets" .none (.str "unicore.base" 194) 110)::
 (nat_lit 112,oT #[])::
 (nat_lit 113,oF #[])::
 (nat_lit 114,oT #[.str "firsts" 324,.str "number" 325,.str "low" 326,.str "high" 327,.str "middle" 328])::
 (nat_lit 115,oT #[])::
 (nat_lit 116,oK (st 16) "place_by_half" "place_by_half")::
 (nat_lit 117,oC "place_by_half" "place_by_half" 321 64 2 3 112 true (.ref 114) (.ref 115) (.ref 116) 329)::
 (nat_lit 118,oD (st 16) "place_by_half" "place_by_half" .none (.str "unicore.base" 194) 117)::
 (nat_lit 119,oT #[])::
 (nat_lit 120,oF #[])::
 (nat_lit 121,oT #[.str "octets" 343,.str "bare" 344])::
 (nat_lit 122,oT #[])::
 (nat_lit 123,oK (st 21) "ucd_lines" "ucd_lines")::
 (nat_lit 124,oC "ucd_lines" "ucd_lines" 340 78 1 3 119 true (.ref 121) (.ref 122) (.ref 123) 345)::
 (nat_lit 125,oD (st 21) "ucd_lines" "ucd_lines" .none (.str "unicore.ucdrows" 332) 124)::
 (nat_lit 126,oT #[])::
 (nat_lit 127,oF #[])::
 (nat_lit 128,oK (st 22) "rows_of" "rows_of")::
 (nat_lit 129,oC "rows_of" "rows_of" 348 81 1 3 126 true .none .none (.ref 128) 351)::
 (nat_lit 130,oD (st 22) "rows_of" "rows_of" .none (.str "unicore.ucdrows" 332) 129)::
 (nat_lit 131,oT #[])::
 (nat_lit 132,oF #[])::
 (nat_lit 133,oK (st 23) "missing_rows" "missing_rows")::
 (nat_lit 134,oC "missing_rows" "missing_rows" 354 91 1 3 131 true .none .none (.ref 133) 357)::
 (nat_lit 135,oD (st 23) "missing_rows" "missing_rows" .none (.str "unicore.ucdrows" 332) 134)::
 (nat_lit 136,oT #[])::
 (nat_lit 137,oF #[])::
 (nat_lit 138,oT #[.str "field" 363,.str "number" 364])::
 (nat_lit 139,oT #[])::
 (nat_lit 140,oK (st 24) "code_of_field" "code_of_field")::
 (nat_lit 141,oC "code_of_field" "code_of_field" 360 102 2 3 136 true (.ref 138) (.ref 139) (.ref 140) 365)::
 (nat_lit 142,oD (st 24) "code_of_field" "code_of_field" .none (.str "unicore.ucdrows" 332) 141)::
 (nat_lit 143,oT #[.int 0 368])::
 (nat_lit 144,oT #[])::
 (nat_lit 145,oF #[])::
 (nat_lit 146,oT #[.str "field" 372,.str "number" 373,.str "parts" 374,.str "first" 375,.str "last" 376])::
 (nat_lit 147,oT #[])::
 (nat_lit 148,oK (st 25) "range_of" "range_of")::
 (nat_lit 149,oC "range_of" "range_of" 369 109 2 3 144 true (.ref 146) (.ref 147) (.ref 148) 377)::
 (nat_lit 150,oD (st 25) "range_of" "range_of" (.ref 143) (.str "unicore.ucdrows" 332) 149)::
 (nat_lit 151,oT #[])::
 (nat_lit 152,oF #[])::
 (nat_lit 153,oT #[.str "field" 383,.str "number" 384])::
 (nat_lit 154,oT #[])::
 (nat_lit 155,oK (st 26) "word_of_field" "word_of_field")::
 (nat_lit 156,oC "word_of_field" "word_of_field" 380 117 2 3 151 true (.ref 153) (.ref 154) (.ref 155) 385)::
 (nat_lit 157,oD (st 26) "word_of_field" "word_of_field" .none (.str "unicore.ucdrows" 332) 156)::
 (nat_lit 158,oT #[])::
 (nat_lit 159,oF #[])::
 (nat_lit 160,oT #[.str "field" 391,.str "values" 392,.str "number" 393,.str "word" 394])::
 (nat_lit 161,oT #[])::
 (nat_lit 162,oK (st 27) "ucd_value" "ucd_value")::
 (nat_lit 163,oC "ucd_value" "ucd_value" 388 122 3 3 158 true (.ref 160) (.ref 161) (.ref 162) 395)::
 (nat_lit 164,oD (st 27) "ucd_value" "ucd_value" .none (.str "unicore.ucdrows" 332) 163)::
 (nat_lit 165,oT #[])::
 (nat_lit 166,oF #[])::
 (nat_lit 167,oT #[.str "lots" 401,.str "ahead" 402,.str "first" 403,.str "last" 404,.str "number" 405])::
 (nat_lit 168,oT #[])::
 (nat_lit 169,oK (st 28) "ucd_check_apart" "ucd_check_apart")::
 (nat_lit 170,oC "ucd_check_apart" "ucd_check_apart" 398 129 1 3 165 true (.ref 167) (.ref 168) (.ref 169) 406)::
 (nat_lit 171,oD (st 28) "ucd_check_apart" "ucd_check_apart" .none (.str "unicore.ucdrows" 332) 170)::
 (nat_lit 172,oT #[])::
 (nat_lit 173,oF #[])::
 (nat_lit 174,oT #[.str "octets" 412,.str "many" 413,.str "found" 414,.str "number" 415,.str "fields" 416,.str "remark" 417,.str "first" 418,.str "last" 419])::
 (nat_lit 175,oT #[])::
 (nat_lit 176,oK (st 29) "ucd_ranged" "ucd_ranged")::
 (nat_lit 177,oC "ucd_ranged" "ucd_ranged" 409 136 2 3 172 true (.ref 174) (.ref 175) (.ref 176) 420)::
 (nat_lit 178,oD (st 29) "ucd_ranged" "ucd_ranged" .none (.str "unicore.ucdrows" 332) 177)::
 (nat_lit 179,oT #[])::
 (nat_lit 180,oF #[])::
 (nat_lit 181,oT #[.str "octets" 426,.str "word" 427,.str "found" 428,.str "number" 429,.str "fields" 430])::
 (nat_lit 182,oT #[])::
 (nat_lit 183,oK (st 30) "ucd_meant" "ucd_meant")::
 (nat_lit 184,oC "ucd_meant" "ucd_meant" 423 144 2 3 179 true (.ref 181) (.ref 182) (.ref 183) 431)::
 (nat_lit 185,oD (st 30) "ucd_meant" "ucd_meant" .none (.str "unicore.ucdrows" 332) 184)::
 (nat_lit 186,oT #[])::
 (nat_lit 187,oF #[])::
 (nat_lit 188,oT #[.str "octets" 437,.str "word" 438,.str "values" 439,.str "found" 440,.str "number" 441,.str "fields" 442,.str "first" 443,.str "last" 444])::
 (nat_lit 189,oT #[])::
 (nat_lit 190,oK (st 31) "ucd_missing_puts" "ucd_missing_puts")::
 (nat_lit 191,oC "ucd_missing_puts" "ucd_missing_puts" 434 150 3 3 186 true (.ref 188) (.ref 189) (.ref 190) 445)::
 (nat_lit 192,oD (st 31) "ucd_missing_puts" "ucd_missing_puts" .none (.str "unicore.ucdrows" 332) 191)::
 (nat_lit 193,oT #[])::
 (nat_lit 194,oF #[])::
 (nat_lit 195,oT #[.str "rows" 451,.str "number" 452,.str "fields" 453])::
 (nat_lit 196,oT #[])::
 (nat_lit 197,oK (st 32) "ucd_check_told" "ucd_check_told")::
 (nat_lit 198,oC "ucd_check_told" "ucd_check_told" 448 156 1 3 193 true (.ref 195) (.ref 196) (.ref 197) 454)::
 (nat_lit 199,oD (st 32) "ucd_check_told" "ucd_check_told" .none (.str "unicore.ucdrows" 332) 198)::
 (nat_lit 200,oT #[.none])::
 (nat_lit 201,oT #[])::
 (nat_lit 202,oF #[])::
 (nat_lit 203,oK (st 33) "read_property" "read_property")::
 (nat_lit 204,oC "read_property" "read_property" 457 160 4 3 201 true .none .none (.ref 203) 460)::
 (nat_lit 205,oD (st 33) "read_property" "read_property" (.ref 200) (.str "unicore.ucdrows" 332) 204)::
 (nat_lit 206,oT #[])::
 (nat_lit 207,oF #[])::
 (nat_lit 208,oT #[.str "first" 466,.str "last" 467])::
 (nat_lit 209,oT #[])::
 (nat_lit 210,oK (st 34) "range_octets" "range_octets")::
 (nat_lit 211,oC "range_octets" "range_octets" 463 170 2 3 206 true (.ref 208) (.ref 209) (.ref 210) 468)::
 (nat_lit 212,oD (st 34) "range_octets" "range_octets" .none (.str "unicore.ucdrows" 332) 211)::
 (nat_lit 213,oT #[.none,.none])::
 (nat_lit 214,oT #[])::
 (nat_lit 215,oF #[])::
 (nat_lit 216,oT #[.str "ranges" 474,.str "missing" 475,.str "words" 476,.str "rows" 477,.str "told" 478,.str "first" 479,.str "last" 480,.str "value" 481])::
 (nat_lit 217,oT #[])::
 (nat_lit 218,oK (st 35) "property_octets" "property_octets")::
 (nat_lit 219,oC "property_octets" "property_octets" 471 172 3 3 214 true (.ref 216) (.ref 217) (.ref 218) 482)::
 (nat_lit 220,oD (st 35) "property_octets" "property_octets" (.ref 213) (.str "unicore.ucdrows" 332) 219)::
 (nat_lit 221,oT #[])::
 (nat_lit 222,oF #[])::
 (nat_lit 223,oT #[.str "sets" 488,.str "rows" 489,.str "word" 490,.str "ranges" 491,.str "first" 492,.str "last" 493])::
 (nat_lit 224,oT #[])::
 (nat_lit 225,oK (st 36) "booleans_octets" "booleans_octets")::
 (nat_lit 226,oC "booleans_octets" "booleans_octets" 485 182 1 3 221 true (.ref 223) (.ref 224) (.ref 225) 494)::
 (nat_lit 227,oD (st 36) "booleans_octets" "booleans_octets" .none (.str "unicore.ucdrows" 332) 226)::
 (nat_lit 228,oT #[])::
 (nat_lit 229,oF #[])::
 (nat_lit 230,oT #[.str "told" 500,.str "above" 501])::
 (nat_lit 231,oT #[])::
 (nat_lit 232,oK (st 37) "fraction_octets" "fraction_octets")::
 (nat_lit 233,oC "fraction_octets" "fraction_octets" 497 188 1 3 228 true (.ref 230) (.ref 231) (.ref 232) 502)::
 (nat_lit 234,oD (st 37) "fraction_octets" "fraction_octets" .none (.str "unicore.ucdrows" 332) 233)::
 (nat_lit 235,oT #[])::
 (nat_lit 236,oF #[])::
 (nat_lit 237,oK (st 38) "ucd_mapping_octets" "ucd_mapping_octets")::
 (nat_lit 238,oC "ucd_mapping_octets" "ucd_mapping_octets" 505 191 1 3 235 true .none .none (.ref 237) 508)::
 (nat_lit 239,oD (st 38) "ucd_mapping_octets" "ucd_mapping_octets" .none (.str "unicore.ucdrows" 332) 238)::
 (nat_lit 240,oT #[])::
 (nat_lit 241,oF #[])::
 (nat_lit 242,oT #[.str "data" 514,.str "code" 515,.str "kind" 516,.str "value" 517,.str "told" 518])::
 (nat_lit 243,oT #[])::
 (nat_lit 244,oK (st 39) "ucd_number_octets" "ucd_number_octets")::
 (nat_lit 245,oC "ucd_number_octets" "ucd_number_octets" 511 196 2 3 240 true (.ref 242) (.ref 243) (.ref 244) 519)::
 (nat_lit 246,oD (st 39) "ucd_number_octets" "ucd_number_octets" .none (.str "unicore.ucdrows" 332) 245)::
 (nat_lit 247,oT #[])::
 (nat_lit 248,oF #[])::
 (nat_lit 249,oT #[.str "code" 525])::
 (nat_lit 250,oT #[])::
 (nat_lit 251,oK (st 40) "ucd_code_octets" "ucd_code_octets")::
 (nat_lit 252,oC "ucd_code_octets" "ucd_code_octets" 522 202 1 3 247 true (.ref 249) (.ref 250) (.ref 251) 526)::
 (nat_lit 253,oD (st 40) "ucd_code_octets" "ucd_code_octets" .none (.str "unicore.ucdrows" 332) 252)::
 (nat_lit 254,oT #[])::
 (nat_lit 255,oF #[])::
 (nat_lit 256,oK (st 41) "unicode_row_octets" "unicode_row_octets")::
 (nat_lit 257,oC "unicode_row_octets" "unicode_row_octets" 529 204 2 3 254 true .none .none (.ref 256) 532)::
 (nat_lit 258,oD (st 41) "unicode_row_octets" "unicode_row_octets" .none (.str "unicore.ucdrows" 332) 257)::
 (nat_lit 259,oT #[])::
 (nat_lit 260,oF #[])::
 (nat_lit 261,oK (st 42) "unicode_data_octets" "unicode_data_octets")::
 (nat_lit 262,oC "unicode_data_octets" "unicode_data_octets" 535 212 2 3 259 true .none .none (.ref 261) 538)::
 (nat_lit 263,oD (st 42) "unicode_data_octets" "unicode_data_octets" .none (.str "unicore.ucdrows" 332) 262)::
 (nat_lit 264,oT #[])::
 (nat_lit 265,oF #[])::
 (nat_lit 266,oK (st 44) "range_are_like" "range_are_like")::
 (nat_lit 267,oC "range_are_like" "range_are_like" 543 215 2 3 264 true .none .none (.ref 266) 546)::
 (nat_lit 268,oD (st 44) "range_are_like" "range_are_like" .none (.str "unicore.ranges" 541) 267)::
 (nat_lit 269,oT #[])::
 (nat_lit 270,⟨.type "builtin_function_or_method",none,.fields #[.builtin "type.__prepare__",.type "type"],#[]⟩)::
 (nat_lit 271,⟨.type "dict",none,.dict #[de P "__module__" 556 (.str "unicore.ranges" 541),de P "__qualname__" 558 (.str "RangeMap" 557),de P "__firstlineno__" 560 (.int 219 559),de P "__init__" 568 (.ref 282),de P "get" 576 (.ref 289),de P "put" 591 (.ref 296),de P "ranges" 597 (.ref 301),de P "set_of" 605 (.ref 308),de P "__static_attributes__" 609 (.ref 309)] 9,#[]⟩)::
 (nat_lit 272,oT #[])::
 (nat_lit 273,oF #[.int 221 0,.int 4 0,.ref 281,.int 226 0,.int 4 0,.ref 288,.int 229 0,.int 4 0,.ref 295,.int 245 0,.int 4 0,.ref 300,.int 248 0,.int 4 0,.ref 307])::
 (nat_lit 274,oC "RangeMap" "RangeMap" 551 219 0 0 272 false .none .none .none 554)::
 (nat_lit 275,⟨.type "frame",none,.plain,#[some (.ref 274),some (.ref 3),some (.ref 271),none,some (.str "unicore.ranges" 541),none,some (.ref 0)]⟩)::
 (nat_lit 276,oT #[])::
 (nat_lit 277,oF #[])::
 (nat_lit 278,oT #[.str "self" 564,.str "default" 565])::
 (nat_lit 279,oT #[])::
 (nat_lit 280,oK (sc 45 0) "__init__" "RangeMap.__init__")::
 (nat_lit 281,oC "__init__" "RangeMap.__init__" 561 221 2 3 276 true (.ref 278) (.ref 279) (.ref 280) 566)::
 (nat_lit 282,oD (sc 45 0) "__init__" "RangeMap.__init__" .none (.str "unicore.ranges" 541) 281)::
 (nat_lit 283,oT #[])::
 (nat_lit 284,oF #[])::
 (nat_lit 285,oT #[.str "self" 572,.str "code" 573])::
 (nat_lit 286,oT #[])::
 (nat_lit 287,oK (sc 45 1) "get" "RangeMap.get")::
 (nat_lit 288,oC "get" "RangeMap.get" 569 226 2 3 283 true (.ref 285) (.ref 286) (.ref 287) 574)::
 (nat_lit 289,oD (sc 45 1) "get" "RangeMap.get" .none (.str "unicore.ranges" 541) 288)::
 (nat_lit 290,oT #[])::
 (nat_lit 291,oF #[])::
 (nat_lit 292,oT #[.str "self" 580,.str "first" 581,.str "last" 582,.str "value" 583,.str "low" 584,.str "high" 585,.str "behind" 586,.str "starts" 587,.str "values" 588])::
 (nat_lit 293,oT #[])::
 (nat_lit 294,oK (sc 45 2) "put" "RangeMap.put")::
 (nat_lit 295,oC "put" "RangeMap.put" 577 229 4 3 290 true (.ref 292) (.ref 293) (.ref 294) 589)::
 (nat_lit 296,oD (sc 45 2) "put" "RangeMap.put" .none (.str "unicore.ranges" 541) 295)::
 (nat_lit 297,oT #[])::
 (nat_lit 298,oF #[])::
 (nat_lit 299,oK (sc 45 3) "ranges" "RangeMap.ranges")::
 (nat_lit 300,oC "ranges" "RangeMap.ranges" 592 245 1 3 297 true .none .none (.ref 299) 595)::
 (nat_lit 301,oD (sc 45 3) "ranges" "RangeMap.ranges" .none (.str "unicore.ranges" 541) 300)::
 (nat_lit 302,oT #[])::
 (nat_lit 303,oF #[])::
 (nat_lit 304,oT #[.str "self" 601,.str "value" 602])::
 (nat_lit 305,oT #[])::
 (nat_lit 306,oK (sc 45 4) "set_of" "RangeMap.set_of")::
 (nat_lit 307,oC "set_of" "RangeMap.set_of" 598 248 2 3 302 true (.ref 304) (.ref 305) (.ref 306) 603)::
 (nat_lit 308,oD (sc 45 4) "set_of" "RangeMap.set_of" .none (.str "unicore.ranges" 541) 307)::
 (nat_lit 309,oT #[.str "default" 606,.str "starts" 607,.str "values" 608])::
 (nat_lit 310,⟨.type "dict",none,.dict #[de P "__module__" 556 (.str "unicore.ranges" 541),de P "__firstlineno__" 560 (.int 219 559),de P "__init__" 568 (.ref 282),de P "get" 576 (.ref 289),de P "put" 591 (.ref 296),de P "ranges" 597 (.ref 301),de P "set_of" 605 (.ref 308),de P "__static_attributes__" 609 (.ref 309),de P "__dict__" 611 (.ref 312),de P "__weakref__" 613 (.ref 313),de P "__doc__" 614 .none] 4,#[]⟩)::
 (nat_lit 311,⟨.type "type",none,.cls ⟨"RangeMap",[.type "object"],[.ref 311,.type "object"],310,"RangeMap",true,[],[],false,none,false⟩,#[none,none,some (.str "RangeMap" 549),some (.str "RangeMap" 557),some (.builtin "object.__new__"),some (.bool true)]⟩)::
 (nat_lit 312,⟨.type "getset_descriptor",none,.fields #[.str "__dict__" 610,.ref 311,.builtin "function.__dict__",.builtin "function.__dict__#set"],#[]⟩)::
 (nat_lit 313,⟨.type "getset_descriptor",none,.fields #[.str "__weakref__" 612,.ref 311,.builtin "ExceptionGroup.__weakref__",.none],#[]⟩)::
 (nat_lit 314,⟨.type "super",none,.fields #[.ref 311,.ref 311,.ref 311],#[]⟩)::
 (nat_lit 315,⟨.type "builtin_function_or_method",none,.fields #[.builtin "object.__init_subclass__",.ref 311],#[]⟩)::
 (nat_lit 316,oT #[])::
 (nat_lit 317,oF #[])::
 (nat_lit 318,oT #[.str "range_map" 620,.str "starts" 621,.str "found" 622,.str "at" 623,.str "value" 624,.str "last" 625])::
 (nat_lit 319,oT #[])::
 (nat_lit 320,oK (st 46) "range_rows" "range_rows")::
 (nat_lit 321,oC "range_rows" "range_rows" 617 250 1 3 316 true (.ref 318) (.ref 319) (.ref 320) 626)::
 (nat_lit 322,oD (st 46) "range_rows" "range_rows" .none (.str "unicore.ranges" 541) 321)::
 (nat_lit 323,oT #[])::
 (nat_lit 324,oF #[])::
 (nat_lit 325,oT #[.str "found" 634,.str "name" 635])::
 (nat_lit 326,oT #[])::
 (nat_lit 327,oK (st 48) "data_defaults" "data_defaults")::
 (nat_lit 328,oC "data_defaults" "data_defaults" 631 257 0 3 323 true (.ref 325) (.ref 326) (.ref 327) 636)::
 (nat_lit 329,oD (st 48) "data_defaults" "data_defaults" .none (.str "unicore.data" 629) 328)::
 (nat_lit 330,oT #[])::
 (nat_lit 331,⟨.type "builtin_function_or_method",none,.fields #[.builtin "type.__prepare__",.type "type"],#[]⟩)::
 (nat_lit 332,⟨.type "dict",none,.dict #[de P "__module__" 646 (.str "unicore.data" 629),de P "__qualname__" 648 (.str "Data" 647),de P "__firstlineno__" 650 (.int 269 649),de P "__init__" 657 (.ref 343),de P "put" 668 (.ref 350),de P "get" 677 (.ref 357),de P "map_of" 685 (.ref 364),de P "__static_attributes__" 690 (.ref 365)] 8,#[]⟩)::
 (nat_lit 333,oT #[])::
 (nat_lit 334,oF #[.int 271 0,.int 4 0,.ref 342,.int 277 0,.int 4 0,.ref 349,.int 280 0,.int 4 0,.ref 356,.int 285 0,.int 4 0,.ref 363])::
 (nat_lit 335,oC "Data" "Data" 641 269 0 0 333 false .none .none .none 644)::
 (nat_lit 336,⟨.type "frame",none,.plain,#[some (.ref 335),some (.ref 3),some (.ref 332),none,some (.str "unicore.data" 629),none,some (.ref 0)]⟩)::
 (nat_lit 337,oT #[])::
 (nat_lit 338,oF #[])::
 (nat_lit 339,oT #[.str "self" 654])::
 (nat_lit 340,oT #[])::
 (nat_lit 341,oK (sc 49 0) "__init__" "Data.__init__")::
 (nat_lit 342,oC "__init__" "Data.__init__" 651 271 1 3 337 true (.ref 339) (.ref 340) (.ref 341) 655)::
 (nat_lit 343,oD (sc 49 0) "__init__" "Data.__init__" .none (.str "unicore.data" 629) 342)::
 (nat_lit 344,oT #[])::
 (nat_lit 345,oF #[])::
 (nat_lit 346,oT #[.str "self" 661,.str "name" 662,.str "first" 663,.str "last" 664,.str "value" 665])::
 (nat_lit 347,oT #[])::
 (nat_lit 348,oK (sc 49 1) "put" "Data.put")::
 (nat_lit 349,oC "put" "Data.put" 658 277 5 3 344 true (.ref 346) (.ref 347) (.ref 348) 666)::
 (nat_lit 350,oD (sc 49 1) "put" "Data.put" .none (.str "unicore.data" 629) 349)::
 (nat_lit 351,oT #[])::
 (nat_lit 352,oF #[])::
 (nat_lit 353,oT #[.str "self" 672,.str "name" 673,.str "code" 674])::
 (nat_lit 354,oT #[])::
 (nat_lit 355,oK (sc 49 2) "get" "Data.get")::
 (nat_lit 356,oC "get" "Data.get" 669 280 3 3 351 true (.ref 353) (.ref 354) (.ref 355) 675)::
 (nat_lit 357,oD (sc 49 2) "get" "Data.get" .none (.str "unicore.data" 629) 356)::
 (nat_lit 358,oT #[])::
 (nat_lit 359,oF #[])::
 (nat_lit 360,oT #[.str "self" 681,.str "name" 682])::
 (nat_lit 361,oT #[])::
 (nat_lit 362,oK (sc 49 3) "map_of" "Data.map_of")::
 (nat_lit 363,oC "map_of" "Data.map_of" 678 285 2 3 358 true (.ref 360) (.ref 361) (.ref 362) 683)::
 (nat_lit 364,oD (sc 49 3) "map_of" "Data.map_of" .none (.str "unicore.data" 629) 363)::
 (nat_lit 365,oT #[.str "defaults" 686,.str "maps" 687,.str "properties" 688,.str "words" 689])::
 (nat_lit 366,⟨.type "dict",none,.dict #[de P "__module__" 646 (.str "unicore.data" 629),de P "__firstlineno__" 650 (.int 269 649),de P "__init__" 657 (.ref 343),de P "put" 668 (.ref 350),de P "get" 677 (.ref 357),de P "map_of" 685 (.ref 364),de P "__static_attributes__" 690 (.ref 365),de P "__dict__" 692 (.ref 368),de P "__weakref__" 694 (.ref 369),de P "__doc__" 695 .none] 4,#[]⟩)::
 (nat_lit 367,⟨.type "type",none,.cls ⟨"Data",[.type "object"],[.ref 367,.type "object"],366,"Data",true,[],[],false,none,false⟩,#[none,none,some (.str "Data" 639),some (.str "Data" 647),some (.builtin "object.__new__"),some (.bool true)]⟩)::
 (nat_lit 368,⟨.type "getset_descriptor",none,.fields #[.str "__dict__" 691,.ref 367,.builtin "function.__dict__",.builtin "function.__dict__#set"],#[]⟩)::
 (nat_lit 369,⟨.type "getset_descriptor",none,.fields #[.str "__weakref__" 693,.ref 367,.builtin "ExceptionGroup.__weakref__",.none],#[]⟩)::
 (nat_lit 370,⟨.type "super",none,.fields #[.ref 367,.ref 367,.ref 367],#[]⟩)::
 (nat_lit 371,⟨.type "builtin_function_or_method",none,.fields #[.builtin "object.__init_subclass__",.ref 367],#[]⟩)::
 (nat_lit 372,oT #[.int 9 700,.int 65 701,.int 945 702,.int 65313 703,.int 128512 704,.int 1114109 705])::
 (nat_lit 373,oT #[.none,.bytes #[76,65,84,73,78,32,65] 707,.bytes #[88,45,49,32,79,70,32,84,87,79] 708])::
 (nat_lit 374,oT #[.int 65 711])::
 (nat_lit 375,oT #[.str "" 710,.ref 374])::
 (nat_lit 376,oT #[.int 65 713,.int 768 714])::
 (nat_lit 377,oT #[.str "" 712,.ref 376])::
 (nat_lit 378,oT #[.int 120782 716])::
 (nat_lit 379,oT #[.str "font" 715,.ref 378])::
 (nat_lit 380,oT #[.int 32 718,.int 769 719,.int 1114111 720])::
 (nat_lit 381,oT #[.str "compat" 717,.ref 380])::
 (nat_lit 382,oT #[.none,.ref 375,.ref 377,.ref 379,.ref 381])::
 (nat_lit 383,oT #[.none,.none])::
 (nat_lit 384,oT #[.int 5 723,.int 1 724])::
 (nat_lit 385,oT #[.str "de" 722,.ref 384])::
 (nat_lit 386,oT #[.int 9 726,.int 1 727])::
 (nat_lit 387,oT #[.str "di" 725,.ref 386])::
 (nat_lit 388,oT #[.int 1 729,.int 2 730])::
 (nat_lit 389,oT #[.str "nu" 728,.ref 388])::
 (nat_lit 390,oT #[.int (-1) 733,.int 2 734])::
 (nat_lit 391,oT #[.str "nu" 731,.ref 390])::
 (nat_lit 392,oT #[.int 10000 736,.int 1 737])::
 (nat_lit 393,oT #[.str "nu" 735,.ref 392])::
 (nat_lit 394,oT #[.int 0 739,.int 1 740])::
 (nat_lit 395,oT #[.str "de" 738,.ref 394])::
 (nat_lit 396,oT #[.str "de" 741,.none])::
 (nat_lit 397,oT #[.int 7 742,.int 1 743])::
 (nat_lit 398,oT #[.none,.ref 397])::
 (nat_lit 399,oT #[.int 1 745,.int 2 746])::
 (nat_lit 400,oT #[.str "de" 744,.ref 399])::
 (nat_lit 401,oT #[.int (-3) 749,.int 4 750])::
 (nat_lit 402,oT #[.str "di" 747,.ref 401])::
 (nat_lit 403,oT #[.ref 383,.ref 385,.ref 387,.ref 389,.ref 391,.ref 393,.ref 395,.ref 396,.ref 398,.ref 400,.ref 402])::
 (nat_lit 404,oT #[.none,.int 65 752,.int 233 753,.int 125184 754])::
 (nat_lit 405,oT #[.int 65 756,.int 65 757])::
 (nat_lit 406,oT #[.int 97 758,.int 122 759])::
 (nat_lit 407,oT #[.int 0 760,.int 31 761])::
 (nat_lit 408,oT #[.int 1114110 762,.int 1114111 763])::
 (nat_lit 409,oT #[.int 945 764,.int 969 765])::
 (nat_lit 410,oT #[.ref 405,.ref 406,.ref 407,.ref 408,.ref 409])::
 (nat_lit 411,oT #[])::
 (nat_lit 412,oF #[])::
 (nat_lit 413,oT #[])::
 (nat_lit 414,oT #[])::
 (nat_lit 415,oK (st 57) "_law_spelt" "_law_spelt")::
 (nat_lit 416,oC "_law_spelt" "_law_spelt" 767 296 0 3 411 true (.ref 413) (.ref 414) (.ref 415) 770)::
 (nat_lit 417,oD (st 57) "_law_spelt" "_law_spelt" .none (.str "law_pq1306_01" 698) 416)::
 (nat_lit 418,oT #[])::
 (nat_lit 419,oF #[])::
 (nat_lit 420,oT #[.str "well" 776,.str "below" 777,.str "cells" 778,.str "spot" 779])::
 (nat_lit 421,oT #[])::
 (nat_lit 422,oK (st 58) "_law_draw" "_law_draw")::
 (nat_lit 423,oC "_law_draw" "_law_draw" 773 298 2 3 418 true (.ref 420) (.ref 421) (.ref 422) 780)::
 (nat_lit 424,oD (st 58) "_law_draw" "_law_draw" .none (.str "law_pq1306_01" 698) 423)::
 (nat_lit 425,oT #[])::
 (nat_lit 426,oF #[])::
 (nat_lit 427,oT #[.str "well" 786,.str "some" 787])::
 (nat_lit 428,oT #[])::
 (nat_lit 429,oK (st 59) "_law_pick" "_law_pick")::
 (nat_lit 430,oC "_law_pick" "_law_pick" 783 302 2 3 425 true (.ref 427) (.ref 428) (.ref 429) 788)::
 (nat_lit 431,oD (st 59) "_law_pick" "_law_pick" .none (.str "law_pq1306_01" 698) 430)::
 (nat_lit 432,oT #[])::
 (nat_lit 433,oF #[])::
 (nat_lit 434,oT #[.str "code" 794,.str "told" 795])::
 (nat_lit 435,oT #[])::
 (nat_lit 436,oK (st 60) "_law_hex" "_law_hex")::
 (nat_lit 437,oC "_law_hex" "_law_hex" 791 304 1 3 432 true (.ref 434) (.ref 435) (.ref 436) 796)::
 (nat_lit 438,oD (st 60) "_law_hex" "_law_hex" .none (.str "law_pq1306_01" 698) 437)::
 (nat_lit 439,oT #[])::
 (nat_lit 440,oF #[])::
 (nat_lit 441,oT #[.str "code" 802])::
 (nat_lit 442,oT #[])::
 (nat_lit 443,oK (st 61) "_law_code" "_law_code")::
 (nat_lit 444,oC "_law_code" "_law_code" 799 310 1 3 439 true (.ref 441) (.ref 442) (.ref 443) 803)::
 (nat_lit 445,oD (st 61) "_law_code" "_law_code" .none (.str "law_pq1306_01" 698) 444)::
 (nat_lit 446,oT #[])::
 (nat_lit 447,oF #[])::
 (nat_lit 448,oK (st 62) "_law_mapping" "_law_mapping")::
 (nat_lit 449,oC "_law_mapping" "_law_mapping" 806 312 1 3 446 true .none .none (.ref 448) 809)::
 (nat_lit 450,oD (st 62) "_law_mapping" "_law_mapping" .none (.str "law_pq1306_01" 698) 449)::
 (nat_lit 451,oT #[])::
 (nat_lit 452,oF #[])::
 (nat_lit 453,oT #[.str "sort" 815,.str "worth" 816,.str "figure" 817])::
 (nat_lit 454,oT #[])::
 (nat_lit 455,oK (st 63) "_law_number" "_law_number")::
 (nat_lit 456,oC "_law_number" "_law_number" 812 316 2 3 451 true (.ref 453) (.ref 454) (.ref 455) 818)::
 (nat_lit 457,oD (st 63) "_law_number" "_law_number" .none (.str "law_pq1306_01" 698) 456)::
 (nat_lit 458,oT #[])::
 (nat_lit 459,oF #[])::
 (nat_lit 460,oK (st 64) "_law_told_code" "_law_told_code")::
 (nat_lit 461,oC "_law_told_code" "_law_told_code" 821 321 3 3 458 true .none .none (.ref 460) 824)::
 (nat_lit 462,oD (st 64) "_law_told_code" "_law_told_code" .none (.str "law_pq1306_01" 698) 461)::
 (nat_lit 463,oT #[])::
 (nat_lit 464,oF #[])::
 (nat_lit 465,oK (st 65) "_law_rows_right" "_law_rows_right")::
 (nat_lit 466,oC "_law_rows_right" "_law_rows_right" 827 335 1 3 463 true .none .none (.ref 465) 830)::
 (nat_lit 467,oD (st 65) "_law_rows_right" "_law_rows_right" .none (.str "law_pq1306_01" 698) 466)::
 (nat_lit 468,oT #[])::
 (nat_lit 469,oF #[])::
 (nat_lit 470,oK (st 66) "_law_line" "_law_line")::
 (nat_lit 471,oC "_law_line" "_law_line" 833 344 3 3 468 true .none .none (.ref 470) 836)::
 (nat_lit 472,oD (st 66) "_law_line" "_law_line" .none (.str "law_pq1306_01" 698) 471)::
 (nat_lit 473,oT #[])::
 (nat_lit 474,oF #[])::
 (nat_lit 475,oK (st 67) "_law_property_right" "_law_property_right")::
 (nat_lit 476,oC "_law_property_right" "_law_property_right" 839 347 1 3 473 true .none .none (.ref 475) 842)::
 (nat_lit 477,oD (st 67) "_law_property_right" "_law_property_right" .none (.str "law_pq1306_01" 698) 476)::
 (nat_lit 478,oT #[])::
 (nat_lit 479,oF #[])::
 (nat_lit 480,oT #[.str "well" 848,.str "sets" 849,.str "due" 850,.str "turn" 851,.str "word" 852,.str "spans" 853,.str "again" 854])::
 (nat_lit 481,oT #[])::
 (nat_lit 482,oK (st 68) "_law_truths_right" "_law_truths_right")::
 (nat_lit 483,oC "_law_truths_right" "_law_truths_right" 845 369 1 3 478 true (.ref 480) (.ref 481) (.ref 482) 855)::
 (nat_lit 484,oD (st 68) "_law_truths_right" "_law_truths_right" .none (.str "law_pq1306_01" 698) 483)::
 (nat_lit 485,oT #[])::
 (nat_lit 486,oF #[])::
 (nat_lit 487,oK (st 69) "law" "law")::
 (nat_lit 488,oC "law" "law" 858 378 1 3 485 true .none .none (.ref 487) 861)::
 (nat_lit 489,oD (st 69) "law" "law" .none (.str "law_pq1306_01" 698) 488)::[]
noncomputable def hd.as:List Addr:=2::3::(List.range 490).drop 11
noncomputable def hd.os (P:Params):List Obj:=(hd.heap_39 P).map (·.2)
noncomputable def hd.hp (P:Params) (a b:Obj) (r:List Obj):Heap:=⟨⟨boot_o_0 P::boot_o_1 P::a::b::boot_o_4 P::boot_o_5 P::boot_o_6 P::boot_o_7 P::boot_o_8 P::boot_o_9 P::boot_o_10 P::r⟩,{}⟩
noncomputable def hd.top (P:Params):Heap:=hd.hp P ((hd.os P).getD 0 default) ((hd.os P).getD 1 default) ((hd.os P).drop 2)
noncomputable def hd.mid (k j m:Nat) (x:Str) (t:Tok) (P:Params):Heap:=hd.hp P ((hd.os P).getD 0 default) { (hd.os P).getD 1 default with data:=.dict ⟨de P "__name__" 165 (.str x t)::((esO ((hd.os P).getD 1 default)).drop 1).take j⟩ (j+1) } ((hd.os P).getD 2 default::{ (hd.os P).getD 3 default with data:=.fields ⟨(fsO ((hd.os P).getD 3 default)).take m⟩ }::((hd.os P).drop 4).take k)
noncomputable def hd.bot (P:Params):Heap:=hd.hp P (boot_o_2 P) (boot_o_3 P) ((hd.os P).getD 2 default::oF #[]::((hd.os P).drop 4).take 2)
noncomputable def hd.q:Pos:=⟨0,0,0,0⟩
noncomputable def hd.b:List Stmt:=behindTheImports PySem.Challenge.pw_pq1306_01
noncomputable def hd.env:Env:={ scope:=PySem.Challenge.pw_pq1306_01.main.scope,locals:=mainNs,globals:=mainNs,cells:=[],code:=.ref 13,frame:=some 14 }
noncomputable abbrev hd.c:Code:=.body hd.b hd.env
noncomputable abbrev hd.sh (h:Heap) (k:Nat) (os:OsState):Shared:=⟨h,⟨[]⟩,{},k,os⟩
noncomputable abbrev hd.go (w:World) (n:Nat) (s:Shared) (l:List Stmt) (p:Pos):Option (Flow×Shared×Code×Pos):=segRun treeTable PySem.Challenge.pw_pq1306_01 w 11 (some (.ref 6)) 1 n s (piecesOf l hd.env hd.c p [topFrame hd.q])
theorem hd.run0 (w:World) (os:OsState):topGo treeTable PySem.Challenge.pw_pq1306_01 w 11 (some (.ref 6)) 12 ⟨boot_heap w.params,⟨[]⟩,boot_drawn,boot_toks,os⟩ (topStub PySem.Challenge.pw_pq1306_01)=some (hd.sh (hd.bot w.params) 187 os,⟨denote treeTable hd.c,hd.c,hd.q,[topFrame hd.q]⟩):=by kernel_rfl
theorem hd.run1 (w:World) (os:OsState):segRun treeTable PySem.Challenge.pw_pq1306_01 w 11 (some (.ref 6)) 1 1 (hd.sh (hd.bot w.params) 187 os) (blockOf hd.b hd.env hd.c hd.q [topFrame hd.q])=some (.next,hd.sh (hd.bot w.params) 187 os,hd.c,hd.q):=by kernel_rfl
theorem hd.go0 (w:World) (os:OsState):hd.go w 800 (hd.sh (hd.bot w.params) 187 os) (hd.b.take 10) hd.q=some (.next,hd.sh (hd.mid 59 17 15 "unicore.base" 194 w.params) 271 os,hd.c,⟨17,0,18,40⟩):=by kernel_rfl
theorem hd.go10 (w:World) (os:OsState):hd.go w 600 (hd.sh (hd.mid 59 17 15 "unicore.base" 194 w.params) 271 os) ((hd.b.drop 10).take 20) ⟨17,0,18,40⟩=some (.next,hd.sh (hd.mid 166 36 63 "unicore.ucdrows" 332 w.params) 423 os,hd.c,⟨136,0,143,16⟩):=by kernel_rfl
theorem hd.go30 (w:World) (os:OsState):hd.go w 500 (hd.sh (hd.mid 166 36 63 "unicore.ucdrows" 332 w.params) 423 os) ((hd.b.drop 30).take 15) ⟨136,0,143,16⟩=some (.next,hd.sh (hd.mid 256 50 105 "unicore.ranges" 541 w.params) 549 os,hd.c,⟨215,0,218,76⟩):=by kernel_rfl
theorem hd.go45 (w:World) (os:OsState):hd.go w 400 (hd.sh (hd.mid 256 50 105 "unicore.ranges" 541 w.params) 549 os) ((hd.b.drop 45).take 1) ⟨215,0,218,76⟩=some (.next,hd.sh (hd.mid 303 51 108 "unicore.ranges" 541 w.params) 617 os,hd.c,⟨219,0,249,16⟩):=by kernel_rfl
theorem hd.go46 (w:World) (os:OsState):hd.go w 100 (hd.sh (hd.mid 303 51 108 "unicore.ranges" 541 w.params) 617 os) ((hd.b.drop 46).take 3) ⟨219,0,249,16⟩=some (.next,hd.sh (hd.mid 317 53 114 "unicore.data" 629 w.params) 639 os,hd.c,⟨257,0,268,16⟩):=by kernel_rfl
theorem hd.go49 (w:World) (os:OsState):hd.go w 400 (hd.sh (hd.mid 317 53 114 "unicore.data" 629 w.params) 639 os) ((hd.b.drop 49).take 1) ⟨257,0,268,16⟩=some (.next,hd.sh (hd.mid 359 54 117 "unicore.data" 629 w.params) 698 os,hd.c,⟨269,0,288,30⟩):=by kernel_rfl
theorem hd.go50 (w:World) (os:OsState):hd.go w 600 (hd.sh (hd.mid 359 54 117 "unicore.data" 629 w.params) 698 os) (hd.b.drop 50) ⟨269,0,288,30⟩=some (.next,hd.sh (hd.top w.params) 864 os,hd.c,⟨378,0,380,90⟩):=by kernel_rfl
theorem hd.run5 (w:World) (os:OsState):topRun treeTable PySem.Challenge.pw_pq1306_01 w 11 (some (.ref 6)) 2 (hd.sh (hd.top w.params) 864 os) (restOf [] hd.env hd.c ⟨378,0,380,90⟩ [topFrame hd.q])=some (hd.sh (hd.top w.params) 864 os):=by kernel_rfl
theorem hd.run6:(hd.b.take 10)++(((hd.b.drop 10).take 20)++(((hd.b.drop 30).take 15)++(((hd.b.drop 45).take 1)++(((hd.b.drop 46).take 3)++(((hd.b.drop 49).take 1)++((hd.b.drop 50)++[]))))))=hd.b:=by kernel_rfl
theorem hd.run (w:World) (os:OsState):topRun treeTable PySem.Challenge.pw_pq1306_01 w 11 (some (.ref 6)) 3415 ⟨boot_heap w.params,⟨[]⟩,boot_drawn,boot_toks,os⟩ (topStub PySem.Challenge.pw_pq1306_01)=some (hd.sh (hd.top w.params) 864 os):=
 go_top (n:=12) (N:=3403) (hd.run0 w os) (piece_block (n:=1) (N:=3402) (hd.run1 w os)
  ((congrArg (fun l=>topRun treeTable PySem.Challenge.pw_pq1306_01 w 11 (some (.ref 6)) 3402 (hd.sh (hd.bot w.params) 187 os) (restOf l hd.env hd.c hd.q [topFrame hd.q])) hd.run6).symm.trans
    (piece_app (n:=800) (N:=2602) (hd.go0 w os) (piece_app (n:=600) (N:=2002) (hd.go10 w os) (piece_app (n:=500) (N:=1502) (hd.go30 w os) (piece_app (n:=400) (N:=1102) (hd.go45 w os) (piece_app (n:=100) (N:=1002) (hd.go46 w os) (piece_app (n:=400) (N:=602) (hd.go49 w os) (piece_app (n:=600) (N:=2) (hd.go50 w os) (hd.run5 w os))))))))))
noncomputable abbrev hd.loose:List Str:=[Str.ofString "UniError",Str.ofString "range_of",Str.ofString "read_property",Str.ofString "property_octets"]
noncomputable abbrev hd.H:Hook:=kHook hd.heap_39 hd.as (fun _=>by kernel_rfl)
theorem hd.look1 (w:World) (os:OsState):(staticsOk (importedModules PySem.Challenge.pw_pq1306_01.main.body) (boot_heap w.params) (hd.top w.params)&&namesBound PySem.Challenge.pw_pq1306_01 (hd.top w.params)&&gensDone (hd.sh (hd.top w.params) 864 os)&&laidKept (boot_heap w.params) (hd.top w.params))=true:=by kernel_rfl
theorem hd.look2 (w:World) (os:OsState):openSeen hd.view_39 hd.loose (importedModules PySem.Challenge.pw_pq1306_01.main.body) (fun s=>xlAt hd.view_39 [] s&&recOk PySem.Challenge.rw_pq1306_01.row.records s) true (hd.sh (hd.top w.params) 864 os)=openGood hd.view_39 hd.loose:=by kernel_rfl
theorem hd.look3 (w:World) (os:OsState):Hook.obs hd.H (hd.sh (hd.top w.params) 864 os)=Hook.val hd.H w:=by kernel_rfl
theorem hd.looks (w:World):(fun os:OsState=>((staticsOk (importedModules PySem.Challenge.pw_pq1306_01.main.body) (boot_heap w.params) (hd.top w.params)&&namesBound PySem.Challenge.pw_pq1306_01 (hd.top w.params)&&gensDone (hd.sh (hd.top w.params) 864 os)&&laidKept (boot_heap w.params) (hd.top w.params)),openSeen hd.view_39 hd.loose (importedModules PySem.Challenge.pw_pq1306_01.main.body) (fun s=>xlAt hd.view_39 [] s&&recOk PySem.Challenge.rw_pq1306_01.row.records s) true (hd.sh (hd.top w.params) 864 os),Hook.obs hd.H (hd.sh (hd.top w.params) 864 os)))=fun _=>(true,openGood hd.view_39 hd.loose,Hook.val hd.H w):=
 funext fun os=>congr (congrArg Prod.mk (hd.look1 w os)) (congr (congrArg Prod.mk (hd.look2 w os)) (hd.look3 w os))
theorem hd.left:LeftO PySem.Challenge.rw_pq1306_01.row.toRowW.prog hd.view_39 hd.loose (fun s=>xlAt hd.view_39 [] s&&recOk PySem.Challenge.rw_pq1306_01.row.records s) (Hook.obs hd.H) (Hook.val hd.H) 6210 true:=
 LeftO.of_pieces (boot_open (by kernel_rfl) (by decide) (fun s=>by kernel_rfl)) (m₀:=11) (ann:=some (.ref 6)) (M:=3415) (fun w=>by kernel_rfl) hd.run (by decide) hd.looks
theorem hd.said:PySem.Challenge.rw_pq1306_01.wellSaid=true:=by
 refine look_both ?_ (by kernel_rfl)
 refine look_both ?_ (by decide+kernel)
 iterate 6 refine look_both ?_ (by kernel_rfl)
 refine look_both ?_ (by decide+kernel)
 iterate 3 refine look_both ?_ (by kernel_rfl)
 refine look_both ?_ (by decide+kernel)
 iterate 20 refine look_both ?_ (by kernel_rfl)
 iterate 2 refine look_both ?_ (by decide+kernel)
 refine look_both ?_ (by kernel_rfl)
 refine look_both ?_ (by decide+kernel)
 kernel_rfl
theorem hd {d:DefRec} {kwd:List (Str×Expr)} (e:defOf hd.view_39 PySem.Challenge.rw_pq1306_01.row.name=some (d,kwd)) (e1:PySem.Challenge.rw_pq1306_01.row.prog.theDef PySem.Challenge.rw_pq1306_01.row.name=some (d.params,d.body,d.scope)) (e2:kwWritten? d.params.kwonlyargs d.params.kw_defaults=some kwd)
  (h:WalkO hd.view_39 hd.loose (XL hd.view_39 []) (Hook.says hd.H) PySem.Challenge.rw_pq1306_01.row.toRowW d kwd fun f vs=>PySem.call f vs):PySem.Challenge.rw_pq1306_01.Holds:=
 holds_law hd.said fun said=>holds_open (q:=hd.view_39) (loose:=hd.loose) (Xt:=fun s=>xlAt hd.view_39 [] s&&recOk PySem.Challenge.rw_pq1306_01.row.records s) (XP:=XL hd.view_39 []) (Yf:=Hook.obs hd.H) (Ya:=Hook.val hd.H) (YP:=Hook.says hd.H) (N:=6210) hd.left (Hook.of hd.H) (Hook.keeps hd.H)
  (fun s e=>xl_of s (Bool.and_eq_true_iff.mp e).1) XL.keeps e e1 e2 (fun s e=>recFacts_of (Bool.and_eq_true_iff.mp e).2) (by kernel_rfl) said (by decide+kernel) ⟨rfl,rfl,rfl,rfl,rfl,by decide+kernel⟩ ⟨[.list []],by decide+kernel,by decide+kernel⟩ h
end
end Mine.Internal
local macro_rules | `(tactic| omega) => `(tactic| lia)
theorem Mine.Internal.fill_one:(fun (_:OpenLaw) (_:Params→Frag)=>True) PySem.Challenge.rw_pq1306_01 Mine.Internal.hd.heap_39:=by k_fill;trivial
namespace Mine.Internal
section
set_option tactic.hygienic false
noncomputable abbrev PG:Program:=PySem.Challenge.pw_pq1306_01
noncomputable abbrev VW:Program:=hd.view_39
noncomputable abbrev LO:List Str:=looseW VW [Str.ofString "UniError",Str.ofString "range_of",Str.ofString "read_property",Str.ofString "property_octets"]
noncomputable abbrev Led:=List (Addr×Obj)
theorem news_sub {h₀ h:Heap} {L:Addr} {l l':Led} (N:News h₀ L h l) (s:∀ p∈l',p∈l):News h₀ L h l':=fun p hp=>N p (s p hp)
set_option tactic.hygienic true
noncomputable def Halt (P:Prop):Prop:=P
set_option tactic.hygienic false
theorem Halt.mk {P:Prop} (h:Halt P):P:=h
noncomputable def CC (w:World) (f:Addr) (vs:List Value) (D:Nat) (news:Led) (R:Value→Led→Prop):Prop:=
 ∀ (mean:ExcName→Option Value) (mg mb:Str→Option Value) (dp un:Nat) (gd:Option (List Code)) (cn:Str) (cs:Scope) (a:Addr) (ccd:Value) (cl:List (Str×Addr)) (outer:List Env) (A₀:Around) (base h₀:Heap) (L:Addr) (m:Str→Option Value) (s:Shared) (Q E:Value→Shared→Prop),
   Below A₀ base outer h₀→Fr h₀ L s.heap m→(hd.heap_39 w.params).In h₀→News h₀ L s.heap news→Top VW LO mean mg mb h₀→cs.kind= .function→dp+D<recursionLimit→un+10*D<cLine→
   (∀ v news' h' tk',R v news'→Fr h₀ L h' m→News h₀ L h' news'→Q v { s with heap:=h',toks:=tk' })→
   wpAny (model PG w) (ktrTop dp un gd cn cs L a ccd cl outer) (call (.ref f) vs) Q E s
set_option tactic.hygienic true
section
variable {w:World} {f:Addr} {vs:List Value} {D:Nat} {news news₀:Led} {R:Value→Led→Prop} {mean:ExcName→Option Value} {mg mb:Str→Option Value} {dp un:Nat} {gd:Option (List Code)} {cn:Str} {cs:Scope} {a:Addr} {ccd:Value} {cl:List (Str×Addr)} {outer:List Env} {A₀:Around} {base h₀:Heap} {L:Addr} {m:Str→Option Value} {s:Shared} {Q E:Value→Shared→Prop}
set_option tactic.hygienic false
theorem CC.use
 (B:Below A₀ base outer h₀) (F:Fr h₀ L s.heap m) (X:(hd.heap_39 w.params).In h₀) (N:News h₀ L s.heap news) (T:Top VW LO mean mg mb h₀) (hk:cs.kind= .function) (C:CC w f vs D news R) (hd:dp+D<recursionLimit) (hu:un+10*D<cLine)
 (ret:∀ v news' h' tk',R v news'→Fr h₀ L h' m→News h₀ L h' news'→Q v { s with heap:=h',toks:=tk' }):
 wpAny (model PG w) (ktrTop dp un gd cn cs L a ccd cl outer) (call (.ref f) vs) Q E s:=C _ _ _ _ _ _ _ _ _ _ _ _ _ _ _ _ _ _ _ _ B F X N T hk hd hu ret
set_option tactic.hygienic true
end
end
section
section
variable {w:World} {A:Around} {E:Value→Shared→Prop} {s:Shared} {h₀:Heap} {L l:Addr} {news:Led} {vs:List Value} {ns:List Int} {k:Nat} {Q:Value→Shared→Prop}
set_option tactic.hygienic false
theorem lm_list (N:News h₀ L s.heap news) (hm:(l,listOf vs.toArray k)∈news):s.heap.IsList l vs.toArray:=News.isList N hm
theorem pick_take {l:List Value} {i:Int} (h0:0≤i) (h1:i≤l.length):kms_pick l none (some i)=l.take i.toNat:=by
 unfold kms_pick kms_lo kms_hi
 simp only [List.drop_zero,Nat.sub_zero,if_neg (Int.not_lt.mpr h0)]
 rw [Nat.min_eq_left (by omega)]
theorem pick_drop {l:List Value} {i:Int} (h0:0≤i) (h1:i≤l.length):kms_pick l (some i) none=l.drop i.toNat:=by
 unfold kms_pick kms_lo kms_hi
 simp only [if_neg (Int.not_lt.mpr h0)]
 rw [Nat.min_eq_left (by omega),List.take_of_length_le (by rw [List.length_drop];omega)]
theorem lm_take {value slice:Expr} {i:Int} {u:Tok} {m:Str→Option Value} (F:Fr h₀ L s.heap m) (N:News h₀ L s.heap news) (hm:(l,listOf vs.toArray k)∈news) (hz:(vs.length:Int)≤16777216) (h0:0≤i) (h1:i≤vs.length)
  (h:∀ D h',Fr h₀ L h' m→News h₀ L h' ((D,listOf (vs.take i.toNat).toArray 0)::news)→(∀ p∈news,p.1<D)→Q (.ref D) { s with heap:=h' })
  (hs:subscripted slice false (.ref l) (.ref s.heap.objs.size)=operate [.ref s.heap.objs.size,.ref l] (getItem (.ref l) (.ref s.heap.objs.size)):=by with_unfolding_all rfl) (ht:∀ r,letTemporaryGo value (.ref l) r=pure ():=by intro _;with_unfolding_all rfl):
  wpAny (model PG w) A (subscriptTail value slice (.ref l) (.ref s.heap.objs.size)) Q E { s with heap:=s.heap.push { cls:=.type "slice",data:=.fields #[.none,.int i u,.none] } }:=
 kms_slice_lit F N (lm_list N hm) .none (.int i u) (pick_take h0 (by simpa using h1)) h hs ht (by rw [sizeLine_eq,List.size_toArray];omega)
theorem lm_drop {value slice:Expr} {i:Int} {u:Tok} {m:Str→Option Value} (F:Fr h₀ L s.heap m) (N:News h₀ L s.heap news) (hm:(l,listOf vs.toArray k)∈news) (hz:(vs.length:Int)≤16777216) (h0:0≤i) (h1:i≤vs.length)
  (h:∀ D h',Fr h₀ L h' m→News h₀ L h' ((D,listOf (vs.drop i.toNat).toArray 0)::news)→(∀ p∈news,p.1<D)→Q (.ref D) { s with heap:=h' })
  (hs:subscripted slice false (.ref l) (.ref s.heap.objs.size)=operate [.ref s.heap.objs.size,.ref l] (getItem (.ref l) (.ref s.heap.objs.size)):=by with_unfolding_all rfl) (ht:∀ r,letTemporaryGo value (.ref l) r=pure ():=by intro _;with_unfolding_all rfl):
  wpAny (model PG w) A (subscriptTail value slice (.ref l) (.ref s.heap.objs.size)) Q E { s with heap:=s.heap.push { cls:=.type "slice",data:=.fields #[.int i u,.none,.none] } }:=
 kms_slice_lit F N (lm_list N hm) (.int i u) .none (pick_drop h0 (by simpa using h1)) h hs ht (by rw [sizeLine_eq,List.size_toArray];omega)
set_option tactic.hygienic true
end
end
section
set_option tactic.hygienic false
noncomputable def hdig (d:Int):Int:=if d<10 then 48+d else 55+d
noncomputable def dg:Nat→Int→Nat→List Int
 |0,_,_=>[]
 |f+1,rest,len=>if 0<rest∨len<4 then hdig (rest % 16)::dg f (rest / 16) (len+1) else []
noncomputable def hexB (n:Int):Array UInt8:=byteArr (dg 8 n 0).reverse
theorem hdig_in (r:Int):48≤hdig (r % 16)∧hdig (r % 16)<71:=by
 unfold hdig
 have:=Int.emod_nonneg r (by decide:(16:Int)≠0)
 have:=Int.emod_lt_of_pos r (by decide:(0:Int)<16)
 split<;>omega
theorem fdiv16 (r:Int):r.fdiv (2 ^ Int.toNat 4)=r / 16:=Int.fdiv_eq_ediv_of_nonneg r (by decide)
end
section
namespace RB
open Builtin
section
variable {b sub:Array UInt8} {t u:Tok}
set_option tactic.hygienic false
noncomputable def findI (b sub:Array UInt8):Int:=match (if ((b.size:Int) - 0:Int)<(sub.size:Int) then none else Bytes.find? b sub 0 b.size) with|some i=>(i:Int)|none=> -1
theorem like_eq {id:String}:Bytes.bytesLike id (.bytes b t)=pure b:=by
 unfold Bytes.bytesLike
 rw [KBy.buffer_eq]
 rfl
theorem window_eq (n:Nat):Bytes.window n none none=(0,(n:Int)):=by
 unfold Bytes.window
 simp
 omega
theorem gives_find:Gives («bytes.find» ⟨[.bytes b t,.bytes sub u],[]⟩) (.int (findI b sub)):=by
 refine .of_wp fun M A E s Q hq=>?_
 show wpAny M A (Bytes.searchArgs .bytes "find" ⟨[.bytes b t,.bytes sub u],[]⟩>>=fun r=>_) _ E s
 refine wpAny_bind ?_
 unfold Bytes.searchArgs
 refine wpAny_bind (wpAny_of_eq (a:=(.bytes b t,[.bytes sub u])) rfl ?_)
 refine wpAny_bind (wpAny_of_eq (a:=none) rfl ?_)
 refine wpAny_bind (wpAny_of_eq (a:=none) rfl ?_)
 refine wpAny_bind (wpAny_of_eq (a:=some sub) KBy.buffer_eq ?_)
 refine wpAny_bind (wpAny_pure ?_)
 refine wpAny_bind (wpAny_of_eq (a:=b) rfl ?_)
 rw [window_eq]
 refine wpAny_pure ?_
 unfold findI at hq
 dsimp only
 by_cases hc:((b.size:Int) - 0:Int)<(sub.size:Int)
 ·simp only [if_pos hc] at hq ⊢
  show wpAny M A (rule _>>=fun zq=>mkInt (-1:Int)>>=fun v=>ret v) _ E s
  exact wpAny_bind (wpAny_rule (wpAny_bind (wpAny_mkInt (wpAny_pure ⟨_,rfl,hq⟩))))
 ·simp only [if_neg hc] at hq ⊢
  simp only [Option.bind_some,Bool.false_eq_true,if_false] at hq ⊢
  rw [show ((0:Int).toNat)=0 from rfl,Int.toNat_natCast]
  cases hf:Bytes.find? b sub 0 b.size with
  |some i=>
   rw [hf] at hq
   show wpAny M A (mkInt (i:Int)>>=fun v=>ret v) _ E s
   exact wpAny_bind (wpAny_mkInt (wpAny_pure ⟨_,rfl,hq⟩))
  |none=>
   rw [hf] at hq
   show wpAny M A (rule _>>=fun zq=>mkInt (-1:Int)>>=fun v=>ret v) _ E s
   exact wpAny_bind (wpAny_rule (wpAny_bind (wpAny_mkInt (wpAny_pure ⟨_,rfl,hq⟩))))
theorem isInstance_tuple:isInstance (.bytes b t) (.type "tuple")=pure false:=by
 have e:isInstance (.bytes b t) (.type "tuple")=isSubtype (.type "bytes") (.type "tuple"):=rfl
 rw [e,isSubtype_type];kernel_rfl
noncomputable def startsB (b sub:Array UInt8):Bool:=if ((b.size:Int) - 0:Int)<(sub.size:Int) then false else b.extract 0 (0+sub.size)==sub
theorem gives_startswith:Gives («bytes.startswith» ⟨[.bytes b t,.bytes sub u],[]⟩) (.val (.bool (startsB b sub))):=by
 refine .of_wp fun M A E s Q hq=>?_
 show wpAny M A (Bytes.tailMatchM .bytes "startswith" false ⟨[.bytes b t,.bytes sub u],[]⟩) _ E s
 unfold Bytes.tailMatchM
 refine wpAny_bind (wpAny_of_eq (a:=(.bytes b t,[.bytes sub u])) rfl ?_)
 refine wpAny_bind (wpAny_of_eq (a:=none) rfl ?_)
 refine wpAny_bind (wpAny_of_eq (a:=none) rfl ?_)
 refine wpAny_bind (wpAny_of_eq (a:=b) rfl ?_)
 rw [window_eq]
 refine wpAny_bind (wpAny_of_eq (a:=false) isInstance_tuple ?_)
 simp only [Bool.false_eq_true,if_false]
 refine wpAny_bind (wpAny_of_eq (a:=some sub) KBy.buffer_eq ?_)
 exact wpAny_pure ⟨_,rfl,hq⟩
noncomputable def stripL (set:Array UInt8) (l:List UInt8):List UInt8:=((l.dropWhile set.contains).reverse.dropWhile set.contains).reverse
theorem dropWhile_len_le {α:Type} (p:α→Bool):∀ l:List α,(l.dropWhile p).length≤l.length
 |[]=>Nat.le_refl _
 |x::l=>by
  rw [List.dropWhile_cons]
  split
  ·exact Nat.le_succ_of_le (dropWhile_len_le p l)
  ·exact Nat.le_refl _
set_option tactic.hygienic true
theorem dropWhile_len_eq {α:Type} (p:α→Bool):∀ l:List α,(l.dropWhile p).length=l.length→l.dropWhile p=l
 |[],_=>rfl
 |x::l,h=>by
  rw [List.dropWhile_cons] at h ⊢
  split at h
  ·have:=dropWhile_len_le p l
   simp only [List.length_cons] at h
   omega
  ·rename_i h'
   rw [if_neg h']
set_option tactic.hygienic false
theorem stripL_len (set:Array UInt8) (l:List UInt8):(stripL set l).length≤l.length:=by
 unfold stripL
 rw [List.length_reverse]
 refine Nat.le_trans (dropWhile_len_le _ _) ?_
 rw [List.length_reverse]
 exact dropWhile_len_le _ _
theorem stripL_eq (set:Array UInt8) (l:List UInt8) (h:(stripL set l).length=l.length):stripL set l=l:=by
 unfold stripL at h ⊢
 rw [List.length_reverse] at h
 have h1:=dropWhile_len_le set.contains l
 have h2:=dropWhile_len_le set.contains (l.dropWhile set.contains).reverse
 rw [List.length_reverse] at h2
 have e1:=dropWhile_len_eq set.contains l (by omega)
 rw [e1] at h ⊢
 have e2:=dropWhile_len_eq set.contains l.reverse (by rw [List.length_reverse];exact h)
 rw [e2,List.reverse_reverse]
theorem meets_strip:Meets («bytes.strip» ⟨[.bytes b t,.bytes sub u],[]⟩) (fun zq R s=>b.size≤sizeLine∧∀ t' k,R (.ok (.ret (.bytes (stripL sub b.toList).toArray t'))) { s with toks:=k }):=by
 refine .of_wp fun prog w A R s hS=>?_
 obtain ⟨hsz,h⟩:=hS
 show wpAny _ _ (Bytes.stripM .bytes "strip" true true ⟨[.bytes b t,.bytes sub u],[]⟩) _ _ s
 unfold Bytes.stripM
 refine wpAny_bind (wpAny_of_eq (a:=(.bytes b t,[.bytes sub u])) rfl ?_)
 refine wpAny_bind (wpAny_of_eq (a:=sub) like_eq ?_)
 refine wpAny_bind (wpAny_pure ?_)
 refine wpAny_bind (wpAny_of_eq (a:=b) rfl ?_)
 simp only [if_true]
 show wpAny _ _ (if ((stripL sub b.toList).length==b.size)=true then _ else _) _ _ s
 by_cases hc:(stripL sub b.toList).length=b.size
 ·have e:((stripL sub b.toList).length==b.size)=true:=beq_iff_eq.mpr hc
  rw [if_pos e]
  refine wpAny_bind (wpAny_rule ?_)
  refine wpAny_bind (wpAny_of_eq (a:=.bytes b t) (by rfl) ?_)
  refine wpAny_pure ⟨_,rfl,?_⟩
  have e2:(stripL sub b.toList).toArray=b:=by
   rw [stripL_eq sub b.toList (by rw [hc,Array.length_toList])]
  rw [←e2]
  exact h t s.toks
 ·have e: ¬((stripL sub b.toList).length==b.size)=true:=fun q=>hc (beq_iff_eq.mp q)
  rw [if_neg e]
  have hl:(stripL sub b.toList).toArray.size≤sizeLine:=by
   have:=stripL_len sub b.toList
   rw [List.size_toArray]
   rw [Array.length_toList] at this
   exact Nat.le_trans this hsz
  exact wpAny_bind (wpAny_mkBytes (wpAny_pure ⟨_,rfl,h _ _⟩) hl)
set_option tactic.hygienic true
end
set_option tactic.hygienic false
theorem slot_find:Slot "bytes" "find" "bytes.find":=
 .of (owner:="bytes") (n:="find") (by rw [typeLookup_type,builtinLookup_eq_fast];kernel_rfl) (by decide+kernel) (by decide+kernel) (by decide+kernel)
   (by first|exact .inl (by decide+kernel)|exact .inr (by decide+kernel)) (by rw [isSubtype_type];kernel_rfl)
theorem type_find:typeOf (.builtin "bytes.find")=pure (.type "method_descriptor"):=by show builtinType _=_;rw [builtinType_eq_fast];kernel_rfl
theorem entry_find:entryFor table "bytes.find"=some Builtin.«bytes.find»:=entryFor_of_tree (by kernel_rfl)
theorem args_find (a b:Value):argsOk "bytes.find" ⟨[a,b],[]⟩:=by
 unfold argsOk;rw [signature?_of (id:="bytes.find") (n:=['d','n','i','f']) (o:=['s','e','t','y','b']) (by kernel_rfl) FB.owner_bytes];kernel_rfl
theorem slot_strip:Slot "bytes" "strip" "bytes.strip":=
 .of (owner:="bytes") (n:="strip") (by rw [typeLookup_type,builtinLookup_eq_fast];kernel_rfl) (by decide+kernel) (by decide+kernel) (by decide+kernel)
   (by first|exact .inl (by decide+kernel)|exact .inr (by decide+kernel)) (by rw [isSubtype_type];kernel_rfl)
theorem type_strip:typeOf (.builtin "bytes.strip")=pure (.type "method_descriptor"):=by show builtinType _=_;rw [builtinType_eq_fast];kernel_rfl
theorem entry_strip:entryFor table "bytes.strip"=some Builtin.«bytes.strip»:=entryFor_of_tree (by kernel_rfl)
theorem args_strip (a b:Value):argsOk "bytes.strip" ⟨[a,b],[]⟩:=by
 unfold argsOk;rw [signature?_of (id:="bytes.strip") (n:=['p','i','r','t','s']) (o:=['s','e','t','y','b']) (by kernel_rfl) FB.owner_bytes];kernel_rfl
theorem slot_split:Slot "bytes" "split" "bytes.split":=
 .of (owner:="bytes") (n:="split") (by rw [typeLookup_type,builtinLookup_eq_fast];kernel_rfl) (by decide+kernel) (by decide+kernel) (by decide+kernel)
   (by first|exact .inl (by decide+kernel)|exact .inr (by decide+kernel)) (by rw [isSubtype_type];kernel_rfl)
theorem type_split:typeOf (.builtin "bytes.split")=pure (.type "method_descriptor"):=by show builtinType _=_;rw [builtinType_eq_fast];kernel_rfl
theorem entry_split:entryFor table "bytes.split"=some Builtin.«bytes.split»:=entryFor_of_tree (by kernel_rfl)
theorem args_split (a b:Value):argsOk "bytes.split" ⟨[a,b],[]⟩:=by
 unfold argsOk;rw [signature?_of (id:="bytes.split") (n:=['t','i','l','p','s']) (o:=['s','e','t','y','b']) (by kernel_rfl) FB.owner_bytes];kernel_rfl
theorem slot_join:Slot "bytes" "join" "bytes.join":=
 .of (owner:="bytes") (n:="join") (by rw [typeLookup_type,builtinLookup_eq_fast];kernel_rfl) (by decide+kernel) (by decide+kernel) (by decide+kernel)
   (by first|exact .inl (by decide+kernel)|exact .inr (by decide+kernel)) (by rw [isSubtype_type];kernel_rfl)
theorem type_join:typeOf (.builtin "bytes.join")=pure (.type "method_descriptor"):=by show builtinType _=_;rw [builtinType_eq_fast];kernel_rfl
theorem entry_join:entryFor table "bytes.join"=some Builtin.«bytes.join»:=entryFor_of_tree (by kernel_rfl)
theorem args_join (a b:Value):argsOk "bytes.join" ⟨[a,b],[]⟩:=by
 unfold argsOk;rw [signature?_of (id:="bytes.join") (n:=['n','i','o','j']) (o:=['s','e','t','y','b']) (by kernel_rfl) FB.owner_bytes];kernel_rfl
set_option tactic.hygienic true
section
variable {w:World} {A:Around} {E:Value→Shared→Prop} {s:Shared} {b sub:Array UInt8} {t u:Tok} {Q:Value→Shared→Prop}
set_option tactic.hygienic false
theorem call_find (h:∀ t' k,Q (.int (findI b sub) t') { s with toks:=k }):wpAny (model PG w) A (call (.builtin "bytes.find") [.bytes b t,.bytes sub u]) Q E s:=
 call_meets slot_find (typeIs_bytes _ _ _) entry_find (args_find _ _) gives_find.meets (h _ _)
theorem call_startswith (h:Q (.bool (startsB b sub)) s):wpAny (model PG w) A (call (.builtin "bytes.startswith") [.bytes b t,.bytes sub u]) Q E s:=
 call_meets FB.slot_bytes_startswith (typeIs_bytes _ _ _) FB.entry_bytes_startswith (FB.args_bytes_startswith_2 _ _) gives_startswith.meets h
theorem call_strip (hsz:b.size≤16777216) (h:∀ t' k,Q (.bytes (stripL sub b.toList).toArray t') { s with toks:=k }):wpAny (model PG w) A (call (.builtin "bytes.strip") [.bytes b t,.bytes sub u]) Q E s:=
 call_meets slot_strip (typeIs_bytes _ _ _) entry_strip (args_strip _ _) meets_strip ⟨by rw [sizeLine_eq];exact hsz,h⟩
set_option tactic.hygienic true
end
end RB
end
section
inductive BytesAre:List Value→List (Array UInt8)→Prop
 |nil:BytesAre [] []
 |cons {vs:List Value} {bs:List (Array UInt8)} (b:Array UInt8) (t:Tok):BytesAre vs bs→BytesAre (.bytes b t::vs) (b::bs)
set_option tactic.hygienic false
theorem BytesAre.length {vs:List Value} {bs:List (Array UInt8)} (h:BytesAre vs bs):vs.length=bs.length:=by
 induction h with
 |nil=>rfl
 |cons _ _ _ ih=>simp [ih]
theorem BytesAre.get {vs:List Value} {bs:List (Array UInt8)} (h:BytesAre vs bs):∀ {i:Nat} {v:Value},vs[i]? =some v→∃ b t,bs[i]? =some b∧v= .bytes b t:=by
 induction h with
 |nil=>intro i v h;simp at h
 |cons b t _ ih=>
  intro i v h
  cases i with
  |zero=>exact ⟨b,t,rfl,by simpa using h.symm⟩
  |succ i=>exact ih (by simpa using h)
theorem BytesAre.append {vs ws:List Value} {bs cs:List (Array UInt8)} (h:BytesAre vs bs) (k:BytesAre ws cs):BytesAre (vs++ws) (bs++cs):=by
 induction h with
 |nil=>exact k
 |cons b t _ ih=>exact .cons b t ih
theorem BytesAre.snoc {vs:List Value} {bs:List (Array UInt8)} {b:Array UInt8} {t:Tok} (h:BytesAre vs bs):BytesAre (vs++[.bytes b t]) (bs++[b]):=h.append (.cons b t .nil)
theorem BytesAre.reverse {vs:List Value} {bs:List (Array UInt8)} (h:BytesAre vs bs):BytesAre vs.reverse bs.reverse:=by
 induction h with
 |nil=>exact .nil
 |cons b t _ ih=>simp only [List.reverse_cons];exact ih.snoc
theorem BytesAre.take {vs:List Value} {bs:List (Array UInt8)} (h:BytesAre vs bs):∀ i,BytesAre (vs.take i) (bs.take i):=by
 induction h with
 |nil=>intro i;simp only [List.take_nil];exact .nil
 |cons b t _ ih=>
  intro i
  cases i with
  |zero=>exact .nil
  |succ i=>exact .cons b t (ih i)
set_option tactic.hygienic true
namespace RB
open Builtin
set_option tactic.hygienic false
noncomputable def splitA (b sep:Array UInt8):List (Array UInt8):=Bytes.between b sep.size ((Bytes.occurrences b sep 0 b.size).take (b.size+1))
theorem wp_news {M:Model} {A:Around} {E:Value→Shared→Prop} {Q:List Value→Shared→Prop}:
  ∀ (parts:List (Array UInt8)) (acc:List Value) (bs:List (Array UInt8)) (s:Shared),(∀ p∈parts,p.size≤sizeLine)→BytesAre acc bs→
    (∀ vs k,BytesAre vs (bs.reverse++parts)→Q vs { s with toks:=k })→wpAny M A (List.mapM.loop Bytes.Kind.bytes.new parts acc) Q E s
 |[],acc,bs,s,_,hb,h=>wpAny_pure (by have:=h acc.reverse s.toks (by simpa using hb.reverse);exact this)
 |p::ps,acc,bs,s,hp,hb,h=>by
  show wpAny M A (mkBytes p>>=fun v=>List.mapM.loop Bytes.Kind.bytes.new ps (v::acc)) Q E s
  refine wpAny_bind (wpAny_mkBytes ?_ (hp p (.head _)))
  refine wp_news ps _ (p::bs) _ (fun q hq=>hp q (.tail _ hq)) (.cons p _ hb) fun vs k hv=>?_
  have:=h vs k (by simpa using hv)
  exact this
theorem between_nil (b:Array UInt8) (n:Nat):Bytes.between b n []=[b]:=by
 simp [Bytes.between]
theorem between_size (b:Array UInt8) (n:Nat) (ps:List Nat):∀ p∈Bytes.between b n ps,p.size≤b.size:=by
 unfold Bytes.between
 have key:∀ (ps:List Nat) (parts:Array (Array UInt8)) (last:Nat),(∀ p∈parts,p.size≤b.size)→∀ p∈(ps.foldl (fun (x:Array (Array UInt8)×Nat) p=>(x.1.push (b.extract x.2 p),p+n)) (parts,last)).1,p.size≤b.size:=by
  intro ps
  induction ps with
  |nil=>intro parts last h;exact h
  |cons q ps ih=>
   intro parts last h
   rw [List.foldl_cons]
   refine ih _ _ fun p hp=>?_
   rcases Array.mem_push.mp hp with hp|rfl
   ·exact h p hp
   ·rw [Array.size_extract];omega
 intro p hp
 have hp:p∈((ps.foldl (fun (x:Array (Array UInt8)×Nat) p=>(x.1.push (b.extract x.2 p),p+n)) (#[],0)).1.push (b.extract (ps.foldl (fun (x:Array (Array UInt8)×Nat) p=>(x.1.push (b.extract x.2 p),p+n)) (#[],0)).2 b.size)).toList:=hp
 rw [Array.mem_toList_iff] at hp
 rcases Array.mem_push.mp hp with hp|rfl
 ·exact key ps #[] 0 (by simp) p hp
 ·rw [Array.size_extract];omega
set_option tactic.hygienic true
section
variable {b sub:Array UInt8} {t u:Tok}
set_option tactic.hygienic false
theorem meets_split (hne:sub.isEmpty=false):Meets («bytes.split» ⟨[.bytes b t,.bytes sub u],[]⟩) (fun zq R s=>b.size≤sizeLine∧(splitA b sub).length≤sizeLine∧
  ∀ vs k,BytesAre vs (splitA b sub)→R (.ok (.ret (.ref s.heap.objs.size))) { s with heap:=s.heap.push (listOf vs.toArray 0),toks:=k }):=by
 refine .of_wp fun prog w A R s hS=>?_
 obtain ⟨hsz,hlen,h⟩:=hS
 show wpAny _ _ (Bytes.splitM .bytes "split" false ⟨[.bytes b t,.bytes sub u],[]⟩) _ _ s
 unfold Bytes.splitM
 refine wpAny_bind (wpAny_of_eq (a:=[some (.bytes sub u),none]) (by rfl) ?_)
 refine wpAny_bind (wpAny_pure ?_)
 refine wpAny_bind (wpAny_of_eq (a:=b) rfl ?_)
 refine wpAny_bind (wpAny_of_eq (a:=sub) like_eq ?_)
 have e1:((-1:Int)<0)=True:=eq_true (by decide)
 simp only [hne,Bool.false_eq_true,if_false,e1,if_true]
 show wpAny _ _ (if ((Bytes.occurrences b sub 0 b.size).take (b.size+1)).isEmpty=true then _ else _) _ _ s
 by_cases hc:((Bytes.occurrences b sub 0 b.size).take (b.size+1)).isEmpty=true
 ·rw [if_pos hc]
  refine wpAny_bind (wpAny_rule ?_)
  refine wpAny_bind (wpAny_of_eq (a:=.bytes b t) (by rfl) ?_)
  have hs:splitA b sub=[b]:=by unfold splitA;rw [List.isEmpty_iff.mp hc,between_nil]
  refine wpAny_bind (wpAny_newObj_type (wpAny_pure ⟨_,rfl,?_⟩) (by show ([Value.bytes b t]).toArray.size≤sizeLine;simp [sizeLine_eq]))
  exact h [.bytes b t] s.toks (by rw [hs];exact .cons b t .nil)
 ·rw [if_neg hc]
  refine wpAny_bind (wp_news (splitA b sub) [] [] s (fun p hp=>Nat.le_trans (between_size _ _ _ p hp) hsz) .nil fun vs k hv=>?_)
  have hv':BytesAre vs (splitA b sub):=by simpa using hv
  refine wpAny_bind (wpAny_newObj_type (wpAny_pure ⟨_,rfl,?_⟩) (by show vs.toArray.size≤sizeLine;rw [List.size_toArray,hv'.length];exact hlen))
  exact h vs k hv'
set_option tactic.hygienic true
end
section
variable {w:World} {A:Around} {E:Value→Shared→Prop} {s:Shared} {b sub:Array UInt8} {t u:Tok} {Q:Value→Shared→Prop} {h₀:Heap} {L:Addr} {m:Str→Option Value} {news:Led}
set_option tactic.hygienic false
theorem call_split (F:Fr h₀ L s.heap m) (N:News h₀ L s.heap news) (hne:sub.isEmpty=false) (hsz:b.size≤16777216) (hlen:(splitA b sub).length≤16777216)
  (h:∀ l vs h' k,Fr h₀ L h' m→News h₀ L h' ((l,listOf vs.toArray 0)::news)→(∀ p∈news,p.1<l)→BytesAre vs (splitA b sub)→Q (.ref l) { s with heap:=h',toks:=k }):
  wpAny (model PG w) A (call (.builtin "bytes.split") [.bytes b t,.bytes sub u]) Q E s:=
 call_meets slot_split (typeIs_bytes _ _ _) entry_split (args_split _ _) (meets_split hne) ⟨by rw [sizeLine_eq];exact hsz,by rw [sizeLine_eq];exact hlen,
  fun vs k hv=>h _ vs _ k (F.push _) (N.push F _) (fun p hp=>Heap.lt_size (N p hp).1) hv⟩
set_option tactic.hygienic true
end
set_option tactic.hygienic false
theorem takeQuiet_eq {id:String} {b:Array UInt8} {t:Tok} {f:Int} (hf:(f==Bytes.fullReadOnly)=false):Bytes.takeBufferQuiet? id (.bytes b t) f=pure (some (b,none)):=by
 unfold Bytes.takeBufferQuiet? Bytes.takeBuffer?
 rw [KBy.special_eq KBy.look_buffer,KBy.own_buffer,hf,KBy.buffer_eq]
 kernel_rfl
theorem wp_joinLetGo {M:Model} {A:Around} {E:Value→Shared→Prop} {Q:Unit→Shared→Prop}:
  ∀ (taken:List (Value×Option Value)) (keep:List Value) (s:Shared),(∀ p∈taken,p.2=none)→Q () s→wpAny M A (Bytes.joinLetGo taken keep) Q E s
 |[],_,_,_,h=>wpAny_pure h
 |(x,w)::rest,keep,s,hn,h=>by
  have hw:w=none:=hn (x,w) (.head _)
  subst hw
  unfold Bytes.joinLetGo
  exact wpAny_bind (wpAny_letGo (wp_joinLetGo rest keep s (fun p hp=>hn p (.tail _ hp)) h))
theorem joined_one (sep b:Array UInt8):Bytes.joined sep [b]=b:=by
 simp [Bytes.joined]
theorem wp_forIn_range {σ:Type} {M:Model} {A:Around} {s:Shared} (f:Nat→σ→Sem (ForInStep σ)) (J:Nat→σ) (n:Nat) {init:σ} {Q:σ→Shared→Prop} {E:Value→Shared→Prop} (h0:J 0=init)
  (step:∀ i,i<n→∀ (Q:ForInStep σ→Shared→Prop),Q (.yield (J (i+1))) s→wpAny M A (f i (J i)) Q E s) (h:Q (J n) s):wpAny M A (forIn [0:n] init f) Q E s:=by
 subst h0
 rw [Std.Legacy.Range.forIn_eq_forIn_range']
 have e:(List.range' [0:n].start [0:n].size [0:n].step)=List.range' 0 n:=by
  simp [Std.Legacy.Range.size]
 rw [e]
 have key:∀ (k i:Nat),i+k=n→wpAny M A (forIn (List.range' i k) (J i) f) Q E s:=by
  intro k
  induction k with
  |zero=>intro i hi;have:i=n:=by omega
         subst this;exact wpAny_pure h
  |succ k ih=>
   intro i hi
   rw [List.range'_succ,List.forIn_cons]
   exact wpAny_bind (step i (by omega) _ (ih (i+1) (by omega)))
 exact key n 0 (by omega)
theorem jm_one {α:Type} {x:Value} {h1:Value→α} {h2:Array Value→α}:Bytes.joinM.match_1 (fun zq=>α) #[x] h1 h2=h1 x:=rfl
theorem jm_ne {α:Type} {items:Array Value} {h1:Value→α} {h2:Array Value→α} (h:items.size≠1):Bytes.joinM.match_1 (fun zq=>α) items h1 h2=h2 items:=by
 unfold Bytes.joinM.match_1
 rw [dif_neg h]
noncomputable def foldSize (sep:Array UInt8) (bs:List (Array UInt8)):Nat:=bs.toArray.foldl (· + ·.size) (sep.size*(bs.toArray.size - 1))
theorem foldl_size (bs:List (Array UInt8)):∀ n:Nat,bs.foldl (fun k (b:Array UInt8)=>k+b.size) n=n+(bs.map (·.size)).sum:=by
 induction bs with
 |nil=>intro n;simp
 |cons b bs ih=>intro n;rw [List.foldl_cons,ih,List.map_cons,List.sum_cons];omega
theorem joined_go (sep:Array UInt8):∀ (bs:List (Array UInt8)) (k:Nat) (out:Array UInt8),0<k→
  ((bs.zipIdx k).foldl (fun out (x:Array UInt8×Nat)=>(if x.2>0 then out++sep else out)++x.1) out).size=out.size+(bs.map (·.size)).sum+sep.size*bs.length:=by
 intro bs
 induction bs with
 |nil=>intro k out _;simp
 |cons b bs ih=>
  intro k out hk
  rw [List.zipIdx_cons,List.foldl_cons,ih (k+1) _ (by omega)]
  simp only [gt_iff_lt,hk,if_true,Array.size_append,List.map_cons,List.sum_cons,List.length_cons,Nat.mul_add]
  omega
theorem joined_size (sep:Array UInt8) (bs:List (Array UInt8)):(Bytes.joined sep bs).size≤foldSize sep bs:=by
 unfold foldSize Bytes.joined
 rw [List.size_toArray,List.foldl_toArray,foldl_size]
 cases bs with
 |nil=>simp
 |cons b bs=>
  have:=joined_go sep bs 1 b (by omega)
  have e:((b::bs).zipIdx.foldl (fun out (x:Array UInt8×Nat)=>(if x.2>0 then out++sep else out)++x.1) #[])=((bs.zipIdx 1).foldl (fun out (x:Array UInt8×Nat)=>(if x.2>0 then out++sep else out)++x.1) b):=by
   rw [List.zipIdx_cons,List.foldl_cons]
   simp
  show ((b::bs).zipIdx.foldl (fun out (x:Array UInt8×Nat)=>(if x.2>0 then out++sep else out)++x.1) #[]).size≤_
  rw [e,this]
  have e3:(b::bs).toArray.size - 1=bs.length:=by simp
  rw [e3]
  simp only [List.map_cons,List.sum_cons]
  omega
theorem bytes_onHeap {vs:List Value} {bs:List (Array UInt8)} (h:BytesAre vs bs):(vs.map fun v=>(v,(none:Option Value))).any (·.1.onHeap)=false:=by
 induction h with
 |nil=>rfl
 |cons b t _ ih=>simp only [List.map_cons,List.any_cons,ih];rfl
theorem join_turn {vs:List Value} {bs:List (Array UInt8)} (hv:BytesAre vs bs) {id:String} {i:Nat} (hi:i<vs.length):∃ b t,vs.toArray.getD i Value.none= .bytes b t∧vs[i]? =some (.bytes b t)∧bs[i]? =some b∧Bytes.takeBufferQuiet? id (vs.toArray.getD i Value.none) 0=pure (some (b,none)):=by
 have hx:vs[i]? =some vs[i]:=List.getElem?_eq_getElem hi
 obtain ⟨b,t,hb,e⟩:=hv.get hx
 have e2:vs.toArray.getD i Value.none= .bytes b t:=by simp [Array.getD,hi,e]
 exact ⟨b,t,e2,by rw [hx,e],hb,by rw [e2];exact takeQuiet_eq (by decide)⟩
theorem join_items {prog:Program} {w:World} {A:Around} {s:Shared} {l:Addr} {vs:List Value} (hl:s.heap.IsList l vs.toArray) (s':Shared) (Q:Option (Array Value)→Shared→Prop) (E:Value→Shared→Prop) (hs:s'.heap=s.heap) (q:Q (some vs.toArray) s'):wpAny (model prog w) A (seqItems? (.ref l)) Q E s':=by
 obtain ⟨o,ho,hc,ne,hd⟩:=hl
 exact wpAny_seqItems (by rw [hs];exact ho) hd q
theorem join_e0:(Bytes.Kind.bytes==Bytes.Kind.bytes)=true:=by decide
theorem join_e1 {b:Bool} (h:b=false):((Bytes.Kind.bytes==Bytes.Kind.bytearray)||b)=false:=by rw [h];decide
theorem join_e2:(Value.type "list"==Value.type "list"||Value.type "list"==Value.type "tuple")=true:=by decide
theorem join_step {vs:List Value} {bs:List (Array UInt8)} {b:Array UInt8} {tb:Tok} {i:Nat} (g1:vs.toArray.getD i Value.none= .bytes b tb) (g2:vs[i]? =some (.bytes b tb)) (g3:bs[i]? =some b):
  ((bs.take (i+1)).toArray,(vs.take (i+1)).map fun v=>(v,(none:Option Value)))=((bs.take i).toArray.push b,(vs.take i).map (fun v=>(v,(none:Option Value)))++[(vs.toArray.getD i Value.none,none)]):=by
 rw [List.take_add_one,List.take_add_one,g3,g2,g1];simp
theorem meets_join {sep:Array UInt8} {t:Tok} {l:Addr} {vs:List Value} {bs:List (Array UInt8)} (hv:BytesAre vs bs) (hsz:foldSize sep bs≤16777216):
  Meets («bytes.join» ⟨[.bytes sep t,.ref l],[]⟩) (fun zq R s=>s.heap.IsList l vs.toArray∧∀ t' k,R (.ok (.ret (.bytes (Bytes.joined sep bs) t'))) { s with toks:=k }):=by
 refine .of_wp fun prog w A R s ⟨hl,h⟩=>?_
 show wpAny _ _ (Bytes.joinM .bytes ⟨[.bytes sep t,.ref l],[]⟩) _ _ s
 unfold Bytes.joinM Bytes.joinItems
 refine wpAny_bind (wpAny_of_eq (a:=(.bytes sep t,.ref l)) rfl (bm_if_true join_e0 (wpAny_bind (wpAny_bind (wpAny_typeOf hl.typeIs (bm_if_true join_e2 (wpAny_pure (wpAny_bind (join_items hl s _ _ rfl (bm_if_true join_e0 ?_))))))))))
 by_cases h1:vs.length=1
 ·obtain ⟨v,rfl⟩:=List.length_eq_one_iff.mp h1
  cases hv with
  |cons b tb hv'=>
   cases hv'
   rw [joined_one] at h
   rw [jm_one]
   exact wpAny_bind (wpAny_of_eq (a:=.type "bytes") rfl (bm_if_true (by decide) (wpAny_bind (wpAny_rule (wpAny_pure ⟨_,rfl,h tb s.toks⟩)))))
 ·rw [jm_ne (by rw [List.size_toArray];exact h1)]
  refine wpAny_bind (wp_forIn_range (J:=fun i=>((bs.take i).toArray,(vs.take i).map fun v=>(v,(none:Option Value)))) _ _ rfl ?_ ?_)
  ·intro i hi Q q
   rw [List.size_toArray] at hi
   obtain ⟨b,tb,g1,g2,g3,g4⟩:=join_turn hv hi
   rw [join_step g1 g2 g3] at q
   exact wpAny_bind (join_items hl s _ _ rfl (bm_if_false (join_e1 (bytes_onHeap (hv.take i))) (wpAny_bind (wpAny_holding (wpAny_of_eq (a:=some (b,none)) g4 (wpAny_bind (join_items hl s _ _ rfl (bm_if_false (by simp) (wpAny_pure q)))))))))
  ·rw [List.size_toArray,List.take_of_length_le (by rw [hv.length];exact Nat.le_refl _),List.take_length]
   exact wpAny_bind (wpAny_of_eq (a:=sep) rfl (bm_if_false (KBy.tooLong_not hsz) (wpAny_bind (wpAny_mkBytes (wpAny_bind (wpAny_holding (wpAny_point (wpAny_bind (wp_joinLetGo _ _ _ (fun p hp=>by obtain ⟨v,_,rfl⟩:=List.mem_map.mp hp;rfl) (wpAny_pure ⟨_,rfl,h _ _⟩)))))) (by rw [sizeLine_eq];exact Nat.le_trans (joined_size sep bs) hsz)))))
set_option tactic.hygienic true
section
variable {w:World} {A:Around} {E:Value→Shared→Prop} {s:Shared} {sep:Array UInt8} {l:Addr} {vs:List Value} {bs:List (Array UInt8)} {t:Tok} {Q:Value→Shared→Prop}
set_option tactic.hygienic false
theorem call_join (hl:s.heap.IsList l vs.toArray) (hv:BytesAre vs bs) (hsz:foldSize sep bs≤16777216) (h:∀ t' k,Q (.bytes (Bytes.joined sep bs) t') { s with toks:=k }):
  wpAny (model PG w) A (call (.builtin "bytes.join") [.bytes sep t,.ref l]) Q E s:=
 call_meets slot_join (typeIs_bytes _ _ _) entry_join (args_join _ _) (meets_join hv hsz) ⟨hl,h⟩
set_option tactic.hygienic true
end
set_option tactic.hygienic false
noncomputable def stripA (sub b:Array UInt8):Array UInt8:=(stripL sub b.toList).toArray
set_option tactic.hygienic true
section
variable {M:Model} {A:Around} {E:Value→Shared→Prop} {s:Shared} {pl:Sem Bool} {Q:Value×List Value→Shared→Prop} {b:Array UInt8} {t:Tok}
set_option tactic.hygienic false
theorem method_find (h:Q (.builtin "bytes.find",[.bytes b t]) s):wpAny M A (getMethod (.bytes b t) "find" pl) Q E s:=by
 with_reducible exact KBd.method_of (.bytes b t) (typeIs_bytes _ _ _) slot_find type_find KBd.noRef h
theorem method_strip (h:Q (.builtin "bytes.strip",[.bytes b t]) s):wpAny M A (getMethod (.bytes b t) "strip" pl) Q E s:=by
 with_reducible exact KBd.method_of (.bytes b t) (typeIs_bytes _ _ _) slot_strip type_strip KBd.noRef h
theorem method_split (h:Q (.builtin "bytes.split",[.bytes b t]) s):wpAny M A (getMethod (.bytes b t) "split" pl) Q E s:=by
 with_reducible exact KBd.method_of (.bytes b t) (typeIs_bytes _ _ _) slot_split type_split KBd.noRef h
theorem method_join (h:Q (.builtin "bytes.join",[.bytes b t]) s):wpAny M A (getMethod (.bytes b t) "join" pl) Q E s:=by
 with_reducible exact KBd.method_of (.bytes b t) (typeIs_bytes _ _ _) slot_join type_join KBd.noRef h
theorem method_startswith (h:Q (.builtin "bytes.startswith",[.bytes b t]) s):wpAny M A (getMethod (.bytes b t) "startswith" pl) Q E s:=by
 with_reducible exact KBd.method_of (.bytes b t) (typeIs_bytes _ _ _) FB.slot_bytes_startswith FB.type_bytes_startswith KBd.noRef h
set_option tactic.hygienic true
end
end RB
end
section
set_option tactic.hygienic false
theorem one_of_map {its:Led} {x:Addr} (h:its.map (·.1)=[x]):∃ p,its=[p]:=by
 cases its with
 |nil=>simp at h
 |cons p q=>cases q with
  |nil=>exact ⟨p,rfl⟩
  |cons _ _=>simp at h
set_option tactic.hygienic true
section
variable {prog:Program} {w:World} {A:Around} {E:Value→Shared→Prop} {s:Shared} {env:Env} {h₀:Heap} {target:Expr} {body:List Stmt} {Q:Flow→Shared→Prop}
set_option tactic.hygienic false
inductive LpEnd (h₀:Heap) (L:Addr) (its:Led) (J:(Str→Option Value)→Led→Prop) (s₁ s₂:Shared):Prop
 |mk (h':Heap) (tk:Nat) (m':Str→Option Value) (news' nx:Led) (es:s₂={ s₁ with heap:=h',toks:=tk }) (F:Fr h₀ L h' m') (N:News h₀ L h' news') (hI:∀ p∈its,p∈news') (sub:∀ p∈nx,p∈news') (off:∀ p∈nx,∀ q∈its,p.1≠q.1) (hj:J m' nx)
noncomputable def LpPost (h₀:Heap) (L:Addr) (its:Led) (J:(Str→Option Value)→Led→Prop) (s₁:Shared) (Q:Flow→Shared→Prop) (f:Flow) (s₂:Shared):Prop:=
 match f with
 | .ret v=>Q (.ret v) s₂
 | .brk=>Q .next s₂
 |_=>LpEnd h₀ L its J s₁ s₂
theorem LpEnd.intro {L:Addr} {its:Led} {J:(Str→Option Value)→Led→Prop} {s₁:Shared} {h':Heap} {tk:Nat} {m':Str→Option Value} {news':Led} (F:Fr h₀ L h' m') (N:News h₀ L h' news') (nx:Led)
  (hI:∀ p∈its,p∈news') (sub:∀ p∈nx,p∈news') (off:∀ p∈nx,∀ q∈its,p.1≠q.1) (hj:J m' nx):LpEnd h₀ L its J s₁ { s₁ with heap:=h',toks:=tk }:=
 ⟨h',tk,m',news',nx,rfl,F,N,hI,sub,off,hj⟩
set_option tactic.hygienic true
theorem lp_core {I:Addr} {fp wr:List Addr} {n:Nat} {P Md:Nat→Value→Heap→Prop} {St:Nat→Heap→Prop} {keep:Led} {m₀:Str→Option Value} {news:Led} {hp:Heap} {tk0:Nat}
  (W:KTurns prog w A target I fp wr n P Md St) (J:Nat→(Str→Option Value)→Led→Prop)
  (hobj:∀ i h,St i h→∃ its:Led,its.map (·.1)=wr∧∀ p∈its,h.get? p.1=some p.2)
  (hwr:∀ b∈wr,b∈fp∧h₀.get? b=none) (hfp:∀ b∈fp,b∈wr∨(∃ o,(b,o)∈keep)∨∃ o,h₀.get? b=some o)
  (hL:env.locals∉fp) (hnw:∀ p∈news,p.1∉wr) (hst:St 0 hp) (F:Fr h₀ env.locals hp m₀) (N:News h₀ env.locals hp news) (hj:J 0 m₀ news)
  (hk:∀ i m nx,J i m nx→∀ p∈keep,p∈nx)
  (turn:∀ i v m₁ nx h tk its,i<n→P i v h→J i m₁ nx→its.map (·.1)=wr→(∀ p∈nx,∀ q∈its,p.1≠q.1)→Fr h₀ env.locals h m₁→News h₀ env.locals h (its++nx)→
    wpAny (model prog w) A (assign target env v) (fun zq s₂=>wpAny (model prog w) A (execs body env) (LpPost h₀ env.locals its (J (i+1)) { s with heap:=h,toks:=tk } Q) E s₂) E { s with heap:=h,toks:=tk })
  (done:∀ m₁ nx h tk,J n m₁ nx→Fr h₀ env.locals h m₁→News h₀ env.locals h nx→Q .next { s with heap:=h,toks:=tk }):
  TurnsAt prog w A h₀ env target body Q E (.ref I) { s with heap:=hp,toks:=tk0 }:=by
 refine ⟨I,fp,wr,n,P,Md,St,m₀,news,J,rfl,W,hL,fun b hb=>(hwr b hb).2,hnw,hst,F,N,hj,?_,?_⟩
 ·intro i v m₁ nx h₁ tk₁ own hin hPi hJ hoff hown hget hall hst₁ F₁ N₁
  obtain ⟨its,hits,hval⟩:=hobj (i+1) h₁ hst₁
  have off:∀ p∈nx,∀ q∈its,p.1≠q.1:=fun p hp q hq e=>hoff p hp (by rw [e,←hits];exact List.mem_map_of_mem hq)
  have N₂:News h₀ env.locals h₁ (its++nx):=fun p hp=>by
   rcases List.mem_append.mp hp with hp|hp
   ·have h1:p.1∈wr:=by rw [←hits];exact List.mem_map_of_mem hp
    exact N₁ _ (List.mem_append_left _ (hall p.1 (hwr _ h1).1 (hwr _ h1).2 p.2 (hval p hp)))
   ·exact N₁ _ (List.mem_append_right _ hp)
  have fin:∀ s₃,LpEnd h₀ env.locals its (J (i+1)) { s with heap:=h₁,toks:=tk₁ } s₃→LoopStepU h₀ env.locals wr own (J (i+1)) { s with heap:=h₁,toks:=tk₁ } .next s₃:=by
   rintro s₃ ⟨h',tk,m',news',nx',e,F',N',hI,hs,ho,hj'⟩
   refine ⟨rfl,h',tk,m',nx',e,F',?_,?_,hj'⟩
   ·rintro ⟨pa,po⟩ hp
    rcases List.mem_append.mp hp with hp|hp
    ·have h2:h₁.get? pa=some po:=hget _ hp
     rcases hfp pa (hown _ hp) with h3|⟨o,h3⟩|⟨o,h3⟩
     ·have h4:pa∈its.map (·.1):=by rw [hits];exact h3
      obtain ⟨⟨qa,qo⟩,hq,hqe⟩:=List.mem_map.mp h4
      have hqe':qa=pa:=hqe
      subst hqe'
      have h6:qo=po:=Option.some.inj ((hval _ hq).symm.trans h2)
      subst h6
      exact N' _ (hI _ hq)
     ·have h4:h₁.get? pa=some o:=(N₁ _ (List.mem_append_right _ (hk _ _ _ hJ _ h3))).1
      have h6:o=po:=Option.some.inj (h4.symm.trans h2)
      subst h6
      exact N' _ (hs _ (hk _ _ _ hj' _ h3))
     ·have h4:=(N₁ _ (List.mem_append_left _ hp)).2.2
      dsimp only at h4
      rw [h3] at h4
      cases h4
    ·exact N' _ (hs _ hp)
   ·intro p hp hI'
    have h4:p.1∈its.map (·.1):=by rw [hits];exact hI'
    obtain ⟨q,hq,hqe⟩:=List.mem_map.mp h4
    exact ho p hp q hq hqe.symm
  refine wpAny_mono (turn i v m₁ nx h₁ tk₁ its hin hPi hJ hits off F₁ N₂) (fun zq s₂ h₂=>wpAny_mono h₂ (fun f s₃ p=>?_) fun zq zq e=>e) fun zq zq e=>e
  cases f with
  |ret v=>exact .ret p
  |brk=>exact .brk p
  |next=>exact .next (fin _ p)
  |cont=>exact .cont (fin _ p)
 ·intro h' tk m' nx' F' N' _ hJ
  exact done m' nx' h' tk hJ F' N'
set_option tactic.hygienic false
theorem lp_list {ax:Addr} {vs:List Value} {k:Nat} {m₀:Str→Option Value} {news:Led} (J:Nat→(Str→Option Value)→Led→Prop)
  (hh:A.handled=none) (F:Fr h₀ env.locals s.heap m₀) (N:News h₀ env.locals s.heap news) (hj:J 0 m₀ news) (hk:∀ i m nx,J i m nx→(ax,listOf vs.toArray k)∈nx)
  (turn:∀ i v m₁ nx h tk I oI,vs[i]? =some v→J i m₁ nx→(∀ p∈nx,@Ne Nat p.1 I)→Fr h₀ env.locals h m₁→News h₀ env.locals h ((I,oI)::nx)→
    wpAny (model prog w) A (assign target env v) (fun zq s₂=>wpAny (model prog w) A (execs body env) (LpPost h₀ env.locals [(I,oI)] (J (i+1)) { s with heap:=h,toks:=tk } Q) E s₂) E { s with heap:=h,toks:=tk })
  (done:∀ m₁ nx h tk,J vs.length m₁ nx→Fr h₀ env.locals h m₁→News h₀ env.locals h nx→Q .next { s with heap:=h,toks:=tk }):
  wpAny (model prog w) A (pyIter (.ref ax)) (fun it s₂=>TurnsAt prog w A h₀ env target body Q E it s₂) E s:=by
 have hax:=N _ (hk _ _ _ hj)
 have hl:s.heap.IsList ax vs.toArray:=⟨_,hax.1,rfl,k,rfl⟩
 have hlt:ax<s.heap.objs.size:=Heap.lt_size hax.1
 have hne:ax≠s.heap.objs.size:=Nat.ne_of_lt hlt
 refine wpAny_pyIter_list hl ?_
 have W:=Walks.list (prog:=prog) (w:=w) hh s.heap.objs.size ax hne vs.toArray
 refine lp_core (tk0:=s.toks) (keep:=[(ax,listOf vs.toArray k)]) (KTurns.ofWalks W fun i v s Q E st q=>letGo_listiter st.1 q) J (fun i h st=>?_) (fun b hb=>?_) (fun b hb=>?_) ?_ (fun p hp hI=>?_) ?_ (F.push _) (fun p hp=>⟨Heap.get?_push_of_some _ (N p hp).1,(N p hp).2⟩) hj
  (fun i m nx h p hp=>by rw [List.mem_singleton.mp hp];exact hk _ _ _ h) ?_ ?_
 ·obtain ⟨it,hit,_⟩:=st.1
  exact ⟨[(s.heap.objs.size,it)],rfl,fun p hp=>by rw [List.mem_singleton.mp hp];exact hit⟩
 ·rw [List.mem_singleton.mp hb]
  exact ⟨List.mem_cons_self ..,next_is_new F⟩
 ·rcases List.mem_cons.mp hb with e|hb
  ·exact .inl (by simp [e])
  ·exact .inr (.inl ⟨_,by rw [List.mem_singleton.mp hb];exact List.mem_singleton_self _⟩)
 ·intro hI
  rcases List.mem_cons.mp hI with e|hI
  ·exact absurd F.ns.lt (e▸Nat.lt_irrefl _)
  ·exact hax.2.1 (List.mem_singleton.mp hI).symm
 ·exact absurd (Heap.lt_size (N p hp).1) ((List.mem_singleton.mp hI)▸Nat.lt_irrefl _)
 ·exact ⟨⟨_,Heap.get?_push_size _ rfl,rfl,rfl⟩,hl.at fun o e=>Heap.get?_push_of_some _ e⟩
 ·intro i v m₁ nx h tk its hi hP hJ hits off F₁ N₁
  obtain ⟨⟨I,oI⟩,rfl⟩:=one_of_map hits
  have hv:vs[i]? =some v:=by have hP':vs.toArray[i]? =some v:=hP;simpa using hP'
  exact turn i v m₁ nx h tk I oI hv hJ (fun p hp=>off p hp _ (List.mem_singleton_self _)) F₁ N₁
 ·intro m₁ nx h tk hJ F₁ N₁
  exact done m₁ nx h tk (by simpa using hJ) F₁ N₁
theorem lp_tuple {ax:Addr} {vs:List Value} {m₀:Str→Option Value} {news:Led} (J:Nat→(Str→Option Value)→Led→Prop)
  (hh:A.handled=none) (F:Fr h₀ env.locals s.heap m₀) (N:News h₀ env.locals s.heap news) (hj:J 0 m₀ news) (hk:(∃ k,∀ i m nx,J i m nx→(ax,({ cls:=.type "tuple",data:=.seq vs.toArray k }:Obj))∈nx)∨h₀.IsTuple ax vs.toArray)
  (turn:∀ i v m₁ nx h tk I oI,vs[i]? =some v→J i m₁ nx→(∀ p∈nx,@Ne Nat p.1 I)→Fr h₀ env.locals h m₁→News h₀ env.locals h ((I,oI)::nx)→
    wpAny (model prog w) A (assign target env v) (fun zq s₂=>wpAny (model prog w) A (execs body env) (LpPost h₀ env.locals [(I,oI)] (J (i+1)) { s with heap:=h,toks:=tk } Q) E s₂) E { s with heap:=h,toks:=tk })
  (done:∀ m₁ nx h tk,J vs.length m₁ nx→Fr h₀ env.locals h m₁→News h₀ env.locals h nx→Q .next { s with heap:=h,toks:=tk }):
  wpAny (model prog w) A (pyIter (.ref ax)) (fun it s₂=>TurnsAt prog w A h₀ env target body Q E it s₂) E s:=by
 obtain ⟨keep,hl,hkp,hal,hka⟩:∃ keep:Led,s.heap.IsTuple ax vs.toArray∧(∀ i m nx,J i m nx→∀ p∈keep,p∈nx)∧ax≠env.locals∧((∃ o,(ax,o)∈keep)∨∃ o,h₀.get? ax=some o):=by
  rcases hk with ⟨k,hk⟩|hk
  ·have hax:=N _ (hk _ _ _ hj)
   exact ⟨[(ax,_)],⟨_,hax.1,rfl,k,rfl⟩,fun i m nx h p hp=>by rw [List.mem_singleton.mp hp];exact hk _ _ _ h,hax.2.1,.inl ⟨_,.head _⟩⟩
  ·obtain ⟨o,ho,h1,h2⟩:=hk
   exact ⟨[],⟨o,F.keep _ _ ho,h1,h2⟩,fun zq zq zq zq p hp=>absurd hp List.not_mem_nil,fun e=>absurd (e▸Heap.lt_size ho) (Nat.not_lt.mpr F.above),.inr ⟨o,ho⟩⟩
 have hlt:ax<s.heap.objs.size:=by obtain ⟨o,ho,_⟩:=hl;exact Heap.lt_size ho
 have hne:ax≠s.heap.objs.size:=Nat.ne_of_lt hlt
 refine wpAny_pyIter_tuple hl ?_
 have W:=Walks.tuple (prog:=prog) (w:=w) hh s.heap.objs.size ax hne vs.toArray
 refine lp_core (tk0:=s.toks) (keep:=keep) (KTurns.ofWalks W fun i v s Q E st q=>letGo_tupleiter st.1 q) J (fun i h st=>?_) (fun b hb=>?_) (fun b hb=>?_) ?_ (fun p hp hI=>?_) ?_ (F.push _) (fun p hp=>⟨Heap.get?_push_of_some _ (N p hp).1,(N p hp).2⟩) hj
  hkp ?_ ?_
 ·obtain ⟨it,hit,_⟩:=st.1
  exact ⟨[(s.heap.objs.size,it)],rfl,fun p hp=>by rw [List.mem_singleton.mp hp];exact hit⟩
 ·rw [List.mem_singleton.mp hb]
  exact ⟨List.mem_cons_self ..,next_is_new F⟩
 ·rcases List.mem_cons.mp hb with e|hb
  ·exact .inl (by simp [e])
  ·rw [List.mem_singleton.mp hb];exact .inr hka
 ·intro hI
  rcases List.mem_cons.mp hI with e|hI
  ·exact absurd F.ns.lt (e▸Nat.lt_irrefl _)
  ·exact hal (List.mem_singleton.mp hI).symm
 ·exact absurd (Heap.lt_size (N p hp).1) ((List.mem_singleton.mp hI)▸Nat.lt_irrefl _)
 ·exact ⟨⟨_,Heap.get?_push_size _ rfl,rfl,rfl⟩,hl.at fun o e=>Heap.get?_push_of_some _ e⟩
 ·intro i v m₁ nx h tk its hi hP hJ hits off F₁ N₁
  obtain ⟨⟨I,oI⟩,rfl⟩:=one_of_map hits
  have hv:vs[i]? =some v:=by have hP':vs.toArray[i]? =some v:=hP;simpa using hP'
  exact turn i v m₁ nx h tk I oI hv hJ (fun p hp=>off p hp _ (List.mem_singleton_self _)) F₁ N₁
 ·intro m₁ nx h tk hJ F₁ N₁
  exact done m₁ nx h tk (by simpa using hJ) F₁ N₁
set_option tactic.hygienic true
theorem lp_range {r:Addr} {a b:Int} {t u v:Tok} {n:Nat} {m₀:Str→Option Value} {news:Led} (J:Nat→(Str→Option Value)→Led→Prop)
  (hh:A.handled=none) (F:Fr h₀ env.locals s.heap m₀) (N:News h₀ env.locals s.heap news) (hr:IsRange s.heap r a b 1 t u v) (hsm:Builtin.Range.small a b 1=true) (hn:Builtin.Range.rangeSize a b 1=((n:Nat):Int)) (hj:J 0 m₀ news)
  (turn:∀ i ti m₁ nx h tk I oI,i<n→J i m₁ nx→(∀ p∈nx,@Ne Nat p.1 I)→Fr h₀ env.locals h m₁→News h₀ env.locals h ((I,oI)::nx)→
    wpAny (model prog w) A (assign target env (.int (a+(i:Int)) ti)) (fun zq s₂=>wpAny (model prog w) A (execs body env) (LpPost h₀ env.locals [(I,oI)] (J (i+1)) { s with heap:=h,toks:=tk } Q) E s₂) E { s with heap:=h,toks:=tk })
  (done:∀ m₁ nx h tk,J n m₁ nx→Fr h₀ env.locals h m₁→News h₀ env.locals h nx→Q .next { s with heap:=h,toks:=tk })
  (ht:∀ it v,letOwnedTupleGo target it v=pure ():=by intro _ _;rfl):
  wpAny (model prog w) A (pyIter (.ref r)) (fun it s₂=>TurnsAt prog w A h₀ env target body Q E it s₂) E s:=by
 refine wpAny_pyIter_range hr hsm ?_
 have W:=LCg.range_walks (prog:=prog) (w:=w) (I:=s.heap.objs.size) hh a n
 refine lp_core (tk0:=s.toks) (keep:=[]) (KTurns.ofWalks W fun i v s Q E st q=>wpAny_of_eq (ht _ _) q) J (fun i h st=>?_) (fun b hb=>?_) (fun b hb=>.inl hb) ?_ (fun p hp hI=>?_) ?_ (F.push _) (fun p hp=>⟨Heap.get?_push_of_some _ (N p hp).1,(N p hp).2⟩) hj
  (fun i m nx h p hp=>(nomatch hp)) ?_ ?_
 ·exact ⟨[(s.heap.objs.size,_)],rfl,fun p hp=>by rw [List.mem_singleton.mp hp];exact st⟩
 ·rw [List.mem_singleton.mp hb]
  exact ⟨List.mem_cons_self ..,next_is_new F⟩
 ·intro hI
  exact absurd F.ns.lt ((List.mem_singleton.mp hI)▸Nat.lt_irrefl _)
 ·exact absurd (Heap.lt_size (N p hp).1) ((List.mem_singleton.mp hI)▸Nat.lt_irrefl _)
 ·show IsRangeIter _ _ _ _ _
  rw [hn];simpa using Heap.get?_push_size _ rfl
 ·intro i v m₁ nx h tk its hi hP hJ hits off F₁ N₁
  obtain ⟨⟨I,oI⟩,rfl⟩:=one_of_map hits
  obtain ⟨ti,rfl⟩:=hP
  exact turn i ti m₁ nx h tk I oI hi hJ (fun p hp=>off p hp _ (List.mem_singleton_self _)) F₁ N₁
 ·intro m₁ nx h tk hJ F₁ N₁
  exact done m₁ nx h tk hJ F₁ N₁
theorem lp_bytes {b:Array UInt8} {tb:Tok} {m₀:Str→Option Value} {news:Led} (J:Nat→(Str→Option Value)→Led→Prop)
  (hh:A.handled=none) (F:Fr h₀ env.locals s.heap m₀) (N:News h₀ env.locals s.heap news) (hj:J 0 m₀ news)
  (turn:∀ i c t m₁ nx h tk I oI,b[i]? =some c→J i m₁ nx→(∀ p∈nx,@Ne Nat p.1 I)→Fr h₀ env.locals h m₁→News h₀ env.locals h ((I,oI)::nx)→
    wpAny (model prog w) A (assign target env (.int (c.toNat:Int) t)) (fun zq s₂=>wpAny (model prog w) A (execs body env) (LpPost h₀ env.locals [(I,oI)] (J (i+1)) { s with heap:=h,toks:=tk } Q) E s₂) E { s with heap:=h,toks:=tk })
  (done:∀ m₁ nx h tk,J b.size m₁ nx→Fr h₀ env.locals h m₁→News h₀ env.locals h nx→Q .next { s with heap:=h,toks:=tk })
  (ht:∀ it v,letOwnedTupleGo target it v=pure ():=by intro _ _;rfl):
  wpAny (model prog w) A (pyIter (.bytes b tb)) (fun it s₂=>TurnsAt prog w A h₀ env target body Q E it s₂) E s:=by
 refine KBw.pyIter_bytes ?_
 have W:=KBw.walks (prog:=prog) (w:=w) hh s.heap.objs.size b tb
 refine lp_core (tk0:=s.toks) (keep:=[]) (KTurns.ofWalks W fun i v s Q E st q=>wpAny_of_eq (ht _ _) q) J (fun i h st=>?_) (fun b hb=>?_) (fun b hb=>.inl hb) ?_ (fun p hp hI=>?_) ?_ (F.push _) (fun p hp=>⟨Heap.get?_push_of_some _ (N p hp).1,(N p hp).2⟩) hj
  (fun i m nx h p hp=>(nomatch hp)) ?_ ?_
 ·obtain ⟨it,hit,_⟩:=st
  exact ⟨[(s.heap.objs.size,it)],rfl,fun p hp=>by rw [List.mem_singleton.mp hp];exact hit⟩
 ·rw [List.mem_singleton.mp hb]
  exact ⟨List.mem_cons_self ..,next_is_new F⟩
 ·intro hI
  exact absurd F.ns.lt ((List.mem_singleton.mp hI)▸Nat.lt_irrefl _)
 ·exact absurd (Heap.lt_size (N p hp).1) ((List.mem_singleton.mp hI)▸Nat.lt_irrefl _)
 ·exact ⟨_,Heap.get?_push_size _ rfl,rfl,rfl⟩
 ·intro i v m₁ nx h tk its hi hP hJ hits off F₁ N₁
  obtain ⟨⟨I,oI⟩,rfl⟩:=one_of_map hits
  obtain ⟨c,u,hc,rfl⟩:=hP
  exact turn i c u m₁ nx h tk I oI hc hJ (fun p hp=>off p hp _ (List.mem_singleton_self _)) F₁ N₁
 ·intro m₁ nx h tk hJ F₁ N₁
  exact done m₁ nx h tk hJ F₁ N₁
end
end
section
namespace LG
open LCg
section
variable {prog:Program} {w:World} {A:Around} {E:Value→Shared→Prop} {s:Shared} {h₀:Heap} {L:Addr} {m:Str→Option Value} {env:Env}
inductive ItG (prog:Program) (w:World) (A:Around) (h₀:Heap) (L:Addr) (m:Str→Option Value) (env:Env) (elt:Expr) (x:Str) (scope:Scope) (cl:List (Str×Addr)) (Fin:Shared→List Value→Led→Prop) (it:Value) (s₂:Shared):Prop
 |mk (I:Addr) (fp:List Addr) (n:Nat) (P:Nat→Value→Prop) (St:Nat→Heap→Prop) (S:Led→Prop) (news:Led) (ei:it= .ref I) (W:Walks prog w A I fp [I] n P St) (hsz:n≤sizeLine) (hIo:∀ i h,St i h→∃ o,h.get? I=some o)
  (hSt:∀ i h h' o nw,St i h→h.get? I=some o→h'.get? I=some o→(∀ b o,h₀.get? b=some o→h'.get? b=some o)→News h₀ L h' nw→S nw→St i h') (hst:St 0 s₂.heap) (hfp:∀ b∈fp,b<s₂.heap.objs.size)
  (F:Fr h₀ L s₂.heap m) (N:News h₀ L s₂.heap news) (hIL:L≠I) (hI₀:h₀.get? I=none) (off:∀ p∈news,p.1≠I) (hS:S news) (R:CompRest prog w A h₀ L m env elt x scope cl s₂ S P (Fin s₂) n 0 [] news)
set_option tactic.hygienic false
noncomputable def SrcG (prog:Program) (w:World) (A:Around) (h₀:Heap) (L:Addr) (m:Str→Option Value) (env:Env) (elt:Expr) (x:Str) (scope:Scope) (cl:List (Str×Addr)) (Fin:Shared→List Value→Led→Prop) (E:Value→Shared→Prop) (xv:Value) (s₁:Shared):Prop:=
 wpAny (model prog w) A (pyIter xv) (ItG prog w A h₀ L m env elt x scope cl Fin) E s₁
theorem ListComp_G {elt iter:Expr} {x:Str} {px:Pos} {scope:Scope} {cl:List (Str×Addr)} {pos:Pos} {Q:Value→Shared→Prop} (_F₀:Fr h₀ L s.heap m)
  (hclos:closureFor scope env=pure cl) (hcell:∀ y∈scope.names,y.2≠.cell) (hkind:scope.kind= .function)
  (hnames:∀ y∈scope.names,y.2= .local→scope.names.lookup y.1=some .local) (hx:scope.names.lookup x=some .local)
  (h:wpAny (model prog w) A (eval iter env) (SrcG prog w A h₀ L m env elt x scope cl (fun s₂=>FinE h₀ L m s₂ Q) E) E s)
  (hs:∀ x,foldedSetIterable iter env x=pure x:=by intro _;rfl):
  wpAny (model prog w) A (eval (.ListComp elt [⟨.Name x px,iter,[],0⟩] scope pos) env) Q E s:=by
 rw [eval_ListComp]
 refine wpAny_comprehension_free (use:=none) rfl hs hclos hkind hnames (wpAny_mono h (fun xv s₁ h₁=>wpAny_mono h₁ (fun it s₂ h₂=>?_) fun zq zq e=>e) fun zq zq e=>e)
 obtain ⟨I,fp,n,P,St,S,news,rfl,W,hsz,hIo,hSt,hst,hfp,F,N,hIL,hI₀,off,hS,R⟩:=h₂
 refine block_U W hsz hIo hSt hcell hkind hx hst hfp F N hIL hI₀ off hS R ?_
 intro D C h tk m' ys news' F' N' o1 hn hC₀ hD₀ hCL hDL hCD offC fin
 refine ⟨m',hn,fun h'' hs''=>fin D h'' tk (F'.change hs'' hCL hC₀) (fun p hp=>?_) o1⟩
 refine ⟨hs''.extBut _ _ ?_ (N' p hp).1,(N' p hp).2⟩
 rcases List.mem_cons.mp hp with rfl|hp
 ·exact Ne.symm hCD
 ·exact offC p hp
theorem Assign_ListComp_G {elt iter:Expr} {x y:Str} {px py:Pos} {scope:Scope} {cl:List (Str×Addr)} {pos spos:Pos} {Q:Flow→Shared→Prop} (F₀:Fr h₀ L s.heap m) (hLe:env.locals=L)
  (hsw:swapsWith (.ListComp elt [⟨.Name x px,iter,[],0⟩] scope pos) (some (.Name y py)) spos.line env=pure true)
  (hclos:closureFor scope env=pure cl) (hcell:∀ z∈scope.names,z.2≠.cell) (hkind:scope.kind= .function)
  (hnames:∀ z∈scope.names,z.2= .local→scope.names.lookup z.1=some .local) (hx:scope.names.lookup x=some .local)
  (hy:env.kindOf y=some .local) (hp:(env.scope.kind==.class||(env.scope.kind==.module&&env.locals != env.globals))=false)
  (h:wpAny (model prog w) A (eval iter env) (SrcG prog w A h₀ L m env elt x scope cl (fun s₂=>FinA h₀ L m s₂ y Q) E) E s)
  (hs:∀ x,foldedSetIterable iter env x=pure x:=by intro _;rfl):
  wpAny (model prog w) A (exec (.Assign [.Name y py] (.ListComp elt [⟨.Name x px,iter,[],0⟩] scope pos) spos) env) Q E s:=by
 subst hLe
 rw [exec_Assign_Name_used _ _ _ _ hsw]
 refine wpAny_bind (wpAny_standAt (wpAny_bind ?_))
 show wpAny _ A (do let _←comprehension (.ListComp elt [⟨.Name x px,iter,[],0⟩] scope pos) scope env _ (newList []) false (eval iter env) (some (assign (.Name y py) env))) _ _ s
 refine wpAny_bind (wpAny_mono (wpAny_comprehension_free (use:=some (assign (.Name y py) env)) (Q:=fun zq s'=>Q .next s') rfl hs hclos hkind hnames
  (wpAny_mono h (fun xv s₁ h₁=>wpAny_mono h₁ (fun it s₂ h₂=>?_) fun zq zq e=>e) fun zq zq e=>e)) (fun zq s' hq=>wpAny_pure (wpAny_pure hq)) fun zq zq e=>e)
 obtain ⟨I,fp,n,P,St,S,news,rfl,W,hsz,hIo,hSt,hst,hfp,F,N,hIL,hI₀,off,hS,R⟩:=h₂
 refine block_U W hsz hIo hSt hcell hkind hx hst hfp F N hIL hI₀ off hS R ?_
 intro D C h' tk m' ys news' F' N' o1 hn hC₀ hD₀ hCL hDL hCD offC fin
 show wpAny _ A (assign (.Name y py) env (.ref D)) _ _ _
 refine wpAny_assign_Name (wpAny_storeName_local hy F'.ns (fun h₂ hn₂ hs₂=>?_) hp)
 have hL₀:h₀.get? env.locals=none:=Heap.get?_none_of_le F'.above
 have F₂:Fr h₀ env.locals h₂ (fun z=>if z=y then some (.ref D) else m z):=⟨hn₂,fun b o e=>hs₂.extBut b o (fun q=>by rw [q,hL₀] at e;cases e) (F'.keep b o e),F'.above⟩
 refine ⟨m',hn.sameBut hs₂ hCL,fun h'' hs''=>fin D h'' _ (F₂.change hs'' hCL hC₀) (fun p hp=>?_) o1⟩
 have z:h₂.get? p.1=some p.2:=hs₂.extBut _ _ (N' p hp).2.1 (N' p hp).1
 refine ⟨hs''.extBut _ _ ?_ z,(N' p hp).2⟩
 rcases List.mem_cons.mp hp with rfl|hp
 ·exact Ne.symm hCD
 ·exact offC p hp
theorem rest_of {elt:Expr} {x:Str} {scope:Scope} {cl:List (Str×Addr)} {S:Led→Prop} {P:Nat→Value→Prop} {Fin:List Value→Led→Prop} (J:Nat→List Value→Led→Prop) {n:Nat}
  (turn:∀ i v ys nx I oI C oC D m₂ h tk (E':Value→Shared→Prop),i<n→P i v→J i ys nx→NsObj oC m₂→m₂ x=some v→Fr h₀ L h m→News h₀ L h ((I,oI)::(C,oC)::(D,lst ys)::nx)→Off3 I C D nx→((@Ne Nat I C)∧(@Ne Nat I D)∧(@Ne Nat C D))→
    wpAny (model prog w) A (eval elt (compEnvC scope cl C env)) (CompEnd h₀ L m { s with heap:=h,toks:=tk } I oI C oC D (lst ys) S (fun y nx'=>J (i+1) (ys++[y]) nx')) E' { s with heap:=h,toks:=tk })
  (done:∀ ys nx,J n ys nx→Fin ys nx):∀ (k i:Nat) (ys:List Value) (nx:Led),i+k=n→J i ys nx→CompRest prog w A h₀ L m env elt x scope cl s S P Fin k i ys nx
 |0,i,ys,nx,e,hj=>done ys nx (by have:i=n:=e;rw [←this];exact hj)
 |k+1,i,ys,nx,e,hj=>fun v I oI C oC D m₂ h tk E' hP hC hx F N off ne=>
  wpAny_mono (turn i v ys nx I oI C oC D m₂ h tk E' (by omega) hP hj hC hx F N off ne) (fun y s₂ h₂=>by
   obtain ⟨h',tk',nx',e1,F',N',off',hS,hj'⟩:=h₂
   exact ⟨h',tk',nx',e1,F',N',off',hS,rest_of J turn done k (i+1) _ nx' (by omega) hj'⟩) fun zq zq e=>e
theorem src_str {elt:Expr} {x:Str} {scope:Scope} {cl:List (Str×Addr)} {Fin:Shared→List Value→Led→Prop} {z:Str} {t:Tok} {news:Led} (J:Nat→List Value→Led→Prop)
  (hh:A.handled=none) (F:Fr h₀ L s.heap m) (N:News h₀ L s.heap news) (hsz:z.cps.size≤sizeLine) (hj:J 0 [] news)
  (turn:∀ i v ys nx I oI C oC D m₂ h tk (E':Value→Shared→Prop),i<z.cps.size→SignAt z i v→J i ys nx→NsObj oC m₂→m₂ x=some v→Fr h₀ L h m→News h₀ L h ((I,oI)::(C,oC)::(D,lst ys)::nx)→Off3 I C D nx→((@Ne Nat I C)∧(@Ne Nat I D)∧(@Ne Nat C D))→
    wpAny (model prog w) A (eval elt (compEnvC scope cl C env)) (CompEnd h₀ L m { s with heap:=h,toks:=tk } I oI C oC D (lst ys) (fun zq=>True) (fun y nx'=>J (i+1) (ys++[y]) nx')) E' { s with heap:=h,toks:=tk })
  (done:∀ g ys nx,J z.cps.size ys nx→Fin { s with heap:=g } ys nx):
  SrcG prog w A h₀ L m env elt x scope cl Fin E (.str z t) s:=by
 have fin:∀ (T:String) (o:Obj),o={ cls:=.type T,data:=.fields #[.str z t,.int 0 0] }→(Walks prog w A s.heap.objs.size [s.heap.objs.size] [s.heap.objs.size] z.cps.size (SignAt z) (fun i h=>h.IsStrIter s.heap.objs.size T z t i))→
   ItG prog w A h₀ L m env elt x scope cl Fin (.ref s.heap.objs.size) { s with heap:=s.heap.push o }:=by
  rintro T o rfl W
  refine ⟨_,_,_,_,_,fun zq=>True,news,rfl,W,hsz,fun i h st=>by obtain ⟨o,e,_⟩:=st;exact ⟨o,e⟩,fun i h h' o nw st e e' zq zq zq=>by obtain ⟨o',q,r⟩:=st;rw [e] at q;cases q;exact ⟨o,e',r⟩,
   ⟨_,Heap.get?_push_size _ rfl,rfl,rfl⟩,fun b hb=>by rw [List.mem_singleton.mp hb];show _<(s.heap.push _).objs.size;rw [Heap.size_push];exact Nat.lt_succ_self _,
   F.push _,fun p hp=>⟨Heap.get?_push_of_some _ (N p hp).1,(N p hp).2⟩,Nat.ne_of_lt F.ns.lt,next_is_new F,fun p hp=>Nat.ne_of_lt (Heap.lt_size (N p hp).1),trivial,?_⟩
  refine rest_of J (fun i v ys nx I oI C oC D m₂ h tk E' hi hP hJ hC hx F N off ne=>?_) (fun ys nx h=>done _ ys nx h) _ 0 [] news (Nat.zero_add _) hj
  exact turn i v ys nx I oI C oC D m₂ h tk E' hi hP hJ hC hx F N off ne
 unfold SrcG
 cases ha:z.cps.all (· <128)
 ·exact wpAny_pyIter_wide ha (fin _ _ rfl (Walks.strWide hh _ z t))
 ·exact wpAny_pyIter_ascii ha (fin _ _ rfl (Walks.strAscii hh _ z t))
set_option tactic.hygienic true
theorem src_bytes {elt:Expr} {x:Str} {scope:Scope} {cl:List (Str×Addr)} {Fin:Shared→List Value→Led→Prop} {b:Array UInt8} {t:Tok} {news:Led} (J:Nat→List Value→Led→Prop)
  (hh:A.handled=none) (F:Fr h₀ L s.heap m) (N:News h₀ L s.heap news) (hsz:b.size≤sizeLine) (hj:J 0 [] news)
  (turn:∀ i c tc ys nx I oI C oC D m₂ h tk (E':Value→Shared→Prop),b[i]? =some c→J i ys nx→NsObj oC m₂→m₂ x=some (.int (c.toNat:Int) tc)→Fr h₀ L h m→News h₀ L h ((I,oI)::(C,oC)::(D,lst ys)::nx)→Off3 I C D nx→((@Ne Nat I C)∧(@Ne Nat I D)∧(@Ne Nat C D))→
    wpAny (model prog w) A (eval elt (compEnvC scope cl C env)) (CompEnd h₀ L m { s with heap:=h,toks:=tk } I oI C oC D (lst ys) (fun zq=>True) (fun y nx'=>J (i+1) (ys++[y]) nx')) E' { s with heap:=h,toks:=tk })
  (done:∀ g ys nx,J b.size ys nx→Fin { s with heap:=g } ys nx):
  SrcG prog w A h₀ L m env elt x scope cl Fin E (.bytes b t) s:=by
 refine KBw.pyIter_bytes ?_
 refine ⟨_,_,_,_,_,fun zq=>True,news,rfl,KBw.walks hh _ b t,hsz,fun i h st=>by obtain ⟨o,e,_⟩:=st;exact ⟨o,e⟩,fun i h h' o nw st e e' zq zq zq=>by obtain ⟨o',q,r⟩:=st;rw [e] at q;cases q;exact ⟨o,e',r⟩,
  ⟨_,Heap.get?_push_size _ rfl,rfl,rfl⟩,fun b hb=>by rw [List.mem_singleton.mp hb];show _<(s.heap.push _).objs.size;rw [Heap.size_push];exact Nat.lt_succ_self _,
  F.push _,fun p hp=>⟨Heap.get?_push_of_some _ (N p hp).1,(N p hp).2⟩,Nat.ne_of_lt F.ns.lt,next_is_new F,fun p hp=>Nat.ne_of_lt (Heap.lt_size (N p hp).1),trivial,?_⟩
 refine rest_of J (fun i v ys nx I oI C oC D m₂ h tk E' hi hP hJ hC hx F N off ne=>?_) (fun ys nx h=>done _ ys nx h) _ 0 [] news (Nat.zero_add _) hj
 obtain ⟨c,u,hc,rfl⟩:=hP
 exact turn i c u ys nx I oI C oC D m₂ h tk E' hc hJ hC hx F N off ne
set_option tactic.hygienic false
theorem src_list {elt:Expr} {x:Str} {scope:Scope} {cl:List (Str×Addr)} {Fin:Shared→List Value→Led→Prop} {ax:Addr} {its:Array Value} {news:Led} (J:Nat→List Value→Led→Prop)
  (hh:A.handled=none) (F:Fr h₀ L s.heap m) (N:News h₀ L s.heap news) (hl:SrcAt h₀ ax its news) (hsz:its.size≤sizeLine) (hj:J 0 [] news)
  (turn:∀ i v ys nx I oI C oC D m₂ h tk (E':Value→Shared→Prop),its[i]? =some v→J i ys nx→NsObj oC m₂→m₂ x=some v→Fr h₀ L h m→News h₀ L h ((I,oI)::(C,oC)::(D,lst ys)::nx)→Off3 I C D nx→((@Ne Nat I C)∧(@Ne Nat I D)∧(@Ne Nat C D))→
    wpAny (model prog w) A (eval elt (compEnvC scope cl C env)) (CompEnd h₀ L m { s with heap:=h,toks:=tk } I oI C oC D (lst ys) (SrcAt h₀ ax its) (fun y nx'=>J (i+1) (ys++[y]) nx')) E' { s with heap:=h,toks:=tk })
  (done:∀ g ys nx,J its.size ys nx→Fin { s with heap:=g } ys nx):
  SrcG prog w A h₀ L m env elt x scope cl Fin E (.ref ax) s:=by
 have hl':=hl.list F.keep N
 have hlt:ax<s.heap.objs.size:=by obtain ⟨_,e,_⟩:=hl';exact Heap.lt_size e
 refine wpAny_pyIter_list hl' ?_
 refine ⟨_,_,_,_,_,SrcAt h₀ ax its,news,rfl,Walks.list hh s.heap.objs.size ax (Nat.ne_of_lt hlt) its,hsz,fun i h st=>by obtain ⟨o,e,_⟩:=st.1;exact ⟨o,e⟩,list_st,
  ⟨⟨_,Heap.get?_push_size _ rfl,rfl,rfl⟩,hl'.push _⟩,fun b hb=>?_,
  F.push _,fun p hp=>⟨Heap.get?_push_of_some _ (N p hp).1,(N p hp).2⟩,Nat.ne_of_lt F.ns.lt,next_is_new F,fun p hp=>Nat.ne_of_lt (Heap.lt_size (N p hp).1),hl,?_⟩
 ·show b<(s.heap.push _).objs.size
  rw [Heap.size_push]
  rcases List.mem_cons.mp hb with rfl|hb
  ·exact Nat.lt_succ_self _
  ·rw [List.mem_singleton.mp hb];exact Nat.lt_succ_of_lt hlt
 ·refine rest_of J (fun i v ys nx I oI C oC D m₂ h tk E' hi hP hJ hC hx F N off ne=>?_) (fun ys nx h=>done _ ys nx h) _ 0 [] news (Nat.zero_add _) hj
  exact turn i v ys nx I oI C oC D m₂ h tk E' hP hJ hC hx F N off ne
noncomputable def TupAt (h₀:Heap) (ax:Addr) (its:Array Value) (news:Led):Prop:=h₀.IsTuple ax its∨∃ o,(ax,o)∈news∧o.cls= .type "tuple"∧∃ n,o.data= .seq its n
theorem TupAt.tup {h:Heap} {ax:Addr} {its:Array Value} {news:Led} (x:TupAt h₀ ax its news) (k:∀ b o,h₀.get? b=some o→h.get? b=some o) (N:News h₀ L h news):h.IsTuple ax its:=by
 rcases x with x|⟨o,hm,hc,n,hd⟩
 ·exact x.at fun o e=>k _ _ e
 ·exact ⟨o,(N _ hm).1,hc,n,hd⟩
theorem src_tuple {elt:Expr} {x:Str} {scope:Scope} {cl:List (Str×Addr)} {Fin:Shared→List Value→Led→Prop} {ax:Addr} {its:Array Value} {news:Led} (J:Nat→List Value→Led→Prop)
  (hh:A.handled=none) (F:Fr h₀ L s.heap m) (N:News h₀ L s.heap news) (hl:TupAt h₀ ax its news) (hsz:its.size≤sizeLine) (hj:J 0 [] news)
  (turn:∀ i v ys nx I oI C oC D m₂ h tk (E':Value→Shared→Prop),its[i]? =some v→J i ys nx→NsObj oC m₂→m₂ x=some v→Fr h₀ L h m→News h₀ L h ((I,oI)::(C,oC)::(D,lst ys)::nx)→Off3 I C D nx→((@Ne Nat I C)∧(@Ne Nat I D)∧(@Ne Nat C D))→
    wpAny (model prog w) A (eval elt (compEnvC scope cl C env)) (CompEnd h₀ L m { s with heap:=h,toks:=tk } I oI C oC D (lst ys) (TupAt h₀ ax its) (fun y nx'=>J (i+1) (ys++[y]) nx')) E' { s with heap:=h,toks:=tk })
  (done:∀ g ys nx,J its.size ys nx→Fin { s with heap:=g } ys nx):
  SrcG prog w A h₀ L m env elt x scope cl Fin E (.ref ax) s:=by
 have hl':=hl.tup F.keep N
 have hlt:ax<s.heap.objs.size:=by obtain ⟨_,e,_⟩:=hl';exact Heap.lt_size e
 refine wpAny_pyIter_tuple hl' ?_
 refine ⟨_,_,_,_,_,TupAt h₀ ax its,news,rfl,Walks.tuple hh s.heap.objs.size ax (Nat.ne_of_lt hlt) its,hsz,fun i h st=>by obtain ⟨o,e,_⟩:=st.1;exact ⟨o,e⟩,
  fun i h h' o nw st e e' k N S=>⟨by obtain ⟨o',q,r⟩:=st.1;rw [e] at q;cases q;exact ⟨o,e',r⟩,TupAt.tup S k N⟩,
  ⟨⟨_,Heap.get?_push_size _ rfl,rfl,rfl⟩,hl'.at fun o e=>Heap.get?_push_of_some _ e⟩,fun b hb=>?_,
  F.push _,fun p hp=>⟨Heap.get?_push_of_some _ (N p hp).1,(N p hp).2⟩,Nat.ne_of_lt F.ns.lt,next_is_new F,fun p hp=>Nat.ne_of_lt (Heap.lt_size (N p hp).1),hl,?_⟩
 ·show b<(s.heap.push _).objs.size
  rw [Heap.size_push]
  rcases List.mem_cons.mp hb with rfl|hb
  ·exact Nat.lt_succ_self _
  ·rw [List.mem_singleton.mp hb];exact Nat.lt_succ_of_lt hlt
 ·refine rest_of J (fun i v ys nx I oI C oC D m₂ h tk E' hi hP hJ hC hx F N off ne=>?_) (fun ys nx h=>done _ ys nx h) _ 0 [] news (Nat.zero_add _) hj
  exact turn i v ys nx I oI C oC D m₂ h tk E' hP hJ hC hx F N off ne
set_option tactic.hygienic true
theorem src_range {elt:Expr} {x:Str} {scope:Scope} {cl:List (Str×Addr)} {Fin:Shared→List Value→Led→Prop} {r:Addr} {a b:Int} {t u v:Tok} {n:Nat} {news:Led} (J:Nat→List Value→Led→Prop)
  (hh:A.handled=none) (F:Fr h₀ L s.heap m) (N:News h₀ L s.heap news) (hr:IsRange s.heap r a b 1 t u v) (hsm:Builtin.Range.small a b 1=true) (hn:Builtin.Range.rangeSize a b 1=((n:Nat):Int)) (hsz:n≤sizeLine) (hj:J 0 [] news)
  (turn:∀ i ti ys nx I oI C oC D m₂ h tk (E':Value→Shared→Prop),i<n→J i ys nx→NsObj oC m₂→m₂ x=some (.int (a+(i:Int)) ti)→Fr h₀ L h m→News h₀ L h ((I,oI)::(C,oC)::(D,lst ys)::nx)→Off3 I C D nx→((@Ne Nat I C)∧(@Ne Nat I D)∧(@Ne Nat C D))→
    wpAny (model prog w) A (eval elt (compEnvC scope cl C env)) (CompEnd h₀ L m { s with heap:=h,toks:=tk } I oI C oC D (lst ys) (fun zq=>True) (fun y nx'=>J (i+1) (ys++[y]) nx')) E' { s with heap:=h,toks:=tk })
  (done:∀ g ys nx,J n ys nx→Fin { s with heap:=g } ys nx):
  SrcG prog w A h₀ L m env elt x scope cl Fin E (.ref r) s:=by
 refine wpAny_pyIter_range hr hsm ?_
 refine ⟨_,_,_,_,_,fun zq=>True,news,rfl,range_walks hh a n,hsz,fun i h st=>⟨_,st⟩,range_st,by show IsRangeIter _ _ _ _ _;rw [hn];simpa using Heap.get?_push_size _ rfl,fun b hb=>?_,
  F.push _,fun p hp=>⟨Heap.get?_push_of_some _ (N p hp).1,(N p hp).2⟩,Nat.ne_of_lt F.ns.lt,next_is_new F,fun p hp=>Nat.ne_of_lt (Heap.lt_size (N p hp).1),trivial,?_⟩
 ·rw [List.mem_singleton.mp hb]
  show s.heap.objs.size<(s.heap.push _).objs.size
  rw [Heap.size_push];exact Nat.lt_succ_self _
 ·refine rest_of J (fun i v ys nx I oI C oC D m₂ h tk E' hi hP hJ hC hx F N off ne=>?_) (fun ys nx h=>done _ ys nx h) _ 0 [] news (Nat.zero_add _) hj
  obtain ⟨ti,rfl⟩:=hP
  exact turn i ti ys nx I oI C oC D m₂ h tk E' hi hJ hC hx F N off ne
end
set_option tactic.hygienic false
theorem off1 {D:Addr}:∀ {l:Led},Off1 D l→∀ p∈l,@Ne Nat p.1 D
 |[],_,_,h=>nomatch h
 |_::_,x,p,h=>by
  rcases List.mem_cons.mp h with rfl|h
  ·exact x.1
  ·exact off1 x.2 p h
set_option tactic.hygienic true
end LG
end
section
namespace LQ
open LCg
section
variable {prog:Program} {w:World} {A:Around} {E:Value→Shared→Prop} {s:Shared} {h₀:Heap} {L:Addr} {m:Str→Option Value} {env:Env}
set_option tactic.hygienic false
noncomputable def TurnQ (prog:Program) (w:World) (A:Around) (h₀:Heap) (L:Addr) (m:Str→Option Value) (env:Env) (elt:Expr) (x₁ x₂ x₃ x₄:Str) (scope:Scope) (cl:List (Str×Addr)) (s:Shared) (S:Led→Prop) (P:Nat→Value→Prop) (J:Nat→List Value→Led→Prop):Prop:=
 ∀ i v ys nx,P i v→J i ys nx→∃ (t:Addr) (v₁ v₂ v₃ v₄:Value),v= .ref t∧(∀ h,Fr h₀ L h m→News h₀ L h nx→IsTup h t #[v₁,v₂,v₃,v₄])∧
     ∀ I oI C oC D m₂ h tk (E':Value→Shared→Prop),NsObj oC m₂→m₂ x₁=some v₁→m₂ x₂=some v₂→m₂ x₃=some v₃→m₂ x₄=some v₄→Fr h₀ L h m→News h₀ L h ((I,oI)::(C,oC)::(D,lst ys)::nx)→Off3 I C D nx→((@Ne Nat I C)∧(@Ne Nat I D)∧(@Ne Nat C D))→
     wpAny (model prog w) A (eval elt (compEnvC scope cl C env)) (CompEnd h₀ L m { s with heap:=h,toks:=tk } I oI C oC D (lst ys) S (fun y nx'=>J (i+1) (ys++[y]) nx')) E' { s with heap:=h,toks:=tk }
inductive StQ (s₂:Shared) (n:Nat) (h₀:Heap) (L:Addr) (m:Str→Option Value) (I C D:Addr) (St:Nat→Heap→Prop) (S:Led→Prop) (J:Nat→List Value→Led→Prop) (k:Nat) (s':Shared):Prop
 |mk (h':Heap) (tk i:Nat) (ys:List Value) (m':Str→Option Value) (news':Led) (es:s'={ s₂ with heap:=h',toks:=tk }) (hi:i≤n) (ek:k=n+1 - i) (hl:ys.length=i) (hst:St i h') (F:Fr h₀ L h' m) (hn:h'.Ns C m') (N:News h₀ L h' ((D,lst ys)::news')) (off:Off3 I C D news') (hS:S news') (hJ:J i ys news')
theorem assign4 {x₁ x₂ x₃ x₄:Str} {p₁ p₂ p₃ p₄ tp:Pos} {tk:Nat} {scope:Scope} {cl:List (Str×Addr)} {C t:Addr} {v₁ v₂ v₃ v₄:Value} {m':Str→Option Value} {Q:Unit→Shared→Prop} (hh:A.handled=none) (ht:IsTup s.heap t #[v₁,v₂,v₃,v₄]) (hkind:scope.kind= .function)
  (hx₁:scope.names.lookup x₁=some .local) (hx₂:scope.names.lookup x₂=some .local) (hx₃:scope.names.lookup x₃=some .local) (hx₄:scope.names.lookup x₄=some .local) (hd:x₁≠x₂∧x₁≠x₃∧x₁≠x₄∧x₂≠x₃∧x₂≠x₄∧x₃≠x₄)
  (F:Fr h₀ L s.heap m) (hCL:C≠L) (hC₀:h₀.get? C=none) (hn:s.heap.Ns C m')
  (k:∀ h₃ m₂ tk',Fr h₀ L h₃ m→h₃.Ns C m₂→m₂ x₁=some v₁→m₂ x₂=some v₂→m₂ x₃=some v₃→m₂ x₄=some v₄→(∀ b o,b≠C→s.heap.get? b=some o→h₃.get? b=some o)→Q () { s with heap:=h₃,toks:=tk' }):
  wpAny (model prog w) A (assign (.Tuple [.Name x₁ p₁,.Name x₂ p₂,.Name x₃ p₃,.Name x₄ p₄] tk tp) (compEnvC scope cl C env) (.ref t)) Q E s:=by
 obtain ⟨d12,d13,d14,d23,d24,d34⟩:=hd
 have hk9:((compEnvC scope cl C env).scope.kind==.class||((compEnvC scope cl C env).scope.kind==.module&&(compEnvC scope cl C env).locals != (compEnvC scope cl C env).globals))=false:=by simp [compEnvC,relabel,hkind]
 exact assign_Tuple_tuple hh ht rfl rfl fun h₅ he=>assignInOrder_cons (wpAny_assign_Name (wpAny_storeName_local (lookup_relabel_local hx₁) (hn.at' fun o e=>he _ o (Nat.ne_of_lt (Heap.lt_size e)) e) (fun h₆ hn₆ hs₆=>
  assignInOrder_cons (wpAny_assign_Name (wpAny_storeName_local (lookup_relabel_local hx₂) hn₆ (fun h₇ hn₇ hs₇=>assignInOrder_cons (wpAny_assign_Name (wpAny_storeName_local (lookup_relabel_local hx₃) hn₇ (fun h₈ hn₈ hs₈=>assignInOrder_cons (wpAny_assign_Name (wpAny_storeName_local (lookup_relabel_local hx₄) hn₈ (fun h₃ hn₃ hs₃=>assignInOrder_nil
   (k h₃ _ _ (((((F.keeps fun b o e=>he b o (Nat.ne_of_lt (Heap.lt_size e)) e).change hs₆ hCL hC₀).change hs₇ hCL hC₀).change hs₈ hCL hC₀).change hs₃ hCL hC₀) hn₃ (by simp [d12,d13,d14]) (by simp [d23,d24]) (by simp [d34]) (by simp) fun b o hb e=>hs₃.extBut b o hb (hs₈.extBut b o hb (hs₇.extBut b o hb (hs₆.extBut b o hb (he b o (Nat.ne_of_lt (Heap.lt_size e)) e)))))) hk9))) hk9))) hk9))) hk9))
theorem news_keep {I D:Addr} {od:Obj} {h' h₂:Heap} {news:Led} (N:News h₀ L h' ((D,od)::news)) (hk:∀ b o,b∉[I]→h'.get? b=some o→h₂.get? b=some o) (hDI:I≠D) (off:∀ p∈news,p.1≠I):News h₀ L h₂ ((D,od)::news):=
 news_but N hk fun p hp=>(List.mem_cons.mp hp).elim (fun e=>e▸Ne.symm hDI) (off p)
theorem news3 {I C D:Addr} {oI oC od:Obj} {h₂ h₃:Heap} {news:Led} (N:News h₀ L h₂ ((D,od)::news)) (heI:h₃.get? I=some oI) (hIL:L≠I) (hI₀:h₀.get? I=none) (heC:h₃.get? C=some oC) (hCL:C≠L) (hC₀:h₀.get? C=none) (hDC:D≠C) (off:∀ p∈news,p.1≠C) (old:∀ b o,b≠C→h₂.get? b=some o→h₃.get? b=some o):News h₀ L h₃ ((I,oI)::(C,oC)::(D,od)::news):=fun p hp=>by
 rcases List.mem_cons.mp hp with rfl|hp
 ·exact ⟨heI,Ne.symm hIL,hI₀⟩
 ·rcases List.mem_cons.mp hp with rfl|hp
  ·exact ⟨heC,hCL,hC₀⟩
  ·exact ⟨old _ _ ((List.mem_cons.mp hp).elim (fun e=>e▸hDC) (off p)) (N p hp).1,(N p hp).2⟩
theorem news_last {D:Addr} {od:Obj} {h₄ h₅:Heap} {news:Led} (N:News h₀ L h₄ news) (heD:h₅.get? D=some od) (hDL:D≠L) (hD₀:h₀.get? D=none) (off:∀ p∈news,p.1≠D) (old:∀ b o,b≠D→h₄.get? b=some o→h₅.get? b=some o):News h₀ L h₅ ((D,od)::news):=fun p hp=>by
 rcases List.mem_cons.mp hp with rfl|hp
 ·exact ⟨heD,hDL,hD₀⟩
 ·exact ⟨old _ _ (off p hp) (N p hp).1,(N p hp).2⟩
theorem block_Q {elt iter:Expr} {x₁ x₂ x₃ x₄:Str} {p₁ p₂ p₃ p₄ tp:Pos} {tk} {scope:Scope} {cl:List (Str×Addr)} {pos:Pos} {s₂:Shared} {I:Addr} {fp:List Addr} {n:Nat} {P:Nat→Value→Prop} {St:Nat→Heap→Prop} {S:Led→Prop} {news:Led} {J:Nat→List Value→Led→Prop} {RR:Value→Addr→Result→Shared→Prop}
  (W:Walks prog w A I fp [I] n P St) (hsz:n≤sizeLine) (hIo:∀ i h,St i h→∃ o,h.get? I=some o)
  (hSt:∀ i h h' o nw,St i h→h.get? I=some o→h'.get? I=some o→(∀ b o,h₀.get? b=some o→h'.get? b=some o)→News h₀ L h' nw→S nw→St i h')
  (hcell:∀ y∈scope.names,y.2≠.cell) (hkind:scope.kind= .function) (hx₁:scope.names.lookup x₁=some .local) (hx₂:scope.names.lookup x₂=some .local) (hx₃:scope.names.lookup x₃=some .local) (hx₄:scope.names.lookup x₄=some .local)
  (hd:x₁≠x₂∧x₁≠x₃∧x₁≠x₄∧x₂≠x₃∧x₂≠x₄∧x₃≠x₄) (hh:A.handled=none) (hLI:∀ i h,St i h→∃ l j,h.IsListIter I l j) (hst:St 0 s₂.heap) (hfp:∀ b∈fp,b<s₂.heap.objs.size)
  (F:Fr h₀ L s₂.heap m) (N:News h₀ L s₂.heap news) (hIL:L≠I) (hI₀:h₀.get? I=none) (off:∀ p∈news,p.1≠I) (hS:S news)
  (hj:J 0 [] news) (R:TurnQ prog w A h₀ L m env elt x₁ x₂ x₃ x₄ scope cl s₂ S P J)
  (hRR:∀ D C h tk m' ys news',Fr h₀ L h m→News h₀ L h ((D,lst ys)::news')→Off1 D news'→h.Ns C m'→h₀.get? C=none→h₀.get? D=none→C≠L→D≠L→C≠D→(∀ p∈news',p.1≠C)→J n ys news'→RR (.ref D) C (.ok .next) { s₂ with heap:=h,toks:=tk }):
  wpAny (model prog w) A (newList []) (fun acc s₃=>wpAny (model prog w) A (newFunctionEnv scope env.globals cl [] env.qual none .none (some env)) (fun cenv s₄=>
   codeAny (model prog w) A (.compStart (.ListComp elt [⟨.Tuple [.Name x₁ p₁,.Name x₂ p₂,.Name x₃ p₃,.Name x₄ p₄] tk tp,iter,[],0⟩] scope pos) 0 (.ref I) acc { cenv with scope:=relabel scope env }) (RR acc cenv.locals) s₄) E s₃) E s₂:=by
 refine wpAny_newObj_type (wpAny_newFunctionEnv hcell (by intro y hy;simp at hy) (fun h₁ hns₁ hsb₁=>?_) hkind)
 dsimp only at hns₁ hsb₁ ⊢
 generalize hH2:s₂.heap.push { cls:=.type "list",dict:=none,data:=.seq ([]:List Value).toArray }=H2 at hns₁ hsb₁ ⊢
 have hC:H2.objs.size=s₂.heap.objs.size+1:=by rw [←hH2,Heap.size_push]
 have hDC:s₂.heap.objs.size≠H2.objs.size:=by rw [hC];exact Nat.ne_of_lt (Nat.lt_succ_self _)
 have below:∀ b,b<s₂.heap.objs.size→b≠H2.objs.size∧b≠s₂.heap.objs.size:=fun b hb=>⟨by rw [hC];exact Nat.ne_of_lt (Nat.lt_succ_of_lt hb),Nat.ne_of_lt hb⟩
 have hDf:s₂.heap.objs.size∉fp:=fun hm=>Nat.lt_irrefl _ (hfp _ hm)
 have hCf:H2.objs.size∉fp:=fun hm=>by have:=hfp _ hm;rw [hC] at this;exact Nat.lt_irrefl _ (Nat.lt_of_succ_lt this)
 have hIf:I∈fp:=W.sub I (List.mem_singleton.mpr rfl)
 have hIlt:I<s₂.heap.objs.size:=hfp I hIf
 have old:∀ b o,s₂.heap.get? b=some o→h₁.get? b=some o:=fun b o e=>hsb₁.extBut b o (below b (Heap.lt_size e)).1 (Heap.get?_push_of_some _ (hH2▸Heap.get?_push_of_some _ e))
 have hacc:h₁.get? s₂.heap.objs.size=some (lst []):=hsb₁.extBut _ _ hDC (Heap.get?_push_of_some _ (hH2▸Heap.get?_push_size _ rfl))
 have hst₁:St 0 h₁:=W.frame _ _ _ hst fun b zq o e=>old b o e
 have fresh₀:∀ a,s₂.heap.objs.size≤a→h₀.get? a=none:=fun a ha=>by
  cases e:h₀.get? a with
  |none=>rfl
  |some o'=>exact absurd (Heap.lt_size (F.keep a o' e)) (Nat.not_lt.mpr ha)
 have hD₀:h₀.get? s₂.heap.objs.size=none:=fresh₀ _ (Nat.le_refl _)
 have hC₀:h₀.get? H2.objs.size=none:=fresh₀ _ (by rw [hC];exact Nat.le_succ _)
 have hLlt:L<s₂.heap.objs.size:=F.ns.lt
 have hDL:s₂.heap.objs.size≠L:=Ne.symm (below L hLlt).2
 have hCL:H2.objs.size≠L:=Ne.symm (below L hLlt).1
 have hCI:I≠H2.objs.size:=(below I hIlt).1
 have hDI:I≠s₂.heap.objs.size:=(below I hIlt).2
 have off₀:Off3 I H2.objs.size s₂.heap.objs.size news:=Off3.of fun p hp=>⟨off p hp,(below _ (Heap.lt_size (N p hp).1)).1,(below _ (Heap.lt_size (N p hp).1)).2⟩
 have loop:∀ s₃:Shared,s₃={ s₂ with heap:=h₁,toks:=s₂.toks+([]:List (Str×Value)).length }→
   codeAny (model prog w) A (.compLoop (.ListComp elt [⟨.Tuple [.Name x₁ p₁,.Name x₂ p₂,.Name x₃ p₃,.Name x₄ p₄] tk tp,iter,[],0⟩] scope pos) 0 (.ref I) (.ref s₂.heap.objs.size) (compEnvC scope cl H2.objs.size env))
    (RR (.ref s₂.heap.objs.size) H2.objs.size) s₃:=by
  rintro s₃ rfl
  refine LCp.codeAny_compLoop_pair
   (StQ s₂ n h₀ L m I H2.objs.size s₂.heap.objs.size St S J) ?_ (n+1)
   (.mk h₁ _ 0 [] _ news rfl (Nat.zero_le _) rfl rfl hst₁ (F.keeps old) hns₁ (fun p hp=>?_) off₀ hS hj)
  ·rintro k s' ⟨h',tk,i,ys,m',news',rfl,hi,rfl,hyl,hst',F',hn',N',off',hS',R'⟩
   by_cases hlt:i<n
   ·refine W.item i _ _ _ hlt hst' fun v h₂ tk₂ hPv hst₂ hk₂=>?_
    obtain ⟨t,v₁,v₂,v₃,v₄,rfl,hT,R''⟩:=R i v ys news' hPv R'
    have off3:=off'.mem
    have N₂:=news_keep N' hk₂ hDI fun p hp=>(off3 p hp).1
    have F₂:=fr_but F' hk₂ hIL hI₀
    obtain ⟨lI,jI,hLi⟩:=hLI _ _ hst₂
    refine wpAny_letOwnedTupleGo_listiter hLi (assign4 hh (hT h₂ F₂ fun p hp=>N₂ p (List.mem_cons_of_mem _ hp)) hkind hx₁ hx₂ hx₃ hx₄ hd F₂ hCL hC₀ (hn'.at' fun o e=>hk₂ _ o (by simpa using Ne.symm hCI) e) fun h₃ m₂ tk₃ F₃ hn₃ e1 e2 e3 e4 old3=>?_)
    have hst₃:St (i+1) h₃:=W.frame _ _ _ hst₂ fun b hb o e=>old3 b o (fun q=>hCf (by rw [←q];exact hb)) e
    obtain ⟨oI,heI⟩:=hIo _ _ hst₃
    obtain ⟨oC,heC,hoC⟩:=ns_obj hn₃
    refine wpAny_mono (R'' I oI H2.objs.size oC s₂.heap.objs.size _ h₃ _ _ hoC e1 e2 e3 e4 F₃ (news3 N₂ heI hIL hI₀ heC hCL hC₀ hDC (fun p hp=>(off3 p hp).2.1) old3) off' ⟨hCI,hDI,Ne.symm hDC⟩) (fun y s₄ h₄=>?_) fun zq zq e=>e
    obtain ⟨h₄,tk₄,news₄,rfl,F₄,N₄,off₄,hS₄,R₄⟩:=h₄
    have N₄':News h₀ L h₄ news₄:=fun p hp=>N₄ p (List.mem_cons_of_mem _ (List.mem_cons_of_mem _ (List.mem_cons_of_mem _ hp)))
    have hst₄:St (i+1) h₄:=hSt _ _ _ _ _ hst₃ heI (N₄ (I,oI) List.mem_cons_self).1 F₄.keep N₄' hS₄
    exact append_at (hsz:=by show ys.toArray.size≤sizeLine;rw [List.size_toArray,hyl];exact Nat.le_trans hi hsz) (N₄ (s₂.heap.objs.size,lst ys) (List.mem_cons_of_mem _ (List.mem_cons_of_mem _ List.mem_cons_self))).1 fun h₅ hs₅ hD₅=>
     ⟨n+1 - (i+1),by omega,.mk h₅ tk₄ (i+1) (ys++[y]) _ news₄ rfl hlt rfl (by rw [List.length_append,List.length_singleton,hyl]) (W.frame _ _ _ hst₄ fun b hb o e=>hs₅.extBut b o (fun q=>hDf (q▸hb)) e) (F₄.change hs₅ hDL hD₀)
     ((hoC.ns (N₄ (H2.objs.size,oC) (List.mem_cons_of_mem _ List.mem_cons_self)).1).sameBut hs₅ (Ne.symm hDC)) (news_last N₄' (hD₅.trans (congrArg some (lst_snoc ys y))) hDL hD₀ (fun p hp=>(off₄.mem p hp).2.2) hs₅.extBut) off₄ hS₄ R₄⟩
   ·obtain rfl:i=n:=Nat.le_antisymm hi (Nat.not_lt.mp hlt)
    refine W.done _ _ _ hst' fun h₂ tk₂ hk₂=>?_
    have off3:=off'.mem
    exact hRR _ _ h₂ tk₂ _ ys news' (fr_but F' hk₂ hIL hI₀) (news_but N' hk₂ fun p hp=>by
     rcases List.mem_cons.mp hp with rfl|hp
     ·exact Ne.symm hDI
     ·exact (off3 p hp).1) off'.one (hn'.at' fun o e=>hk₂ _ o (by simpa using Ne.symm hCI) e) hC₀ hD₀ hCL hDL (Ne.symm hDC) (fun p hp=>(off3 p hp).2.1) R'
  ·rcases List.mem_cons.mp hp with rfl|hp
   ·exact ⟨hacc,hDL,hD₀⟩
   ·exact ⟨old _ _ (N p hp).1,(N p hp).2⟩
 exact codeAny_compStart_list (loop _ rfl) (W.self 0 _ _ _ hst₁ (loop _ rfl))
inductive SrcQ (prog:Program) (w:World) (A:Around) (h₀:Heap) (L:Addr) (m:Str→Option Value) (env:Env) (elt:Expr) (x₁ x₂ x₃ x₄:Str) (scope:Scope) (cl:List (Str×Addr)) (Fin:Shared→List Value→Led→Prop) (xv:Value) (s₁:Shared):Prop
 |mk (ax:Addr) (its:Array Value) (news:Led) (J:Nat→List Value→Led→Prop) (ex:xv= .ref ax) (hh:A.handled=none) (F:Fr h₀ L s₁.heap m) (N:News h₀ L s₁.heap news) (S:SrcAt h₀ ax its news) (hsz:its.size≤sizeLine) (hj:J 0 [] news)
  (R:TurnQ prog w A h₀ L m env elt x₁ x₂ x₃ x₄ scope cl s₁ (SrcAt h₀ ax its) (fun i v=>its[i]? =some v) J) (done:∀ g ys nx,J its.size ys nx→Fin { s₁ with heap:=g } ys nx)
theorem SrcQ.intro {elt:Expr} {x₁ x₂ x₃ x₄:Str} {scope:Scope} {cl:List (Str×Addr)} {Fin:Shared→List Value→Led→Prop} {ax:Addr} {its:Array Value} {k:Nat} {news:Led} {s₁:Shared} (J:Nat→List Value→Led→Prop)
 (hh:A.handled=none) (F:Fr h₀ L s₁.heap m) (N:News h₀ L s₁.heap news) (hm:(ax,({ cls:=.type "list",data:=.seq its k }:Obj))∈news) (hsz:its.size≤sizeLine) (hj:J 0 [] news)
 (R:TurnQ prog w A h₀ L m env elt x₁ x₂ x₃ x₄ scope cl s₁ (SrcAt h₀ ax its) (fun i v=>its[i]? =some v) J) (done:∀ g ys nx,J its.size ys nx→Fin { s₁ with heap:=g } ys nx):
 SrcQ prog w A h₀ L m env elt x₁ x₂ x₃ x₄ scope cl Fin (.ref ax) s₁:=⟨ax,its,news,J,rfl,hh,F,N,.inr ⟨_,hm,rfl,_,rfl⟩,hsz,hj,R,done⟩
theorem ListComp_Q {elt iter:Expr} {x₁ x₂ x₃ x₄:Str} {p₁ p₂ p₃ p₄ tp:Pos} {tk} {scope:Scope} {cl:List (Str×Addr)} {pos:Pos} {Q:Value→Shared→Prop} (_F₀:Fr h₀ L s.heap m)
  (hclos:closureFor scope env=pure cl) (hcell:∀ y∈scope.names,y.2≠.cell) (hkind:scope.kind= .function)
  (hnames:∀ y∈scope.names,y.2= .local→scope.names.lookup y.1=some .local) (hx₁:scope.names.lookup x₁=some .local) (hx₂:scope.names.lookup x₂=some .local) (hx₃:scope.names.lookup x₃=some .local) (hx₄:scope.names.lookup x₄=some .local)
  (hd:x₁≠x₂∧x₁≠x₃∧x₁≠x₄∧x₂≠x₃∧x₂≠x₄∧x₃≠x₄)
  (h:wpAny (model prog w) A (eval iter env) (SrcQ prog w A h₀ L m env elt x₁ x₂ x₃ x₄ scope cl (fun s₂=>FinE h₀ L m s₂ Q)) E s)
  (hs:∀ x,foldedSetIterable iter env x=pure x:=by intro _;rfl):
  wpAny (model prog w) A (eval (.ListComp elt [⟨.Tuple [.Name x₁ p₁,.Name x₂ p₂,.Name x₃ p₃,.Name x₄ p₄] tk tp,iter,[],0⟩] scope pos) env) Q E s:=by
 rw [eval_ListComp]
 refine wpAny_comprehension_free (use:=none) rfl hs hclos hkind hnames (wpAny_mono h (fun xv s₁ h₁=>?_) fun zq zq e=>e)
 obtain ⟨ax,its,news,J,rfl,hh,F,N,S,hsz,hj,R,done⟩:=h₁
 have hl:=S.list F.keep N
 have hlt:ax<s₁.heap.objs.size:=by obtain ⟨_,e,_⟩:=hl;exact Heap.lt_size e
 refine wpAny_pyIter_list hl ?_
 have up:∀ b o,s₁.heap.get? b=some o→(s₁.heap.push { cls:=.type "list_iterator",data:=.fields #[.ref ax,.int 0 0] }).get? b=some o:=fun b o e=>Heap.get?_push_of_some _ e
 refine block_Q (J:=J) (Walks.list hh s₁.heap.objs.size ax (Nat.ne_of_lt hlt) its) hsz (fun i h st=>by obtain ⟨o,e,_⟩:=st.1;exact ⟨o,e⟩) list_st hcell hkind hx₁ hx₂ hx₃ hx₄ hd hh (fun i h st=>⟨_,_,st.1⟩) ⟨⟨_,Heap.get?_push_size _ rfl,rfl,rfl⟩,hl.push _⟩ (fun b hb=>?_)
  (F.keeps up) (N.grown up) (Nat.ne_of_lt F.ns.lt) (next_is_new F) (fun p hp=>Nat.ne_of_lt (Heap.lt_size (N p hp).1)) S hj R ?_
 ·show b<(s₁.heap.push _).objs.size
  rw [Heap.size_push]
  rcases List.mem_cons.mp hb with rfl|hb
  ·exact Nat.lt_succ_self _
  ·rw [List.mem_singleton.mp hb];exact Nat.lt_succ_of_lt hlt
 ·intro D C h tk m' ys news' F' N' o1 hn hC₀ hD₀ hCL hDL hCD offC fin
  refine ⟨m',hn,fun h'' hs''=>done s₁.heap _ _ fin D h'' tk (F'.change hs'' hCL hC₀) (fun p hp=>?_) o1⟩
  refine ⟨hs''.extBut _ _ ?_ (N' p hp).1,(N' p hp).2⟩
  rcases List.mem_cons.mp hp with rfl|hp
  ·exact Ne.symm hCD
  ·exact offC p hp
set_option tactic.hygienic true
end
end LQ
end
section
namespace LD
open LCg
section
variable {prog:Program} {w:World} {A:Around} {E:Value→Shared→Prop} {s:Shared} {h₀:Heap} {L:Addr} {m:Str→Option Value} {env:Env}
set_option tactic.hygienic false
inductive KVEnd (w:World) (h₀:Heap) (L:Addr) (m:Str→Option Value) (s₁:Shared) (I:Addr) (oI:Obj) (C:Addr) (oC:Obj) (D:Addr) (oD:Obj) (S:Led→Prop) (rest:Str→Value→Led→Prop) (y z:Value) (s₂:Shared):Prop
 |mk (h':Heap) (tk:Nat) (nx:Led) (k:Str) (es:s₂={ s₁ with heap:=h',toks:=tk }) (F:Fr h₀ L h' m) (N:News h₀ L h' ((I,oI)::(C,oC)::(D,oD)::nx)) (off:Off3 I C D nx) (hS:S nx) (hk:(PySem.strKind PG w).is k y=true) (r:rest k z nx)
theorem KVEnd.intro {w:World} {I C D:Addr} {s₁:Shared} {oI oC oD:Obj} {S:Led→Prop} {rest:Str→Value→Led→Prop} {k:Str} {t:Tok} {z:Value} {h':Heap} {tk:Nat} {all:Led}
 (F:Fr h₀ L h' m) (N:News h₀ L h' all) (nx:Led) (sub:∀ p∈(I,oI)::(C,oC)::(D,oD)::nx,p∈all) (off:Off3 I C D nx) (hS:S nx) (r:rest k z nx):
 KVEnd w h₀ L m s₁ I oI C oC D oD S rest (.str k t) z { s₁ with heap:=h',toks:=tk }:=.mk h' tk nx k rfl F (fun p hp=>N p (sub p hp)) off hS (strKind_is _ _ _ _) r
noncomputable def DAt (w:World) (d:Addr) (kvs:List (Str×Value)) (ep:Nat) (nx:Led):Prop:=∃ o,(d,o)∈nx∧KdkAt (PySem.strKind PG w) o kvs ep
noncomputable def TurnD (w:World) (A:Around) (h₀:Heap) (L:Addr) (m:Str→Option Value) (env:Env) (kx vx:Expr) (x:Str) (scope:Scope) (cl:List (Str×Addr)) (s:Shared) (d:Addr) (src:List (Str×Value)) (ep:Nat) (J:Nat→List (Str×Value)→Led→Prop):Prop:=
 ∀ i k0 t0 v0 kvs nx I oI C oC D oD m₂ h tk (E':Value→Shared→Prop),src[i]? =some (k0,v0)→J i kvs nx→DAt w d src ep nx→oD.IsDictOf (PySem.strKind PG w) kvs→NsObj oC m₂→m₂ x=some (.str k0 t0)→Fr h₀ L h m→News h₀ L h ((I,oI)::(C,oC)::(D,oD)::nx)→Off3 I C D nx→((@Ne Nat I C)∧(@Ne Nat I D)∧(@Ne Nat C D))→
   wpAny (model PG w) A (eval kx (compEnvC scope cl C env)) (fun y s₂=>wpAny (model PG w) A (eval vx (compEnvC scope cl C env)) (fun z s₃=>
    KVEnd w h₀ L m { s with heap:=h,toks:=tk } I oI C oC D oD (DAt w d src ep) (fun k z nx'=>J (i+1) (stored kvs k z) nx') y z s₃) E' s₂) E' { s with heap:=h,toks:=tk }
noncomputable def FinD (w:World) (h₀:Heap) (L:Addr) (m:Str→Option Value) (s₂:Shared) (Q:Value→Shared→Prop) (kvs:List (Str×Value)) (nx:Led):Prop:=
 ∀ D oD h' tk,oD.IsDictOf (PySem.strKind PG w) kvs→Fr h₀ L h' m→News h₀ L h' ((D,oD)::nx)→(∀ p∈nx,@Ne Nat p.1 D)→(D==sysModules)=false→Q (.ref D) { s₂ with heap:=h',toks:=tk }
inductive StD (w:World) (s₂:Shared) (src:List (Str×Value)) (ep:Nat) (h₀:Heap) (L:Addr) (m:Str→Option Value) (I d C D:Addr) (J:Nat→List (Str×Value)→Led→Prop) (k:Nat) (s':Shared):Prop
 |mk (h':Heap) (tk i:Nat) (kvs:List (Str×Value)) (oD:Obj) (m':Str→Option Value) (news':Led) (es:s'={ s₂ with heap:=h',toks:=tk }) (hi:i≤src.length) (ek:k=src.length+1 - i) (hl:kvs.length≤i) (hst:h'.IsKeyIter I d i src.length ep∧h'.DictAt (PySem.strKind PG w) d src ep) (hd:oD.IsDictOf (PySem.strKind PG w) kvs) (F:Fr h₀ L h' m) (hn:h'.Ns C m') (N:News h₀ L h' ((D,oD)::news')) (off:Off3 I C D news') (hS:DAt w d src ep news') (hJ:J i kvs news')
theorem block_D {w:World} {kx vx iter:Expr} {x:Str} {px:Pos} {scope:Scope} {cl:List (Str×Addr)} {pos:Pos} {s₂:Shared} {I d:Addr} {src:List (Str×Value)} {ep:Nat} {news:Led} {J:Nat→List (Str×Value)→Led→Prop} {RR:Value→Addr→Result→Shared→Prop}
  (hh:A.handled=none) (hdI:d≠I) (hsz:src.length≤sizeLine)
  (hcell:∀ y∈scope.names,y.2≠.cell) (hkind:scope.kind= .function) (hx:scope.names.lookup x=some .local)
  (hst:s₂.heap.IsKeyIter I d 0 src.length ep∧s₂.heap.DictAt (PySem.strKind PG w) d src ep)
  (F:Fr h₀ L s₂.heap m) (N:News h₀ L s₂.heap news) (hIL:L≠I) (hI₀:h₀.get? I=none) (off:∀ p∈news,p.1≠I) (hS:DAt w d src ep news)
  (hj:J 0 [] news) (R:TurnD w A h₀ L m env kx vx x scope cl s₂ d src ep J)
  (hRR:∀ D oD C h tk m' kvs news',oD.IsDictOf (PySem.strKind PG w) kvs→Fr h₀ L h m→News h₀ L h ((D,oD)::news')→Off1 D news'→h.Ns C m'→h₀.get? C=none→h₀.get? D=none→s₂.heap.objs.size≤D→C≠L→D≠L→C≠D→(∀ p∈news',p.1≠C)→J src.length kvs news'→RR (.ref D) C (.ok .next) { s₂ with heap:=h,toks:=tk }):
  wpAny (model PG w) A newDict (fun acc s₃=>wpAny (model PG w) A (newFunctionEnv scope env.globals cl [] env.qual none .none (some env)) (fun cenv s₄=>
   codeAny (model PG w) A (.compStart (.DictComp kx vx [⟨.Name x px,iter,[],0⟩] scope pos) 0 (.ref I) acc { cenv with scope:=relabel scope env }) (RR acc cenv.locals) s₄) E s₃) E s₂:=by
 have W:=Walks.dictKeys (prog:=PG) (w:=w) (knd:=PySem.strKind PG w) hh I d hdI src ep
 have hfp:∀ b∈[I,d],b<s₂.heap.objs.size:=fun b hb=>by
  rcases List.mem_cons.mp hb with rfl|hb
  ·obtain ⟨_,e,_⟩:=hst.1;exact Heap.lt_size e
  ·rw [List.mem_singleton.mp hb];exact hst.2.lt_size
 refine wpAny_newObj_type (wpAny_newFunctionEnv hcell (by intro y hy;simp at hy) (fun h₁ hns₁ hsb₁=>?_) hkind)
 dsimp only at hns₁ hsb₁ ⊢
 have hnew:(s₂.heap.push { cls:=.type "dict",dict:=none,data:=.dict #[] }).DictOf (PySem.strKind PG w) s₂.heap.objs.size []:=Heap.DictOf.new s₂.heap
 generalize hH2:s₂.heap.push { cls:=.type "dict",dict:=none,data:=.dict #[] }=H2 at hns₁ hsb₁ hnew ⊢
 have hC:H2.objs.size=s₂.heap.objs.size+1:=by rw [←hH2,Heap.size_push]
 have hDC:s₂.heap.objs.size≠H2.objs.size:=by rw [hC];exact Nat.ne_of_lt (Nat.lt_succ_self _)
 have below:∀ b,b<s₂.heap.objs.size→b≠H2.objs.size∧b≠s₂.heap.objs.size:=fun b hb=>⟨by rw [hC];exact Nat.ne_of_lt (Nat.lt_succ_of_lt hb),Nat.ne_of_lt hb⟩
 have hDf:s₂.heap.objs.size∉[I,d]:=fun hm=>Nat.lt_irrefl _ (hfp _ hm)
 have hCf:H2.objs.size∉[I,d]:=fun hm=>by have:=hfp _ hm;rw [hC] at this;exact Nat.lt_irrefl _ (Nat.lt_of_succ_lt this)
 have hIlt:I<s₂.heap.objs.size:=hfp I (by simp)
 have old:∀ b o,s₂.heap.get? b=some o→h₁.get? b=some o:=fun b o e=>hsb₁.extBut b o (below b (Heap.lt_size e)).1 (Heap.get?_push_of_some _ (hH2▸Heap.get?_push_of_some _ e))
 have hacc:h₁.DictOf (PySem.strKind PG w) s₂.heap.objs.size []:=hnew.at fun o e=>hsb₁.extBut _ _ hDC (Heap.get?_push_of_some _ e)
 have hst₁:h₁.IsKeyIter I d 0 src.length ep∧h₁.DictAt (PySem.strKind PG w) d src ep:=W.frame _ _ _ hst fun b zq o e=>old b o e
 have fresh₀:∀ a,s₂.heap.objs.size≤a→h₀.get? a=none:=fun a ha=>by
  cases e:h₀.get? a with
  |none=>rfl
  |some o'=>exact absurd (Heap.lt_size (F.keep a o' e)) (Nat.not_lt.mpr ha)
 have hD₀:h₀.get? s₂.heap.objs.size=none:=fresh₀ _ (Nat.le_refl _)
 have hC₀:h₀.get? H2.objs.size=none:=fresh₀ _ (by rw [hC];exact Nat.le_succ _)
 have hLlt:L<s₂.heap.objs.size:=F.ns.lt
 have hDL:s₂.heap.objs.size≠L:=Ne.symm (below L hLlt).2
 have hCL:H2.objs.size≠L:=Ne.symm (below L hLlt).1
 have hCI:I≠H2.objs.size:=(below I hIlt).1
 have hDI:I≠s₂.heap.objs.size:=(below I hIlt).2
 have off₀:Off3 I H2.objs.size s₂.heap.objs.size news:=Off3.of fun p hp=>⟨off p hp,(below _ (Heap.lt_size (N p hp).1)).1,(below _ (Heap.lt_size (N p hp).1)).2⟩
 obtain ⟨oD0,hoD0,hdD0⟩:=Heap.dictOf_iff.mp hacc
 have loop:∀ s₃:Shared,s₃={ s₂ with heap:=h₁,toks:=s₂.toks+([]:List (Str×Value)).length }→
   codeAny (model PG w) A (.compLoop (.DictComp kx vx [⟨.Name x px,iter,[],0⟩] scope pos) 0 (.ref I) (.ref s₂.heap.objs.size) (compEnvC scope cl H2.objs.size env))
    (RR (.ref s₂.heap.objs.size) H2.objs.size) s₃:=by
  rintro s₃ rfl
  refine codeAny_compLoop_testsD
   (StD w s₂ src ep h₀ L m I d H2.objs.size s₂.heap.objs.size J) ?_ (src.length+1)
   (.mk h₁ _ 0 [] oD0 _ news rfl (Nat.zero_le _) rfl (Nat.le_refl _) hst₁ hdD0 (F.keeps old) hns₁ (fun p hp=>?_) off₀ hS hj)
  ·rintro k s' ⟨h',tk,i,kvs,oD,m',news',rfl,hi,rfl,hkl,hst',hdD,F',hn',N',off',hS',R'⟩
   by_cases hlt:i<src.length
   ·refine W.item i _ _ _ hlt hst' fun v h₂ tk₂ hPv hst₂ hk₂=>?_
    obtain ⟨k0,v0,hsrc,hk0⟩:=hPv
    obtain ⟨t0,rfl⟩:=PySem.Value.isStrOf_shape hk0
    have off3:=off'.mem
    have N₂:=LQ.news_keep N' hk₂ hDI fun p hp=>(off3 p hp).1
    have F₂:=fr_but F' hk₂ hIL hI₀
    refine wpAny_assign_Name (wpAny_storeName_local (lookup_relabel_local hx) (hn'.at' fun o e=>hk₂ _ o (by simpa using Ne.symm hCI) e) (fun h₃ hn₃ hs₃=>?_) (by simp [compEnvC,relabel,hkind]))
    have hst₃:h₃.IsKeyIter I d (i+1) src.length ep∧h₃.DictAt (PySem.strKind PG w) d src ep:=W.frame _ _ _ hst₂ fun b hb o e=>hs₃.extBut b o (fun q=>hCf ((show b=H2.objs.size from q)▸hb)) e
    obtain ⟨oI,heI,hcI⟩:=id hst₃.1
    obtain ⟨oC,heC,hoC⟩:=ns_obj hn₃
    refine wpAny_mono (Q:=fun ok s₃=>ok=true∧s₃=_) (wpAny_tests_nil ⟨rfl,rfl⟩) (fun ok s₃ h₃'=>?_) fun zq zq h'=>h'
    obtain ⟨rfl,rfl⟩:=h₃'
    rw [if_pos rfl]
    refine wpAny_mono (R i k0 t0 v0 kvs news' I oI H2.objs.size oC s₂.heap.objs.size oD _ h₃ _ _ hsrc R' hS' hdD hoC (by simp) (F₂.change hs₃ hCL hC₀) (LQ.news3 N₂ heI hIL hI₀ heC hCL hC₀ hDC (fun p hp=>(off3 p hp).2.1) hs₃.extBut) off' ⟨hCI,hDI,Ne.symm hDC⟩) (fun y s₄ h₄=>wpAny_mono h₄ (fun z s₅ h₅=>?_) fun zq zq e=>e) fun zq zq e=>e
    obtain ⟨h₅,tk₅,news₅,kk,rfl,F₅,N₅,off₅,hS₅,hky,R₅⟩:=h₅
    have N₅':News h₀ L h₅ news₅:=fun p hp=>N₅ p (List.mem_cons_of_mem _ (List.mem_cons_of_mem _ (List.mem_cons_of_mem _ hp)))
    obtain ⟨od,hod,hkd⟩:=hS₅
    have el:=stored_length_le kvs kk z
    refine wpAny_dictSet_pairs (hsz:=by omega) hky (Heap.dictOf_iff.mpr ⟨oD,(N₅ (s₂.heap.objs.size,oD) (List.mem_cons_of_mem _ (List.mem_cons_of_mem _ List.mem_cons_self))).1,hdD⟩) fun h₆ hl₆ hs₆=>?_
    obtain ⟨oD6,hoD6,hdD6⟩:=Heap.dictOf_iff.mp hl₆
    exact ⟨src.length+1 - (i+1),by omega,.mk h₆ _ (i+1) (stored kvs kk z) oD6 _ news₅ rfl hlt rfl (by omega) (W.frame _ _ _ ⟨⟨oI,(N₅ (I,oI) List.mem_cons_self).1,hcI⟩,hkd.dictAt (N₅' _ hod).1⟩ fun b hb o e=>hs₆.extBut b o (fun q=>hDf (q▸hb)) e) hdD6 (F₅.change hs₆ hDL hD₀)
     ((hoC.ns (N₅ (H2.objs.size,oC) (List.mem_cons_of_mem _ List.mem_cons_self)).1).sameBut hs₆ (Ne.symm hDC)) (LQ.news_last N₅' hoD6 hDL hD₀ (fun p hp=>(off₅.mem p hp).2.2) hs₆.extBut) off₅ ⟨od,hod,hkd⟩ R₅⟩
   ·obtain rfl:i=src.length:=Nat.le_antisymm hi (Nat.not_lt.mp hlt)
    refine W.done _ _ _ hst' fun h₂ tk₂ hk₂=>?_
    have off3:=off'.mem
    exact hRR _ _ _ h₂ tk₂ _ kvs news' hdD (fr_but F' hk₂ hIL hI₀) (news_but N' hk₂ fun p hp=>by
     rcases List.mem_cons.mp hp with rfl|hp
     ·exact Ne.symm hDI
     ·exact (off3 p hp).1) off'.one (hn'.at' fun o e=>hk₂ _ o (by simpa using Ne.symm hCI) e) hC₀ hD₀ (Nat.le_refl _) hCL hDL (Ne.symm hDC) (fun p hp=>(off3 p hp).2.1) R'
  ·rcases List.mem_cons.mp hp with rfl|hp
   ·exact ⟨hoD0,hDL,hD₀⟩
   ·exact ⟨old _ _ (N p hp).1,(N p hp).2⟩
 exact codeAny_compStart_dict (loop _ rfl) (W.self 0 _ _ _ hst₁ (loop _ rfl))
inductive SrcD (w:World) (A:Around) (h₀:Heap) (L:Addr) (m:Str→Option Value) (env:Env) (kx vx:Expr) (x:Str) (scope:Scope) (cl:List (Str×Addr)) (Fin:Shared→List (Str×Value)→Led→Prop) (xv:Value) (s₁:Shared):Prop
 |mk (d:Addr) (od:Obj) (src:List (Str×Value)) (ep:Nat) (news:Led) (J:Nat→List (Str×Value)→Led→Prop) (ex:xv= .ref d) (hh:A.handled=none) (F:Fr h₀ L s₁.heap m) (N:News h₀ L s₁.heap news) (hm:(d,od)∈news) (hd:KdkAt (PySem.strKind PG w) od src ep) (lo:(d==sysModules)=false) (hsz:src.length≤sizeLine) (hj:J 0 [] news)
  (R:TurnD w A h₀ L m env kx vx x scope cl s₁ d src ep J) (done:∀ g kvs nx,J src.length kvs nx→Fin { s₁ with heap:=g } kvs nx)
theorem DictComp_D {w:World} {kx vx iter:Expr} {x:Str} {px:Pos} {scope:Scope} {cl:List (Str×Addr)} {pos:Pos} {Q:Value→Shared→Prop} (_F₀:Fr h₀ L s.heap m) (nol:h₀.NoLimit)
  (hclos:closureFor scope env=pure cl) (hcell:∀ y∈scope.names,y.2≠.cell) (hkind:scope.kind= .function)
  (hnames:∀ y∈scope.names,y.2= .local→scope.names.lookup y.1=some .local) (hx:scope.names.lookup x=some .local)
  (h:wpAny (model PG w) A (eval iter env) (SrcD w A h₀ L m env kx vx x scope cl (fun s₂=>FinD w h₀ L m s₂ Q)) E s)
  (hs:∀ x,foldedSetIterable iter env x=pure x:=by intro _;rfl):
  wpAny (model PG w) A (eval (.DictComp kx vx [⟨.Name x px,iter,[],0⟩] scope pos) env) Q E s:=by
 rw [arm_eval_DictComp]
 refine wpAny_comprehension_free (use:=none) rfl hs hclos hkind hnames (wpAny_mono h (fun xv s₁ h₁=>?_) fun zq zq e=>e)
 obtain ⟨d,od,src,ep,news,J,rfl,hh,F,N,hm,hd,lo,hsz,hj,R,done⟩:=h₁
 have hdat:=hd.dictAt (N _ hm).1
 have hlt:d<s₁.heap.objs.size:=hdat.lt_size
 refine wpAny_pyIter_dict lo hdat ?_
 have up:∀ b o,s₁.heap.get? b=some o→(s₁.heap.push { cls:=.type "dict_keyiterator",data:=.fields #[.ref d,.int 0 0,.int src.length 0,.int ep 0] }).get? b=some o:=fun b o e=>Heap.get?_push_of_some _ e
 refine block_D (J:=J) hh (Nat.ne_of_lt hlt) hsz hcell hkind hx ⟨⟨_,Heap.get?_push_size _ rfl,rfl,rfl⟩,hdat.push _⟩
  (F.keeps up) (N.grown up) (Nat.ne_of_lt F.ns.lt) (next_is_new F) (fun p hp=>Nat.ne_of_lt (Heap.lt_size (N p hp).1)) ⟨od,hm,hd⟩ hj R ?_
 intro D oD C h tk m' kvs news' hdD F' N' o1 hn hC₀ hD₀ hDs hCL hDL hCD offC fin
 have lo':(D==sysModules)=false:=by
  have h3:=modules_low nol
  have h4:h₀.objs.size≤(s₁.heap.push { cls:=.type "dict_keyiterator",data:=.fields #[.ref d,.int 0 0,.int src.length 0,.int ep 0] }).objs.size:=Nat.le_trans (F.keeps up).above (Nat.le_of_lt (F.keeps up).ns.lt)
  exact beq_eq_false_iff_ne.mpr (Nat.ne_of_gt (Nat.lt_of_lt_of_le h3 (Nat.le_trans h4 hDs)))
 refine ⟨m',hn,fun h'' hs''=>done s₁.heap _ _ fin D oD h'' tk hdD (F'.change hs'' hCL hC₀) (fun p hp=>?_) (LG.off1 o1) lo'⟩
 refine ⟨hs''.extBut _ _ ?_ (N' p hp).1,(N' p hp).2⟩
 rcases List.mem_cons.mp hp with rfl|hp
 ·exact Ne.symm hCD
 ·exact offC p hp
set_option tactic.hygienic true
end
end LD
end
section
section
variable {prog:Program} {w:World} {A:Around} {E:Value→Shared→Prop} {s:Shared} {env:Env} {h₀:Heap} {body:List Stmt} {Q:Flow→Shared→Prop}
set_option tactic.hygienic false
theorem two_of_map {its:Led} {x y:Addr} (h:its.map (·.1)=[x,y]):∃ p q,its=[p,q]:=by
 rcases its with _|⟨p,_|⟨q,_|⟨r,its⟩⟩⟩
 ·simp at h
 ·simp at h
 ·exact ⟨p,q,rfl⟩
 ·simp at h
theorem lp_enum2 {elts:List Expr} {kk:Nat} {pos:Pos} {ax e it:Addr} {oE oI:Obj} {vs:List Value} {k:Nat} {m₀:Str→Option Value} {news:Led} (J:Nat→(Str→Option Value)→Led→Prop)
  (hh:A.handled=none) (F:Fr h₀ env.locals s.heap m₀) (N:News h₀ env.locals s.heap ((e,oE)::(it,oI)::news)) (hE:oE={ cls:=.type "enumerate",dict:=none,data:=.fields #[.none,.bool false,.ref it,rawInt 0,.none,.none],slots:=#[] }) (hI:oI.cls= .type "list_iterator"∧oI.data= .fields #[.ref ax,.int 0 0])
  (hne:e≠it) (hoff:∀ p∈news,p.1≠e∧p.1≠it) (hj:J 0 m₀ news) (hk:∀ i m nx,J i m nx→(ax,listOf vs.toArray k)∈nx)
  (turn:∀ i T t x m₁ nx h tk I oI I2 oI2,vs[i]? =some x→J i m₁ nx→(∀ p∈nx,@Ne Nat p.1 I)→(∀ p∈nx,@Ne Nat p.1 I2)→(@Ne Nat I I2)→Fr h₀ env.locals h m₁→News h₀ env.locals h ((I,oI)::(I2,oI2)::nx)→IsTup h T #[.int (i:Int) t,x]→
    wpAny (model prog w) A (assign (.Tuple elts kk pos) env (.ref T)) (fun zq s₂=>wpAny (model prog w) A (execs body env) (LpPost h₀ env.locals [(I,oI),(I2,oI2)] (J (i+1)) { s with heap:=h,toks:=tk } Q) E s₂) E { s with heap:=h,toks:=tk })
  (done:∀ m₁ nx h tk,J vs.length m₁ nx→Fr h₀ env.locals h m₁→News h₀ env.locals h nx→Q .next { s with heap:=h,toks:=tk }):
  wpAny (model prog w) A (pyIter (.ref e)) (fun it s₂=>TurnsAt prog w A h₀ env (.Tuple elts kk pos) body Q E it s₂) E s:=by
 have ne:=N _ (.head _)
 have ni:=N _ (.tail _ (.head _))
 have hax:=N _ (.tail _ (.tail _ (hk _ _ _ hj)))
 obtain ⟨xe,xi⟩:=hoff _ (hk _ _ _ hj)
 have hl:s.heap.IsList ax vs.toArray:=⟨_,hax.1,rfl,k,rfl⟩
 have hEn:IsEnum s.heap e it 0 .none:=by subst hE;exact ne.1
 refine wpAny_pyIter_enum hEn ?_
 refine lp_core (tk0:=s.toks) (keep:=[(ax,listOf vs.toArray k)]) (KTurns.ofWalksU (WalksT.enumerate hh e it ax hne xe xi vs.toArray).toU) J ?_ ?_ ?_ ?_ ?_ ?_ F (fun p hp=>N p (.tail _ (.tail _ hp))) hj
  (fun i m nx h p hp=>by rw [List.mem_singleton.mp hp];exact hk _ _ _ h) ?_ ?_
 ·rintro i h ⟨⟨old,he⟩,⟨oi,hoi,hic,_⟩,_⟩
  have he':∃ oe:Obj,h.get? e=some oe:=⟨_,he⟩
  obtain ⟨oe,h1⟩:=he'
  refine ⟨[(e,oe),(it,oi)],rfl,fun p hp=>?_⟩
  rcases List.mem_cons.mp hp with rfl|hp
  ·exact h1
  ·rw [List.mem_singleton.mp hp];exact hoi
 ·intro b hb
  rcases List.mem_cons.mp hb with rfl|hb
  ·exact ⟨.head _,ne.2.2⟩
  ·rw [List.mem_singleton.mp hb];exact ⟨.tail _ (.head _),ni.2.2⟩
 ·intro b hb
  rcases List.mem_cons.mp hb with rfl|hb
  ·exact .inl (.head _)
  ·rcases List.mem_cons.mp hb with rfl|hb
   ·exact .inl (.tail _ (.head _))
   ·rw [List.mem_singleton.mp hb];exact .inr (.inl ⟨_,List.mem_singleton_self _⟩)
 ·intro hL
  rcases List.mem_cons.mp hL with q|hL
  ·exact ne.2.1 q.symm
  ·rcases List.mem_cons.mp hL with q|hL
   ·exact ni.2.1 q.symm
   ·exact hax.2.1 (List.mem_singleton.mp hL).symm
 ·intro p hp hI'
  rcases List.mem_cons.mp hI' with q|hI'
  ·exact (hoff p hp).1 q
  ·exact (hoff p hp).2 (List.mem_singleton.mp hI')
 ·exact ⟨⟨.none,hEn⟩,⟨_,ni.1,hI.1,hI.2⟩,hl⟩
 ·rintro i v m₁ nx h tk its hi ⟨T,vals,rfl,⟨t,x,hx,rfl⟩,hT⟩ hJ hits off F₁ N₁
  obtain ⟨⟨I,oI⟩,⟨I2,oI2⟩,rfl⟩:=two_of_map hits
  have e1:I=e:=(List.cons.inj hits).1
  have e2:I2=it:=(List.cons.inj (List.cons.inj hits).2).1
  have hv:vs[i]? =some x:=by simpa using hx
  exact turn i T t x m₁ nx h tk I oI I2 oI2 hv hJ (fun p hp=>off p hp _ (.head _)) (fun p hp=>off p hp _ (.tail _ (.head _))) (by rw [e1,e2];exact hne) F₁ N₁ hT
 ·intro m₁ nx h tk hJ F₁ N₁
  exact done m₁ nx h tk (by simpa using hJ) F₁ N₁
set_option tactic.hygienic true
end
end
section
structure Cx (w:World) where
 mean:ExcName→Option Value
 mg:Str→Option Value
 mb:Str→Option Value
 dp:Nat
 un:Nat
 gd:Option (List Code)
 cn:Str
 cs:Scope
 a:Addr
 ccd:Value
 cl:List (Str×Addr)
 outer:List Env
 A₀:Around
 base:Heap
 h₀:Heap
 L:Addr
 B:Below A₀ base outer h₀
 X:(hd.heap_39 w.params).In h₀
 T:Top VW LO mean mg mb h₀
 hk:cs.kind= .function
 D:Nat
 hd:dp+D<recursionLimit
 hu:un+10*D<cLine
 hid:Led
section
variable {w:World}
set_option tactic.hygienic false
noncomputable abbrev Cx.A (C:Cx w):Around:=ktrTop C.dp C.un C.gd C.cn C.cs C.L C.a C.ccd C.cl C.outer
noncomputable abbrev Cx.env (C:Cx w):Env:=envX C.cn C.cs C.L C.a C.ccd C.cl
noncomputable abbrev Fm:=Str→Option Value
structure St (C:Cx w) (m:Fm) (l:Led) (s:Shared):Prop where
 F:Fr C.h₀ C.L s.heap m
 N:News C.h₀ C.L s.heap (l++C.hid)
 D:(l++C.hid).Pairwise fun p q=>p.1≠q.1
noncomputable abbrev NoE:Value→Shared→Prop:=fun zq zq=>False
noncomputable def EV {α:Type} (C:Cx w) (t:Sem α) (m:Fm) (l:Led) (K:α→Led→Prop):Prop:=
 ∀ s (Q:α→Shared→Prop),St C m l s→(∀ v l' h' tk',K v l'→St C m l' { s with heap:=h',toks:=tk' }→Q v { s with heap:=h',toks:=tk' })→wpAny (model PG w) C.A t Q NoE s
variable {C:Cx w} {m:Fm} {l:Led} {α β:Type} {K:Value→Led→Prop} {env:Env}
theorem EV.mono {t:Sem α} {K K':α→Led→Prop} (h:EV C t m l K) (k:∀ v l',K v l'→K' v l'):EV C t m l K':=fun s zq S q=>h s _ S fun v l' h' tk' kv S'=>q v l' h' tk' (k v l' kv) S'
theorem EV.pure {a:α} {K:α→Led→Prop} (k:K a l):EV C (Pure.pure a:Sem α) m l K:=fun s zq S q=>wpAny_pure (q a l s.heap s.toks k S)
theorem EV.bind {t:Sem α} {f:α→Sem β} {K:β→Led→Prop} (h:EV C t m l fun a l=>EV C (f a) m l K):EV C (t>>=f) m l K:=fun s zq S q=>wpAny_bind (h s _ S fun zq zq zq zq k S=>k _ _ S fun v l' h' tk' kv S'=>q v l' h' tk' kv S')
theorem EV.standAt {pos:Pos} {K:Unit→Led→Prop} (k:K () l):EV C (PySem.standAt pos) m l K:=fun s zq S q=>wpAny_standAt (q () l s.heap s.toks k S)
theorem EV.holding {t:Sem α} {vs:List Value} {K:α→Led→Prop} (h:EV C t m l K):EV C (PySem.holding vs t) m l K:=fun s zq S q=>wpAny_holding (h s _ S q)
theorem EV.bin {e₁ e₂:Expr} {op:Operator} {pos:Pos}
  (h:EV C (eval e₁ env) m l fun x l=>EV C (eval e₂ env) m l fun y l=>EV C (binaryOp op x y) m l K):EV C (eval (.BinOp e₁ op e₂ pos) env) m l K:=
 fun s zq S q=>wpAny_BinOp (h s _ S fun zq zq zq zq k S=>k _ _ S fun zq zq zq zq k S=>k _ _ S fun v l' h' tk' kv S'=>q v l' h' tk' kv S')
theorem EV.cmp1 {e₁ e₂:Expr} {op:CmpOp} {pos:Pos} (hm:behindInMarks op e₂=false)
  (h:EV C (eval e₁ env) m l fun x l=>EV C (eval e₂ env) m l fun y l=>EV C (compareOp op x y) m l K):EV C (eval (.Compare e₁ [op] [e₂] pos) env) m l K:=
 fun s zq S q=>wpAny_Compare1 (h s _ S fun zq zq zq zq k S=>k _ _ S fun zq zq zq zq k S=>k _ _ S fun v l' h' tk' kv S'=>q v l' h' tk' kv S') hm
theorem EV.un {e:Expr} {op:UnaryOp} {pos:Pos} (h:EV C (eval e env) m l fun x l=>EV C (unaryOp op x) m l K):EV C (eval (.UnaryOp op e pos) env) m l K:=
 fun s zq S q=>wpAny_UnaryOp (h s _ S fun zq zq zq zq k S=>k _ _ S fun v l' h' tk' kv S'=>q v l' h' tk' kv S')
theorem EV.ife {t b o:Expr} {pos:Pos} (h:EV C (isTrue t env (eval t env)) m l fun c l=>if c then EV C (eval b env) m l K else EV C (eval o env) m l K):EV C (eval (.IfExp t b o pos) env) m l K:=
 fun s zq S q=>wpAny_IfExp (h s _ S fun c zq zq zq k S=>by
  cases c
  ·exact k _ _ S fun v l' h' tk' kv S'=>q v l' h' tk' kv S'
  ·exact k _ _ S fun v l' h' tk' kv S'=>q v l' h' tk' kv S')
theorem EV.isTrueV {e:Expr} {t:Sem Value} {K:Bool→Led→Prop} (he:isTrue e env t=(do let v←t;PySem.standAt e.pos;PySem.holding [v] (truthy v)))
  (h:EV C t m l fun x l=>EV C (truthy x) m l K):EV C (isTrue e env t) m l K:=fun s zq S q=>by
 rw [he]
 exact wpAny_bind (h s _ S fun zq zq zq zq k S=>wpAny_bind (wpAny_standAt (wpAny_holding (k _ _ S fun v l' h' tk' kv S'=>q v l' h' tk' kv S'))))
theorem EV.isTrueNot {e:Expr} {pos:Pos} {t:Sem Value} {K:Bool→Led→Prop} (h:EV C (isTrue e env (eval e env)) m l fun b l=>K (!b) l):EV C (isTrue (.UnaryOp .Not e pos) env t) m l K:=
 fun s zq S q=>wpAny_isTrue_Not (h s _ S fun v l' h' tk' kv S'=>q (!v) l' h' tk' kv S')
theorem EV.isTrueCmp {e₁ e₂:Expr} {op:CmpOp} {pos:Pos} {t:Sem Value} {K:Bool→Led→Prop} (hm:behindInMarks op e₂=false)
  (h:EV C (eval e₁ env) m l fun x l=>EV C (eval e₂ env) m l fun y l=>EV C (compareOp op x y) m l fun z l=>EV C (truthy z) m l K):EV C (isTrue (.Compare e₁ [op] [e₂] pos) env t) m l K:=
 fun s zq S q=>wpAny_isTrue_Compare1 (h s _ S fun zq zq zq zq k S=>k _ _ S fun zq zq zq zq k S=>k _ _ S fun zq zq zq zq k S=>k _ _ S fun v l' h' tk' kv S'=>q v l' h' tk' kv S') hm
theorem EV.isTrueCmp2 {e₁ e₂ e₃:Expr} {o₁ o₂:CmpOp} {pos:Pos} {t:Sem Value} {K:Bool→Led→Prop} (hm:behindInMarks o₂ e₃=false)
  (h:EV C (eval e₁ env) m l fun x l=>EV C (eval e₂ env) m l fun y l=>EV C (compareOp o₁ x y) m l fun z l=>EV C (truthy z) m l fun c l=>if c then EV C (eval e₃ env) m l fun v l=>EV C (compareOp o₂ y v) m l fun z l=>EV C (truthy z) m l K else K false l):EV C (isTrue (.Compare e₁ [o₁,o₂] [e₂,e₃] pos) env t) m l K:=fun s zq S q=>by
 have e:isTrue (.Compare e₁ [o₁,o₂] [e₂,e₃] pos) env t=(do testChain pos (←eval e₁ env) [o₁,o₂] [eval e₂ env,eval e₃ env]):=by
  show (do testChain pos (←eval e₁ env) [o₁,o₂] [eval e₂ env,markedBehindIn o₂ e₃ (eval e₃ env)])=_
  unfold markedBehindIn
  rw [hm]
 rw [e]
 refine wpAny_bind (h s _ S fun x zq zq zq k S=>?_)
 refine wpAny_bind (wpAny_holding (k _ _ S fun y zq zq zq k S=>wpAny_bind (wpAny_standAt (wpAny_bind (wpAny_holding (k _ _ S fun z zq zq zq k S=>wpAny_bind (wpAny_releaseD (wpAny_bind (wpAny_holding (k _ _ S fun c l' h' tk' k S=>?_))))))))))
 cases c with
 |false=>exact wpAny_pure (q false _ _ _ k S)
 |true=>exact wpAny_bind (wpAny_holding (k _ _ S fun v zq zq zq k S=>wpAny_bind (wpAny_standAt (wpAny_bind (wpAny_operateT (k _ _ S fun z zq zq zq k S=>wpAny_holding (k _ _ S fun v l' h' tk' kv S'=>q v l' h' tk' kv S')))))))
theorem EV.allAndNil {K:Bool→Led→Prop} (k:K true l):EV C (allTrue .And [] env) m l K:=fun s zq S q=>wpAny_allTrue_And_nil (q _ l s.heap s.toks k S)
theorem EV.allOrNil {K:Bool→Led→Prop} (k:K false l):EV C (allTrue .Or [] env) m l K:=fun s zq S q=>wpAny_allTrue_Or_nil (q _ l s.heap s.toks k S)
theorem EV.allAnd {x:Expr} {r:List Expr} {K:Bool→Led→Prop} (h:EV C (isTrue x env (eval x env)) m l fun b l=>if b then EV C (allTrue .And r env) m l K else K false l):EV C (allTrue .And (x::r) env) m l K:=
 fun s zq S q=>wpAny_allTrue_And_cons (h s _ S fun c l' h' tk' k S=>by
  cases c
  ·exact q _ l' h' tk' k S
  ·exact k _ _ S fun v l' h' tk' kv S'=>q v l' h' tk' kv S')
theorem EV.allOr {x:Expr} {r:List Expr} {K:Bool→Led→Prop} (h:EV C (isTrue x env (eval x env)) m l fun b l=>if b then K true l else EV C (allTrue .Or r env) m l K):EV C (allTrue .Or (x::r) env) m l K:=
 fun s zq S q=>wpAny_allTrue_Or_cons (h s _ S fun c l' h' tk' k S=>by
  cases c
  ·exact k _ _ S fun v l' h' tk' kv S'=>q v l' h' tk' kv S'
  ·exact q _ l' h' tk' k S)
theorem EV.isTrueBool {op:BoolOp} {xs:List Expr} {pos:Pos} {t:Sem Value} {K:Bool→Led→Prop} (h:EV C (allTrue op xs env) m l K):EV C (isTrue (.BoolOp op xs pos) env t) m l K:=fun s zq S q=>wpAny_isTrue_BoolOp (h s _ S q)
theorem EV.nameL {x:Str} {pos:Pos} {v:Value} (hv:m x=some v) (hx:C.env.kindOf x=some .local) (hd:(x==("__debug__":Str))=false) (k:K v l):EV C (eval (.Name x pos) C.env) m l K:=
 fun s zq S q=>nameX_L S.F hv (q v l s.heap s.toks k S) C.hk hx hd
theorem EV.splNil {K:List Value→Led→Prop} (k:K [] l):EV C (spliced []) m l K:=fun s zq S q=>Calls.spliced_nil (q _ l s.heap s.toks k S)
theorem EV.splCons {t:Sem Value} {r:List (Bool×Sem Value)} {K:List Value→Led→Prop} (h:EV C t m l fun v l=>EV C (spliced r) m l fun vs l=>K (v::vs) l):EV C (spliced ((false,t)::r)) m l K:=
 fun s zq S q=>Calls.spliced_cons (h s _ S fun v zq zq zq k S=>k _ _ S fun vs l' h' tk' kv S'=>q (v::vs) l' h' tk' kv S')
theorem EV.argsPlain {f:Value} {t:Sem Value} {r:List (Bool×Sem Value)} {K:Args→Led→Prop} (h:EV C (spliced ((false,t)::r)) m l fun vs l=>K ⟨vs,[]⟩ l):EV C (evalArgs f true ((false,t)::r) []) m l K:=
 fun s zq S q=>Calls.evalArgs_plain (h s _ S fun vs l' h' tk' kv S'=>q ⟨vs,[]⟩ l' h' tk' kv S')
theorem EV.fresh {s:Shared} (S:St C m l s) {p:Addr×Obj} (hp:p∈l):p.1<s.heap.objs.size:=Heap.lt_size (S.N p (List.mem_append_left _ hp)).1
theorem EV.fresh' {s:Shared} (S:St C m l s) {p:Addr×Obj} (hp:p∈l++C.hid):p.1<s.heap.objs.size:=Heap.lt_size (S.N p hp).1
theorem EV.newList {vs:List Value} (hz:vs.length≤16777216) (k:∀ a,(∀ p∈l,p.1<a)→K (.ref a) ((a,{ cls:=.type "list",data:=.seq vs.toArray })::l)):EV C (PySem.newList vs) m l K:=
 fun s zq S q=>newList_N S.F S.N (fun h' F' N'=>q _ _ h' s.toks (k _ fun p hp=>EV.fresh S hp) ⟨F',N',List.pairwise_cons.mpr ⟨fun p hp=>Nat.ne_of_gt (EV.fresh' S hp),S.D⟩⟩) (by rw [sizeLine_eq];omega)
theorem EV.newTuple {vs:List Value} (hz:vs.length≤16777216) (k:∀ a,(∀ p∈l,p.1<a)→K (.ref a) ((a,{ cls:=.type "tuple",data:=.seq vs.toArray })::l)):EV C (PySem.newTuple vs) m l K:=
 fun s zq S q=>newTuple_N S.F S.N (fun h' F' N'=>q _ _ h' s.toks (k _ fun p hp=>EV.fresh S hp) ⟨F',N',List.pairwise_cons.mpr ⟨fun p hp=>Nat.ne_of_gt (EV.fresh' S hp),S.D⟩⟩) (by rw [sizeLine_eq];omega)
theorem EV.list {es:List Expr} {pos:Pos} (h:EV C (spliced (backTo pos (starEach es env))) m l fun vs l=>EV C (PySem.newList vs) m l K):EV C (eval (.List es pos) env) m l K:=
 fun s zq S q=>List_ (h s _ S fun zq zq zq zq k S=>k _ _ S fun v l' h' tk' kv S'=>q v l' h' tk' kv S')
theorem EV.tuple {es:List Expr} {n:Nat} {pos:Pos} (h:EV C (spliced (backTo pos (starEach es env))) m l fun vs l=>EV C (PySem.newTuple vs) m l K):EV C (eval (.Tuple es n pos) env) m l K:=
 fun s zq S q=>Tuple_ (h s _ S fun zq zq zq zq k S=>k _ _ S fun v l' h' tk' kv S'=>q v l' h' tk' kv S')
theorem EV.callName {x:Str} {p pos:Pos} {args:List Expr} (h:EV C (eval (.Name x p) env) m l fun f l=>EV C (callWith pos f [] (backTo pos (starEach args env)) []) m l K):EV C (eval (.Call (.Name x p) args [] pos) env) m l K:=
 fun s zq S q=>wpAny_Call_NameR (h s _ S fun zq zq zq zq k S=>k _ _ S fun v l' h' tk' kv S'=>q v l' h' tk' kv S')
theorem EV.withBi {pos:Pos} {id:String} {first :List Value} {args:List (Bool×Sem Value)} (hp:args.any (·.1)=false)
  (h:EV C (evalArgs (.builtin id) true args []) m l fun a l=>EV C (PySem.call (.builtin id) (first ++a.pos) a.kw) m l K):EV C (callWith pos (.builtin id) first args []) m l K:=
 fun s zq S q=>Calls.callWith_builtin hp (h s _ S fun zq zq zq zq k S=>k _ _ S fun v l' h' tk' kv S'=>q v l' h' tk' kv S')
theorem EV.withTy {pos:Pos} {T:String} {first :List Value} {args:List (Bool×Sem Value)} (hp:args.any (·.1)=false)
  (h:EV C (evalArgs (.type T) true args []) m l fun a l=>EV C (PySem.call (.type T) (first ++a.pos) a.kw) m l K):EV C (callWith pos (.type T) first args []) m l K:=
 fun s zq S q=>PyProof.Rows.callWith_type hp (h s _ S fun zq zq zq zq k S=>k _ _ S fun v l' h' tk' kv S'=>q v l' h' tk' kv S')
theorem EV.global {x:Str} {pos:Pos} {v:Value} (hg:nsIn (hd.heap_39 w.params) mainGlobals x=some (some v)) (hk:env.scope.kind= .function) (he:env.globals=mainGlobals) (hx:env.kindOf x=some .globalImplicit) (hd:(x==("__debug__":Str))=false) (k:K v l):EV C (eval (.Name x pos) env) m l K:=
 fun s zq S q=>Calls.Name_function_global hk hx (Calls.loadGlobal_global (by rw [he];exact (topRead_of C.T).g.keeps S.F.keep) (mg_of C.X (topRead_of C.T).g hg) (q v l s.heap s.toks k S)) hd
theorem EV.builtinName {x:Str} {pos:Pos} {v:Value} (hg:nsIn (hd.heap_39 w.params) mainGlobals x=some none) (hv:bootBuiltins x=some v) (hn:x≠"__name__") (hk:env.scope.kind= .function) (he:env.globals=mainGlobals) (hb:env.builtins=builtinsNs) (hx:env.kindOf x=some .globalImplicit) (hd:(x==("__debug__":Str))=false) (k:K v l):EV C (eval (.Name x pos) env) m l K:=
 fun s zq S q=>Calls.Name_function_global hk hx (Calls.loadGlobal_builtin (by rw [he];exact (topRead_of C.T).g.keeps S.F.keep) (mg_none_of C.X (topRead_of C.T).g hg) (by rw [hb];exact (topRead_of C.T).b.keeps S.F.keep) (((topRead_of C.T).builtins x hn).trans hv) (q v l s.heap s.toks k S)) hd
theorem EV.nameAt {x:Str} {pos:Pos} {v:Value} {m₂:Fm} {Cc:Addr} {oC:Obj} (hm:(Cc,oC)∈C.hid) (ho:LCg.NsObj oC m₂) (hv:m₂ x=some v) (hl:env.locals=Cc) (hk:env.scope.kind= .function) (hx:env.kindOf x=some .local) (hd:(x==("__debug__":Str))=false) (k:K v l):EV C (eval (.Name x pos) env) m l K:=
 fun s zq S q=>wpAny_Name (wpAny_loadName_local hk hx (by rw [hl];exact ho.ns (S.N.get (List.mem_append_right _ hm))) hv (q v l s.heap s.toks k S)) hd
theorem EV.nameCell {x:Str} {pos:Pos} {v:Value} {c:Addr} {o:Obj} (hc:env.cells.lookup x=some c) (hm:(c,o)∈C.hid) (ho:o.data= .cell (some v)) (hk:env.scope.kind= .function) (hx:env.kindOf x=some .cell∨env.kindOf x=some .free) (hd:(x==("__debug__":Str))=false) (hn:(x==("__classdict__":Str))=false) (k:K v l):EV C (eval (.Name x pos) env) m l K:=
 fun s zq S q=>wpAny_Name (by
  rcases hx with hx|hx
  ·exact wpAny_loadName_cell hk hx hc ⟨o,S.N.get (List.mem_append_right _ hm),ho⟩ (q v l s.heap s.toks k S)
  ·exact wpAny_loadName_free hk hx hc ⟨o,S.N.get (List.mem_append_right _ hm),ho⟩ (q v l s.heap s.toks k S) hn) hd
theorem EV.boolOne {op:BoolOp} {e:Expr} {pos:Pos} (h:EV C (eval e env) m l K):EV C (eval (.BoolOp op [e] pos) env) m l K:=fun s Q S q=>BoolOp_one (h s Q S q)
theorem EV.boolAnd {a b:Expr} {r:List Expr} {pos:Pos} (h:EV C (eval a env) m l fun v l=>EV C (truthy v) m l fun c l=>match c with|true=>EV C (eval (.BoolOp .And (b::r) pos) env) m l K|false=>K v l):EV C (eval (.BoolOp .And (a::b::r) pos) env) m l K:=
 fun s Q S q=>BoolOp_and (h s _ S fun v zq zq zq k S=>k _ _ S fun c l' h' tk' k S=>by
  cases c
  ·exact q v l' h' tk' k S
  ·exact k _ _ S fun v l' h' tk' kv S'=>q v l' h' tk' kv S')
theorem EV.boolOr {a b:Expr} {r:List Expr} {pos:Pos} (h:EV C (eval a env) m l fun v l=>EV C (truthy v) m l fun c l=>match c with|false=>EV C (eval (.BoolOp .Or (b::r) pos) env) m l K|true=>K v l):EV C (eval (.BoolOp .Or (a::b::r) pos) env) m l K:=
 fun s Q S q=>BoolOp_or (h s _ S fun v zq zq zq k S=>k _ _ S fun c l' h' tk' k S=>by
  cases c
  ·exact k _ _ S fun v l' h' tk' kv S'=>q v l' h' tk' kv S'
  ·exact q v l' h' tk' k S)
theorem EV.attr {e:Expr} {nm:Str} {pos:Pos} (h:EV C (eval e env) m l fun o l=>EV C (getAttr o nm true) m l K) (hb:attributeBase e nm env (eval e env)=eval e env):EV C (eval (.Attribute e nm pos) env) m l K:=
 fun s Q S q=>Attribute_any_ (h s _ S fun zq zq zq zq k S=>k _ _ S fun v l' h' tk' kv S'=>q v l' h' tk' kv S') (by
  have:eval (.Attribute e nm pos) env=(do let o←attributeBase e nm env (eval e env);PySem.standAt pos.atName;let r←PySem.holding [o] (getAttr o nm true);letTemporaryGo e o r;Pure.pure r):=rfl
  rw [this,hb])
theorem EV.withK {pos:Pos} {f:Value} {first :List Value} {args:List (Bool×Sem Value)} (hp:args.any (·.1)=false) (hk:keepIn (hd.heap_39 w.params) f=true)
  (h:EV C (evalArgs f true args []) m l fun a l=>EV C (PySem.call f (first ++a.pos) a.kw) m l K):EV C (callWith pos f first args []) m l K:=
 fun s zq S q=>callWith_of (P:=(hd.heap_39 w.params).In) (by rw [hp];rfl) (keeps_K hk) (h s _ S fun zq zq zq zq k S=>⟨C.X.keeps S.F.keep,k _ _ S fun v l' h' tk' kv S'=>q v l' h' tk' kv S'⟩)
structure SLC {w:World} (C:Cx w) (o x y:Value) (m:Fm) (l:Led) (K:Value→Led→Prop):Prop where
 go:∀ s (Q:Value→Shared→Prop),St C m l s→(∀ v l' h' tk',K v l'→St C m l' { s with heap:=h',toks:=tk' }→Q v { s with heap:=h',toks:=tk' })→
  wpAny (model PG w) C.A (subscriptTail (.Name (Str.ofString "x") ⟨0,0,0,0⟩) (.Slice none none none ⟨0,0,0,0⟩) o (.ref s.heap.objs.size)) Q NoE { s with heap:=s.heap.push { cls:=.type "slice",data:=.fields #[x,y,.none] } }
theorem EV.slc {v:Expr} {lo hi:Option Expr} {p pos:Pos} (h:EV C (eval v env) m l fun o l=>EV C (evalPart lo env) m l fun x l=>EV C (evalPart hi env) m l fun y l=>SLC C o x y m l K):EV C (eval (.Subscript v (.Slice lo hi none p) pos) env) m l K:=fun s Q S q=>by
 have e:eval (.Subscript v (.Slice lo hi none p) pos) env=(do let o←eval v env;let i←PySem.holding [o] (eval (.Slice lo hi none p) env);PySem.standAt pos;let r←subscripted (.Slice lo hi none p) (←getitemInPython o) o i;letTemporaryGo v o r;Pure.pure r):=rfl
 rw [e]
 refine wpAny_bind (h s _ S fun o l h tk k S=>wpAny_bind (wpAny_holding (wpAny_Slice (k _ _ S fun x l h tk k S=>k _ _ S fun y l h tk k S=>?_))))
 show wpAny _ _ (Pure.pure Value.none) _ _ _
 refine wpAny_pure (wpAny_bind (wpAny_standAt ?_))
 have k2:=k.go _ Q S fun v l' h' tk' kv S'=>q v l' h' tk' kv S'
 have e3:∀ r,letTemporaryGo (.Name (Str.ofString "x") ⟨0,0,0,0⟩) o r=Pure.pure ():=fun r=>rfl
 have e1:subscriptTail (.Name (Str.ofString "x") ⟨0,0,0,0⟩) (.Slice none none none ⟨0,0,0,0⟩) o (.ref h.objs.size)=(do let r←subscripted (.Slice lo hi none p) (←getitemInPython o) o (.ref h.objs.size);Pure.pure r):=by
  unfold subscriptTail
  simp only [e3,pure_bind,bind_pure]
  congr 1
 rw [e1] at k2
 have e2:(do let r←subscripted (.Slice lo hi none p) (←getitemInPython o) o (.ref h.objs.size);letTemporaryGo v o r;Pure.pure r)=((do let r←subscripted (.Slice lo hi none p) (←getitemInPython o) o (.ref h.objs.size);Pure.pure r)>>=fun r=>letTemporaryGo v o r>>=fun zq=>Pure.pure r):=by
  simp only [bind_assoc,pure_bind]
 rw [e2]
 exact wpAny_bind (wpAny_mono k2 (fun r s' hq=>wpAny_bind (wpAny_letTemporaryGo (wpAny_pure hq))) fun zq zq x=>x)
structure STC {w:World} (C:Cx w) (o z:Value) (m:Fm) (l:Led) (K:Value→Led→Prop):Prop where
 go:∀ s (Q:Value→Shared→Prop),St C m l s→(∀ v l' h' tk',K v l'→St C m l' { s with heap:=h',toks:=tk' }→Q v { s with heap:=h',toks:=tk' })→
  wpAny (model PG w) C.A (subscriptTail (.Name (Str.ofString "x") ⟨0,0,0,0⟩) (.Slice none none (some (.Name (Str.ofString "x") ⟨0,0,0,0⟩)) ⟨0,0,0,0⟩) o (.ref s.heap.objs.size)) Q NoE { s with heap:=s.heap.push { cls:=.type "slice",data:=.fields #[.none,.none,z] } }
theorem EV.stp {v e:Expr} {p pos:Pos} (h:EV C (eval v env) m l fun o l=>EV C (eval e env) m l fun z l=>STC C o z m l K):EV C (eval (.Subscript v (.Slice none none (some e) p) pos) env) m l K:=fun s Q S q=>by
 have e0:eval (.Subscript v (.Slice none none (some e) p) pos) env=(do let o←eval v env;let i←PySem.holding [o] (eval (.Slice none none (some e) p) env);PySem.standAt pos;let r←subscripted (.Slice none none (some e) p) (←getitemInPython o) o i;letTemporaryGo v o r;Pure.pure r):=rfl
 rw [e0]
 refine wpAny_bind (h s _ S fun o l h tk k S=>wpAny_bind (wpAny_holding (wpAny_Slice (wpAny_pure (wpAny_pure (k _ _ S fun z l h tk k S=>?_))))))
 refine wpAny_bind (wpAny_standAt ?_)
 have k2:=k.go _ Q S fun v l' h' tk' kv S'=>q v l' h' tk' kv S'
 have e3:∀ r,letTemporaryGo (.Name (Str.ofString "x") ⟨0,0,0,0⟩) o r=Pure.pure ():=fun r=>rfl
 have e1:subscriptTail (.Name (Str.ofString "x") ⟨0,0,0,0⟩) (.Slice none none (some (.Name (Str.ofString "x") ⟨0,0,0,0⟩)) ⟨0,0,0,0⟩) o (.ref h.objs.size)=(do let r←subscripted (.Slice none none (some e) p) (←getitemInPython o) o (.ref h.objs.size);Pure.pure r):=by
  unfold subscriptTail
  simp only [e3,pure_bind,bind_pure]
  congr 1
  funext c
  cases c<;>rfl
 rw [e1] at k2
 have e2:(do let r←subscripted (.Slice none none (some e) p) (←getitemInPython o) o (.ref h.objs.size);letTemporaryGo v o r;Pure.pure r)=((do let r←subscripted (.Slice none none (some e) p) (←getitemInPython o) o (.ref h.objs.size);Pure.pure r)>>=fun r=>letTemporaryGo v o r>>=fun zq=>Pure.pure r):=by
  simp only [bind_assoc,pure_bind]
 rw [e2]
 exact wpAny_bind (wpAny_mono k2 (fun r s' hq=>wpAny_bind (wpAny_letTemporaryGo (wpAny_pure hq))) fun zq zq x=>x)
noncomputable def CN (w:World) (f:Addr) (vs:List Value) (D:Nat) (l:Led) (R:Value→Led→Prop):Prop:=∀ (C:Cx w) (m:Fm),D≤C.D→EV C (PySem.call (.ref f) vs) m l R
theorem room_d {a d b:Nat} (h0:1≤d) (h:a+d<b):a+1+(d - 1)<b:=by rw [Nat.add_assoc,Nat.add_sub_cancel' h0];exact h
theorem room_u {u d b:Nat} (h0:1≤d) (h:u+10*d<b):u+3+10*(d - 1)<b:=by omega
noncomputable def CNc (w:World) (f:Addr) (vs:List Value) (D:Nat) (l:Led) (R:Value→Led→Prop):Prop:=∀ (C:Cx w) (m:Fm),D≤C.D→∀ s (Q:Value→Shared→Prop),St C m l s→(∀ v l' h' tk',R v l'→St C m l' { s with heap:=h',toks:=tk' }→Q v { s with heap:=h',toks:=tk' })→
 codeAny (model PG w) C.A (.call (.ref f) ⟨vs,[]⟩) (fun r s'=>match r with| .ok (.ret v)=>Q v s'| .ok _=>False| .error e=>NoE e s') s
theorem CNc.cn {f:Addr} {vs:List Value} {D:Nat} {l:Led} {R:Value→Led→Prop} (c:CNc w f vs D l R):CN w f vs D l R:=fun C m hD s Q S q=>wpAny_call (c C m hD s Q S q)
noncomputable def Cx.beside (C:Cx w) (r:Led):Cx w:={ C with hid:=r++C.hid }
theorem St.beside {s:Shared} {r:Led} (S:St C m (l++r) s):St (C.beside r) m l s:=⟨S.F,by have:=S.N;rwa [List.append_assoc] at this,by have:=S.D;rwa [List.append_assoc] at this⟩
theorem St.back {s:Shared} {r:Led} (S:St (C.beside r) m l s):St C m (l++r) s:=⟨S.F,by rw [List.append_assoc];exact S.N,by rw [List.append_assoc];exact S.D⟩
theorem EV.beside {t:Sem α} {r:Led} {K:α→Led→Prop} (h:EV (C.beside r) t m l fun v l'=>K v (l'++r)):EV C t m (l++r) K:=fun s Q S q=>h s Q S.beside fun v l' h' tk' kv S'=>q v _ h' tk' kv S'.back
theorem St.perm {s:Shared} {l':Led} (S:St C m l s) (p:List.Perm l l'):St C m l' s:=⟨S.F,fun x hx=>S.N x ((p.append_right _).mem_iff.mpr hx),((p.append_right _).pairwise_iff (fun h=>Ne.symm h)).mp S.D⟩
theorem St.sub {s:Shared} {l':Led} (S:St C m l s) (p:List.Sublist l' l):St C m l' s:=⟨S.F,fun x hx=>S.N x ((p.append_right _).subset hx),S.D.sublist (p.append_right _)⟩
theorem EV.perm {t:Sem α} {l':Led} {K:α→Led→Prop} (p:List.Perm l l') (h:EV C t m l' K):EV C t m l K:=fun s Q S q=>h s Q (S.perm p) q
noncomputable def SubP (a l:Led):Prop:=∃ r,List.Perm (a++r) l
theorem SubP.refl {l:Led}:SubP l l:=⟨[],by rw [List.append_nil]⟩
theorem SubP.mem {a l:Led} (h:SubP a l) {p:Addr×Obj} (hp:p∈a):p∈l:=by obtain ⟨r,h⟩:=h;exact h.mem_iff.mp (List.mem_append_left _ hp)
theorem SubP.pw {a l:Led} (h:SubP a l) (P:l.Pairwise fun p q=>p.1≠q.1):a.Pairwise fun p q=>p.1≠q.1:=by
 obtain ⟨r,h⟩:=h
 exact (List.pairwise_append.mp ((h.pairwise_iff fun h=>Ne.symm h).mpr P)).1
theorem SubP.app {a l:Led} (h:SubP a l) (x:Led):SubP (a++x) (l++x):=by
 obtain ⟨r,h⟩:=h
 refine ⟨r,List.Perm.trans ?_ (h.append_right x)⟩
 rw [List.append_assoc,List.append_assoc]
 exact List.Perm.append_left a List.perm_append_comm
theorem St.subP {m:Fm} {a l:Led} {s:Shared} (S:St C m l s) (h:SubP a l):St C m a s:=by
 obtain ⟨r,h⟩:=h
 exact (S.perm h.symm).sub (List.sublist_append_left _ _)
noncomputable def CellsR:List Addr→List (Option Value)→Led→Prop
 |[],[],[]=>True
 |a::as,v::vs,p::ps=>p.1=a∧p.2.data= .cell v∧CellsR as vs ps
 |_,_,_=>False
theorem CellsR.mem:∀ {as:List Addr} {vs:List (Option Value)} {ps:Led} {j:Nat} {a:Addr} {v:Option Value},CellsR as vs ps→as[j]? =some a→vs[j]? =some v→∃ o,(a,o)∈ps∧o.data= .cell v
 |[],_,_,_,_,_,_,h,_=>by simp at h
 |_::_,[],_,_,_,_,_,_,h=>by simp at h
 |_::_,_::_,[],_,_,_,h,_,_=>h.elim
 |a::as,v::vs,p::ps,0,b,u,h,h1,h2=>by
  simp only [List.getElem?_cons_zero,Option.some.injEq] at h1 h2
  exact ⟨p.2,by rw [←h1,←h.1];exact .head _,by rw [←h2];exact h.2.1⟩
 |a::as,v::vs,p::ps,j+1,b,u,h,h1,h2=>by
  obtain ⟨o,ho,hd⟩:=CellsR.mem h.2.2 (by simpa using h1) (by simpa using h2)
  exact ⟨o,.tail _ ho,hd⟩
theorem CellsR.split:∀ {as:List Addr} {vs:List (Option Value)} {ps:Led} {j:Nat} {a:Addr} {v:Option Value},CellsR as vs ps→as[j]? =some a→vs[j]? =some v→
  ∃ pre o post,ps=pre++(a,o)::post∧o.data= .cell v∧∀ u o',o'.data= .cell u→CellsR as (vs.set j u) (pre++(a,o')::post)
 |[],_,_,_,_,_,_,h,_=>by simp at h
 |_::_,[],_,_,_,_,_,_,h=>by simp at h
 |_::_,_::_,[],_,_,_,h,_,_=>h.elim
 |a::as,v::vs,p::ps,0,b,u,h,h1,h2=>by
  simp only [List.getElem?_cons_zero,Option.some.injEq] at h1 h2
  subst h1;subst h2
  obtain ⟨pa,po⟩:=p
  obtain ⟨rfl,h3,h4⟩:=h
  exact ⟨[],po,ps,rfl,h3,fun u o' ho=>⟨rfl,ho,h4⟩⟩
 |a::as,v::vs,p::ps,j+1,b,u,h,h1,h2=>by
  obtain ⟨pre,o,post,rfl,hd,k⟩:=CellsR.split h.2.2 (by simpa using h1) (by simpa using h2)
  exact ⟨p::pre,o,post,rfl,hd,fun u o' ho=>⟨h.1,h.2.1,k u o' ho⟩⟩
theorem CellsR.of:∀ {cm:Str→Option Value} {cl:List (Str×Addr)} {ps:Led},CellsAre cm cl ps→CellsR (cl.map Prod.snd) (cl.map fun x=>cm x.1) ps
 |_,_,_,.nil=>trivial
 |_,_,_,.cons h r=>⟨rfl,h,CellsR.of r⟩
set_option tactic.hygienic true
end
end
section
section
variable {w:World} {C:Cx w} {m:Fm} {l:Led} {K:Value→Led→Prop}
theorem EV.add_int {x y:Int} {tx ty:Tok} (k:∀ t,K (.int (x+y) t) l):EV C (binaryOp .Add (.int x tx) (.int y ty)) m l K:=by
 intro s Q S q
 rcases C with ⟨mean,mg,mb,dp,un,gd,cn,cs,a,ccd,cl,outer,A₀,base,h₀,L,B,X,T,hk,D,hd,hu,hid⟩
 rcases S with ⟨F,N,P⟩
 dsimp only at F N P q
 show wpAny _ (ktrTop dp un gd cn cs L a ccd cl outer) _ _ _ _
 k_steps
 exact q _ _ _ _ (k _) ⟨F,N,P⟩
theorem EV.sub_int {x y:Int} {tx ty:Tok} (k:∀ t,K (.int (x - y) t) l):EV C (binaryOp .Sub (.int x tx) (.int y ty)) m l K:=by
 intro s Q S q
 rcases C with ⟨mean,mg,mb,dp,un,gd,cn,cs,a,ccd,cl,outer,A₀,base,h₀,L,B,X,T,hk,D,hd,hu,hid⟩
 rcases S with ⟨F,N,P⟩
 dsimp only at F N P q
 show wpAny _ (ktrTop dp un gd cn cs L a ccd cl outer) _ _ _ _
 k_steps
 exact q _ _ _ _ (k _) ⟨F,N,P⟩
set_option tactic.hygienic false
theorem EV.add_str {x y:Str} {tx ty:Tok} (hz:x.length+y.length≤16777216) (k:∀ t,K (.str (x++y) t) l):EV C (binaryOp .Add (.str x tx) (.str y ty)) m l K:=fun s Q S q=>PyProof.Rows.add_str (fun t' tk=>q _ l s.heap tk (k t') ⟨S.F,S.N,S.D⟩) (by rw [sizeLine_eq];exact hz)
set_option tactic.hygienic true
theorem EV.lt_int {x y:Int} {tx ty:Tok} (k:K (.bool (decide (x<y))) l):EV C (compareOp .Lt (.int x tx) (.int y ty)) m l K:=by
 intro s Q S q
 rcases C with ⟨mean,mg,mb,dp,un,gd,cn,cs,a,ccd,cl,outer,A₀,base,h₀,L,B,X,T,hk,D,hd,hu,hid⟩
 rcases S with ⟨F,N,P⟩
 dsimp only at F N P q
 show wpAny _ (ktrTop dp un gd cn cs L a ccd cl outer) _ _ _ _
 k_steps
 exact q _ _ _ _ (k) ⟨F,N,P⟩
theorem EV.le_int {x y:Int} {tx ty:Tok} (k:K (.bool (decide (x≤y))) l):EV C (compareOp .LtE (.int x tx) (.int y ty)) m l K:=by
 intro s Q S q
 rcases C with ⟨mean,mg,mb,dp,un,gd,cn,cs,a,ccd,cl,outer,A₀,base,h₀,L,B,X,T,hk,D,hd,hu,hid⟩
 rcases S with ⟨F,N,P⟩
 dsimp only at F N P q
 show wpAny _ (ktrTop dp un gd cn cs L a ccd cl outer) _ _ _ _
 k_steps
 exact q _ _ _ _ (k) ⟨F,N,P⟩
theorem EV.ge_int {x y:Int} {tx ty:Tok} (k:K (.bool (decide (x≥y))) l):EV C (compareOp .GtE (.int x tx) (.int y ty)) m l K:=by
 intro s Q S q
 rcases C with ⟨mean,mg,mb,dp,un,gd,cn,cs,a,ccd,cl,outer,A₀,base,h₀,L,B,X,T,hk,D,hd,hu,hid⟩
 rcases S with ⟨F,N,P⟩
 dsimp only at F N P q
 show wpAny _ (ktrTop dp un gd cn cs L a ccd cl outer) _ _ _ _
 k_steps
 exact q _ _ _ _ (k) ⟨F,N,P⟩
theorem EV.gt_int {x y:Int} {tx ty:Tok} (k:K (.bool (decide (x>y))) l):EV C (compareOp .Gt (.int x tx) (.int y ty)) m l K:=by
 intro s Q S q
 rcases C with ⟨mean,mg,mb,dp,un,gd,cn,cs,a,ccd,cl,outer,A₀,base,h₀,L,B,X,T,hk,D,hd,hu,hid⟩
 rcases S with ⟨F,N,P⟩
 dsimp only at F N P q
 show wpAny _ (ktrTop dp un gd cn cs L a ccd cl outer) _ _ _ _
 k_steps
 exact q _ _ _ _ (k) ⟨F,N,P⟩
theorem EV.eq_int {x y:Int} {tx ty:Tok} (k:K (.bool (decide (x=y))) l):EV C (compareOp .Eq (.int x tx) (.int y ty)) m l K:=by
 intro s Q S q
 rcases C with ⟨mean,mg,mb,dp,un,gd,cn,cs,a,ccd,cl,outer,A₀,base,h₀,L,B,X,T,hk,D,hd,hu,hid⟩
 rcases S with ⟨F,N,P⟩
 dsimp only at F N P q
 show wpAny _ (ktrTop dp un gd cn cs L a ccd cl outer) _ _ _ _
 k_steps
 exact q _ _ _ _ (k) ⟨F,N,P⟩
theorem EV.ne_int {x y:Int} {tx ty:Tok} (k:K (.bool (x != y)) l):EV C (compareOp .NotEq (.int x tx) (.int y ty)) m l K:=by
 intro s Q S q
 rcases C with ⟨mean,mg,mb,dp,un,gd,cn,cs,a,ccd,cl,outer,A₀,base,h₀,L,B,X,T,hk,D,hd,hu,hid⟩
 rcases S with ⟨F,N,P⟩
 dsimp only at F N P q
 show wpAny _ (ktrTop dp un gd cn cs L a ccd cl outer) _ _ _ _
 k_steps
 exact q _ _ _ _ (k) ⟨F,N,P⟩
theorem EV.truthy_bool {K:Bool→Led→Prop} {b:Bool} (k:K b l):EV C (truthy (.bool b)) m l K:=by
 intro s Q S q
 rcases C with ⟨mean,mg,mb,dp,un,gd,cn,cs,a,ccd,cl,outer,A₀,base,h₀,L,B,X,T,hk,D,hd,hu,hid⟩
 rcases S with ⟨F,N,P⟩
 dsimp only at F N P q
 show wpAny _ (ktrTop dp un gd cn cs L a ccd cl outer) _ _ _ _
 k_steps
 exact q _ _ _ _ (k) ⟨F,N,P⟩
theorem EV.neg {x:Int} {t:Tok} (k:∀ t,K (.int (-x) t) l):EV C (unaryOp .USub (.int x t)) m l K:=by
 intro s Q S q
 rcases C with ⟨mean,mg,mb,dp,un,gd,cn,cs,a,ccd,cl,outer,A₀,base,h₀,L,B,X,T,hk,D,hd,hu,hid⟩
 rcases S with ⟨F,N,P⟩
 dsimp only at F N P q
 show wpAny _ (ktrTop dp un gd cn cs L a ccd cl outer) _ _ _ _
 k_steps
 exact q _ _ _ _ (k _) ⟨F,N,P⟩
theorem EV.is_none (k:K (.bool true) l):EV C (compareOp .Is (.none) .none) m l K:=by
 intro s Q S q
 rcases C with ⟨mean,mg,mb,dp,un,gd,cn,cs,a,ccd,cl,outer,A₀,base,h₀,L,B,X,T,hk,D,hd,hu,hid⟩
 rcases S with ⟨F,N,P⟩
 dsimp only at F N P q
 show wpAny _ (ktrTop dp un gd cn cs L a ccd cl outer) _ _ _ _
 k_steps
 exact q _ _ _ _ (k) ⟨F,N,P⟩
theorem EV.isnot_none (k:K (.bool false) l):EV C (compareOp .IsNot (.none) .none) m l K:=by
 intro s Q S q
 rcases C with ⟨mean,mg,mb,dp,un,gd,cn,cs,a,ccd,cl,outer,A₀,base,h₀,L,B,X,T,hk,D,hd,hu,hid⟩
 rcases S with ⟨F,N,P⟩
 dsimp only at F N P q
 show wpAny _ (ktrTop dp un gd cn cs L a ccd cl outer) _ _ _ _
 k_steps
 exact q _ _ _ _ (k) ⟨F,N,P⟩
theorem EV.is_int {x:Int} {t:Tok} (k:K (.bool false) l):EV C (compareOp .Is (.int x t) .none) m l K:=by
 intro s Q S q
 rcases C with ⟨mean,mg,mb,dp,un,gd,cn,cs,a,ccd,cl,outer,A₀,base,h₀,L,B,X,T,hk,D,hd,hu,hid⟩
 rcases S with ⟨F,N,P⟩
 dsimp only at F N P q
 show wpAny _ (ktrTop dp un gd cn cs L a ccd cl outer) _ _ _ _
 k_steps
 exact q _ _ _ _ (k) ⟨F,N,P⟩
theorem EV.isnot_int {x:Int} {t:Tok} (k:K (.bool true) l):EV C (compareOp .IsNot (.int x t) .none) m l K:=by
 intro s Q S q
 rcases C with ⟨mean,mg,mb,dp,un,gd,cn,cs,a,ccd,cl,outer,A₀,base,h₀,L,B,X,T,hk,D,hd,hu,hid⟩
 rcases S with ⟨F,N,P⟩
 dsimp only at F N P q
 show wpAny _ (ktrTop dp un gd cn cs L a ccd cl outer) _ _ _ _
 k_steps
 exact q _ _ _ _ (k) ⟨F,N,P⟩
theorem EV.is_str {x:Str} {t:Tok} (k:K (.bool false) l):EV C (compareOp .Is (.str x t) .none) m l K:=by
 intro s Q S q
 rcases C with ⟨mean,mg,mb,dp,un,gd,cn,cs,a,ccd,cl,outer,A₀,base,h₀,L,B,X,T,hk,D,hd,hu,hid⟩
 rcases S with ⟨F,N,P⟩
 dsimp only at F N P q
 show wpAny _ (ktrTop dp un gd cn cs L a ccd cl outer) _ _ _ _
 k_steps
 exact q _ _ _ _ (k) ⟨F,N,P⟩
theorem EV.isnot_str {x:Str} {t:Tok} (k:K (.bool true) l):EV C (compareOp .IsNot (.str x t) .none) m l K:=by
 intro s Q S q
 rcases C with ⟨mean,mg,mb,dp,un,gd,cn,cs,a,ccd,cl,outer,A₀,base,h₀,L,B,X,T,hk,D,hd,hu,hid⟩
 rcases S with ⟨F,N,P⟩
 dsimp only at F N P q
 show wpAny _ (ktrTop dp un gd cn cs L a ccd cl outer) _ _ _ _
 k_steps
 exact q _ _ _ _ (k) ⟨F,N,P⟩
theorem EV.is_bytes {x:Array UInt8} {t:Tok} (k:K (.bool false) l):EV C (compareOp .Is (.bytes x t) .none) m l K:=by
 intro s Q S q
 rcases C with ⟨mean,mg,mb,dp,un,gd,cn,cs,a,ccd,cl,outer,A₀,base,h₀,L,B,X,T,hk,D,hd,hu,hid⟩
 rcases S with ⟨F,N,P⟩
 dsimp only at F N P q
 show wpAny _ (ktrTop dp un gd cn cs L a ccd cl outer) _ _ _ _
 k_steps
 exact q _ _ _ _ (k) ⟨F,N,P⟩
theorem EV.isnot_bytes {x:Array UInt8} {t:Tok} (k:K (.bool true) l):EV C (compareOp .IsNot (.bytes x t) .none) m l K:=by
 intro s Q S q
 rcases C with ⟨mean,mg,mb,dp,un,gd,cn,cs,a,ccd,cl,outer,A₀,base,h₀,L,B,X,T,hk,D,hd,hu,hid⟩
 rcases S with ⟨F,N,P⟩
 dsimp only at F N P q
 show wpAny _ (ktrTop dp un gd cn cs L a ccd cl outer) _ _ _ _
 k_steps
 exact q _ _ _ _ (k) ⟨F,N,P⟩
theorem EV.is_ref {x:Addr} (k:K (.bool false) l):EV C (compareOp .Is (.ref x) .none) m l K:=by
 intro s Q S q
 rcases C with ⟨mean,mg,mb,dp,un,gd,cn,cs,a,ccd,cl,outer,A₀,base,h₀,L,B,X,T,hk,D,hd,hu,hid⟩
 rcases S with ⟨F,N,P⟩
 dsimp only at F N P q
 show wpAny _ (ktrTop dp un gd cn cs L a ccd cl outer) _ _ _ _
 k_steps
 exact q _ _ _ _ (k) ⟨F,N,P⟩
theorem EV.isnot_ref {x:Addr} (k:K (.bool true) l):EV C (compareOp .IsNot (.ref x) .none) m l K:=by
 intro s Q S q
 rcases C with ⟨mean,mg,mb,dp,un,gd,cn,cs,a,ccd,cl,outer,A₀,base,h₀,L,B,X,T,hk,D,hd,hu,hid⟩
 rcases S with ⟨F,N,P⟩
 dsimp only at F N P q
 show wpAny _ (ktrTop dp un gd cn cs L a ccd cl outer) _ _ _ _
 k_steps
 exact q _ _ _ _ (k) ⟨F,N,P⟩
theorem EV.eq_str {x y:Str} {tx ty:Tok} (k:K (.bool (x==y)) l):EV C (compareOp .Eq (.str x tx) (.str y ty)) m l K:=by
 intro s Q S q
 rcases C with ⟨mean,mg,mb,dp,un,gd,cn,cs,a,ccd,cl,outer,A₀,base,h₀,L,B,X,T,hk,D,hd,hu,hid⟩
 rcases S with ⟨F,N,P⟩
 dsimp only at F N P q
 show wpAny _ (ktrTop dp un gd cn cs L a ccd cl outer) _ _ _ _
 k_steps
 exact q _ _ _ _ (k) ⟨F,N,P⟩
theorem EV.ne_str {x y:Str} {tx ty:Tok} (k:K (.bool (x != y)) l):EV C (compareOp .NotEq (.str x tx) (.str y ty)) m l K:=by
 intro s Q S q
 rcases C with ⟨mean,mg,mb,dp,un,gd,cn,cs,a,ccd,cl,outer,A₀,base,h₀,L,B,X,T,hk,D,hd,hu,hid⟩
 rcases S with ⟨F,N,P⟩
 dsimp only at F N P q
 show wpAny _ (ktrTop dp un gd cn cs L a ccd cl outer) _ _ _ _
 k_steps
 exact q _ _ _ _ (k) ⟨F,N,P⟩
theorem EV.eq_bytes {x y:Array UInt8} {tx ty:Tok} (k:K (.bool (x.toList==y.toList)) l):EV C (compareOp .Eq (.bytes x tx) (.bytes y ty)) m l K:=by
 intro s Q S q
 rcases C with ⟨mean,mg,mb,dp,un,gd,cn,cs,a,ccd,cl,outer,A₀,base,h₀,L,B,X,T,hk,D,hd,hu,hid⟩
 rcases S with ⟨F,N,P⟩
 dsimp only at F N P q
 show wpAny _ (ktrTop dp un gd cn cs L a ccd cl outer) _ _ _ _
 k_steps
 exact q _ _ _ _ (k) ⟨F,N,P⟩
theorem EV.ne_bytes {x y:Array UInt8} {tx ty:Tok} (k:K (.bool (x.toList != y.toList)) l):EV C (compareOp .NotEq (.bytes x tx) (.bytes y ty)) m l K:=by
 intro s Q S q
 rcases C with ⟨mean,mg,mb,dp,un,gd,cn,cs,a,ccd,cl,outer,A₀,base,h₀,L,B,X,T,hk,D,hd,hu,hid⟩
 rcases S with ⟨F,N,P⟩
 dsimp only at F N P q
 show wpAny _ (ktrTop dp un gd cn cs L a ccd cl outer) _ _ _ _
 k_steps
 exact q _ _ _ _ (k) ⟨F,N,P⟩
end
end
section
section
variable {w:World} {C:Cx w} {m:Fm} {l:Led} {K:Value→Led→Prop} {env:Env}
set_option tactic.hygienic false
noncomputable def isSlice:Expr→Bool
 | .Slice _ _ _ _=>true
 |_=>false
noncomputable def subOp (o i:Value):Sem Value:=subscriptTail (.Name (Str.ofString "x") ⟨0,0,0,0⟩) (.Constant .none 0 ⟨0,0,0,0⟩) o i
theorem subOp_eq (o i:Value):subOp o i=(getitemInPython o>>=fun b=>subscripted (.Constant .none 0 ⟨0,0,0,0⟩) b o i):=by
 unfold subOp subscriptTail
 have e:∀ r,letTemporaryGo (.Name (Str.ofString "x") ⟨0,0,0,0⟩) o r=Pure.pure ():=fun r=>rfl
 simp only [e,pure_bind,bind_pure]
theorem EV.tempGo {e:Expr} {o r:Value} {K:Unit→Led→Prop} (k:K () l):EV C (letTemporaryGo e o r) m l K:=fun s zq S q=>wpAny_letTemporaryGo (q () l s.heap s.toks k S)
theorem subs_eq {sl:Expr} {b:Bool} {o i:Value} (hs:isSlice sl=false):subscripted sl b o i=subscripted (.Constant .none 0 ⟨0,0,0,0⟩) b o i:=by
 cases b<;>cases sl<;>first|rfl|cases hs
theorem ev_sub {v sl:Expr} {pos:Pos} (hs:isSlice sl=false)
  (h:EV C (eval v env) m l fun o l=>EV C (eval sl env) m l fun i l=>EV C (subOp o i) m l K):EV C (eval (.Subscript v sl pos) env) m l K:=by
 have e:eval (.Subscript v sl pos) env=(do let o←eval v env;let i←holding [o] (eval sl env);standAt pos;let r←subscripted sl (←getitemInPython o) o i;letTemporaryGo v o r;pure r):=rfl
 rw [e]
 refine EV.bind (h.mono fun o l h=>EV.bind (EV.holding (h.mono fun i l h=>EV.bind (EV.standAt ?_))))
 have e2:(do let r←subscripted sl (←getitemInPython o) o i;letTemporaryGo v o r;pure r)=(subOp o i>>=fun r=>letTemporaryGo v o r>>=fun zq=>pure r):=by
  rw [subOp_eq]
  simp only [subs_eq hs,bind_assoc]
 rw [e2]
 exact EV.bind (h.mono fun r l k=>EV.bind (EV.tempGo (EV.pure k)))
noncomputable def isCallE:Expr→Bool
 | .Call f _ _ _=>match f with
   | .Name _ _=>true
   |_=>false
 |_=>false
theorem base_of {o:Expr} {nm:Str} {env:Env} (h:isCallE o=false):attributeBase o nm env (eval o env)=eval o env:=by
 cases o with
 |Call f xs ks p=>cases f<;>first|rfl|cases h
 |_=>rfl
theorem ev_meth {o:Expr} {name:Str} {apos pos:Pos} {args:List Expr} (ho:isCallE o=false) (hl:(apos.endLine==pos.line)=true) (hn:methodCallForm (args.length+0) (backTo pos (starEach args env)) []=true)
  (h:EV C (eval o env) m l fun ov l=>∀ b:Sem Bool,EV C (getMethod ov name b) m l fun f l=>EV C (callWith pos f.1 f.2 (backTo pos (starEach args env)) []) m l K):EV C (eval (.Call (.Attribute o name apos) args [] pos) env) m l K:=by
 have e:eval (.Call (.Attribute o name apos) args [] pos) env=(do let ov←attributeBase o name env (eval o env);standAt apos.atName;methodCall o name apos pos env ov (args.length+0) (backTo pos (starEach args env)) []):=rfl
 rw [e,base_of ho]
 refine EV.bind (h.mono fun ov l h=>EV.bind (EV.standAt ?_))
 unfold methodCall
 rw [hn]
 refine EV.bind (EV.holding (EV.mono (h _) fun f l h=>?_))
 have ep:methodCallPos true o env apos pos=pure pos:=by
  unfold methodCallPos
  rw [hl]
  rfl
 rw [ep]
 exact EV.bind (EV.pure h)
set_option tactic.hygienic true
end
end
section
mutual
inductive X where
 |k (c:Const)
 |v (i:Nat)
 |g (v:Value)
 |bin (op:Operator) (a b:X)
 |cmp (op:CmpOp) (a b:X)
 |un (op:UnaryOp) (a:X)
 |ife (t a b:X)
 |bool (op:BoolOp) (xs:Xs)
 |tup (xs:Xs)
 |lst (xs:Xs)
 |call (f:X) (xs:Xs)
 |sub (o i:X)
 |slc (o a b:X)
 |stp (o c:X)
 |meth (o:X) (name:Str) (xs:Xs)
 |attr (o:X) (name:Str)
 |comp (elt src:X) (caps:List Nat)
 |comp4 (elt src:X) (caps:List Nat)
 |dcomp (key val src:X) (caps:List Nat)
 |raw (e:Expr)
 |cmp2 (o₁ o₂:CmpOp) (a b c:X)
 |bad
inductive Xs where
 |nil
 |cons (x:X) (xs:Xs)
end
set_option tactic.hygienic false
noncomputable def mOf:List Str→List (Option Value)→Str→Option Value
 |n::ns,v::vs=>fun y=>match y==n with|true=>v|false=>mOf ns vs y
 |_,_=>fun zq=>none
theorem mOf_at:∀ {ns:List Str} {vs:List (Option Value)} {x:Str} {i:Nat} {v:Option Value},ns.idxOf? x=some i→vs[i]? =some v→mOf ns vs x=v
 |[],_,_,_,_,h,_=>by simp [List.idxOf?] at h
 |n::ns,[],x,i,v,h,g=>by simp at g
 |n::ns,u::vs,x,i,v,h,g=>by
  unfold mOf
  rw [List.idxOf?_cons] at h
  by_cases e:n=x
  ·subst e
   simp at h
   subst h
   simpa using g
  ·have e':(n==x)=false:=by simpa using e
   have e'':(x==n)=false:=by simpa using fun q=>e q.symm
   rw [e'] at h
   simp only [Bool.false_eq_true,if_false,Option.map_eq_some_iff] at h
   obtain ⟨j,hj,rfl⟩:=h
   rw [e'']
   exact mOf_at hj (by simpa using g)
theorem mOf_set:∀ {ns:List Str} {vs:List (Option Value)} {x:Str} {i:Nat} {v:Value},ns.idxOf? x=some i→i<vs.length→(fun y=>if y=x then some v else mOf ns vs y)=mOf ns (vs.set i (some v))
 |[],_,_,_,_,h,_=>by simp [List.idxOf?] at h
 |n::ns,[],x,i,v,h,g=>by simp at g
 |n::ns,u::vs,x,i,v,h,g=>by
  rw [List.idxOf?_cons] at h
  funext y
  by_cases e:n=x
  ·subst e
   simp at h
   subst h
   by_cases q:y=n
   ·subst q
    simp [mOf]
   ·have q':(y==n)=false:=by simpa using q
    simp [mOf,q,q']
  ·have e':(n==x)=false:=by simpa using e
   rw [e'] at h
   simp only [Bool.false_eq_true,if_false,Option.map_eq_some_iff] at h
   obtain ⟨j,hj,rfl⟩:=h
   have ih:=congrFun (mOf_set (v:=v) hj (by simpa using g)) y
   by_cases q:y=n
   ·subst q
    simp [mOf,e]
   ·have q':(y==n)=false:=by simpa using q
    simp only [List.set_cons_succ,mOf,q']
    exact ih
noncomputable def GT:List (Str×Value):=[(Str.ofString "codes_of",.ref 71),(Str.ofString "BadCode",.ref 52),(Str.ofString "bytes",.type "bytes"),(Str.ofString "len",.builtin "len"),(Str.ofString "LEAST_HEX",.int 4 200),(Str.ofString "HEX_DIGITS",.bytes #[48,49,50,51,52,53,54,55,56,57,65,66,67,68,69,70] 198),(Str.ofString "MOST_HEX",.int 6 202),(Str.ofString "hex_value",.ref 97),(Str.ofString "MAX_CODE",.int 1114111 196),(Str.ofString "UCD_MARK",.bytes #[239,187,191] 336),(Str.ofString "enumerate",.type "enumerate"),(Str.ofString "ucd_lines",.ref 125),(Str.ofString "UCD_BLANKS",.bytes #[32,9,13] 334),(Str.ofString "UCD_MISSING",.bytes #[64,109,105,115,115,105,110,103,58] 338),(Str.ofString "BadRow",.ref 64),(Str.ofString "code_of_hex",.ref 104),(Str.ofString "code_of_field",.ref 142),(Str.ofString "ascii_of",.ref 83),(Str.ofString "word_of_field",.ref 157),(Str.ofString "sorted",.builtin "sorted"),(Str.ofString "max",.builtin "max"),(Str.ofString "rows_of",.ref 130),(Str.ofString "range_of",.ref 150),(Str.ofString "missing_rows",.ref 135),(Str.ofString "ucd_meant",.ref 185),(Str.ofString "ucd_value",.ref 164),(Str.ofString "ucd_missing_puts",.ref 192),(Str.ofString "ucd_ranged",.ref 178),(Str.ofString "ucd_check_apart",.ref 171),(Str.ofString "ucd_check_told",.ref 199),(Str.ofString "hex_code",.ref 90),(Str.ofString "octets_of_ascii",.ref 78),(Str.ofString "range_octets",.ref 212),(Str.ofString "decimal_octets",.ref 111),(Str.ofString "fraction_octets",.ref 234),(Str.ofString "ucd_mapping_octets",.ref 239),(Str.ofString "ucd_number_octets",.ref 246),(Str.ofString "ucd_code_octets",.ref 253),(Str.ofString "isinstance",.builtin "isinstance"),(Str.ofString "tuple",.type "tuple"),(Str.ofString "all",.builtin "all"),(Str.ofString "range",.type "range"),(Str.ofString "bool",.type "bool"),(Str.ofString "place_by_half",.ref 118),(Str.ofString "min",.builtin "min"),(Str.ofString "range_are_like",.ref 268),(Str.ofString "range_rows",.ref 322),(Str.ofString "_wall",.ref 21),(Str.ofString "data_defaults",.ref 329),(Str.ofString "RangeMap",.ref 311),(Str.ofString "_law_draw",.ref 424),(Str.ofString "_law_hex",.ref 438),(Str.ofString "str",.type "str"),(Str.ofString "_law_pick",.ref 431),(Str.ofString "_law_names",.ref 373),(Str.ofString "_law_mappings",.ref 382),(Str.ofString "_law_numbers",.ref 403),(Str.ofString "_law_mapping",.ref 450),(Str.ofString "_law_number",.ref 457),(Str.ofString "Data",.ref 367),(Str.ofString "list",.type "list"),(Str.ofString "_law_pool",.ref 372),(Str.ofString "_law_told_code",.ref 462),(Str.ofString "_law_spans",.ref 410),(Str.ofString "_law_spelt",.ref 417),(Str.ofString "_law_line",.ref 472),(Str.ofString "property_octets",.ref 220),(Str.ofString "read_property",.ref 205),(Str.ofString "booleans_octets",.ref 227),(Str.ofString "_law_rows_right",.ref 467),(Str.ofString "_law_property_right",.ref 477),(Str.ofString "_law_truths_right",.ref 484),(Str.ofString "_law_others",.ref 404),(Str.ofString "_law_code",.ref 445),(Str.ofString "ord",.builtin "ord"),(Str.ofString "chr",.builtin "chr"),(Str.ofString "unicode_row_octets",.ref 258),(Str.ofString "unicode_data_octets",.ref 263)]
noncomputable def FA:List Addr:=[311,367,21,36,71,78,83,90,97,104,111,118,125,130,135,142,150,157,164,171,178,185,192,199,205,212,220,227,234,239,246,253,258,263,268,282,289,296,301,308,322,329,343,350,357,364,417,424,431,438,445,450,457,462,467,472,477,484,489]
set_option tactic.hygienic true
section
variable {w:World}
set_option tactic.hygienic false
noncomputable def GOK (w:World) (p:Str×Value):Prop:=nsIn (hd.heap_39 w.params) mainGlobals p.1=some (some p.2)∨(nsIn (hd.heap_39 w.params) mainGlobals p.1=some none∧bootBuiltins p.1=some p.2∧p.1≠"__name__")
noncomputable def gokB (w:World) (p:Str×Value):Bool:=decide (nsIn (hd.heap_39 w.params) mainGlobals p.1=some (some p.2))||(decide (nsIn (hd.heap_39 w.params) mainGlobals p.1=some none)&&(decide (bootBuiltins p.1=some p.2)&&decide (p.1≠"__name__")))
theorem GT_all:GT.all (gokB w)=true:=by kernel_rfl
theorem GT_ok:∀ p∈GT,GOK w p:=fun p hp=>by
 have h:=List.all_eq_true.mp (GT_all (w:=w)) p hp
 simp only [gokB,Bool.or_eq_true,Bool.and_eq_true,decide_eq_true_eq] at h
 exact h
theorem FA_all:(FA.all fun f=>keepIn (hd.heap_39 w.params) (.ref f))=true:=by kernel_rfl
theorem FA_ok:∀ f∈FA,keepIn (hd.heap_39 w.params) (.ref f)=true:=fun f hf=>List.all_eq_true.mp (FA_all (w:=w)) f hf
theorem gt_ok {x:Str} {v:Value} (h:GT.lookup x=some v):GOK w (x,v):=by
 have:∀ (T:List (Str×Value)),(∀ p∈T,GOK w p)→T.lookup x=some v→GOK w (x,v):=by
  intro T
  induction T with
  |nil=>intro _ h;simp at h
  |cons p r ih=>
   obtain ⟨y,u⟩:=p
   intro hp h
   rw [List.lookup_cons] at h
   by_cases e:x=y
   ·subst e
    simp at h
    subst h
    exact hp _ (.head _)
   ·have e':(x==y)=false:=by simpa using e
    rw [e'] at h
    exact ih (fun p q=>hp p (.tail _ q)) h
 exact this _ GT_ok h
structure OP {α:Type} (w:World) (D:Nat) (t:Sem α) (l:Led) (K:α→Led→Prop):Prop where
 go:∀ (C:Cx w) (m:Fm),D≤C.D→EV C t m l K
noncomputable abbrev Vs:=List (Option Value)
noncomputable def isFn (f:Addr):Bool:=FA.elem f
noncomputable abbrev KV:=Value→Led→Prop
noncomputable abbrev KB:=Bool→Led→Prop
noncomputable def kBin2 (w:World) (D:Nat) (op:Operator) (x:Value) (K:KV):KV:=fun y l=>OP w D (binaryOp op x y) l K
noncomputable def kBin1 (w:World) (D:Nat) (op:Operator) (W:Led→KV→Prop) (K:KV):KV:=fun x l=>W l (kBin2 w D op x K)
noncomputable def kCmp2 (w:World) (D:Nat) (op:CmpOp) (x:Value) (K:KV):KV:=fun y l=>OP w D (compareOp op x y) l K
noncomputable def kCmp1 (w:World) (D:Nat) (op:CmpOp) (W:Led→KV→Prop) (K:KV):KV:=fun x l=>W l (kCmp2 w D op x K)
noncomputable def kUn (w:World) (D:Nat) (op:UnaryOp) (K:KV):KV:=fun x l=>OP w D (unaryOp op x) l K
noncomputable def kTruth (w:World) (D:Nat) (K:KB):KV:=fun x l=>OP w D (truthy x) l K
noncomputable def kNot (K:KB):KB:=fun b l=>K (!b) l
noncomputable def kIf {α:Type} (W₁ W₂:Led→α→Prop) (K:α):KB:=fun c l=>match c with
 |true=>W₁ l K
 |false=>W₂ l K
noncomputable def kAnd (W:Led→KB→Prop) (K:KB):KB:=fun c l=>match c with
 |true=>W l K
 |false=>K false l
noncomputable def kOr (W:Led→KB→Prop) (K:KB):KB:=fun c l=>match c with
 |true=>K true l
 |false=>W l K
noncomputable def kAndV2 (v:Value) (W:Led→KV→Prop) (K:KV):KB:=fun c l=>match c with
 |true=>W l K
 |false=>K v l
noncomputable def kAndV (w:World) (D:Nat) (W:Led→KV→Prop) (K:KV):KV:=fun v l=>OP w D (truthy v) l (kAndV2 v W K)
noncomputable def kOrV2 (v:Value) (W:Led→KV→Prop) (K:KV):KB:=fun c l=>match c with
 |false=>W l K
 |true=>K v l
noncomputable def kOrV (w:World) (D:Nat) (W:Led→KV→Prop) (K:KV):KV:=fun v l=>OP w D (truthy v) l (kOrV2 v W K)
noncomputable def kTup (K:KV):List Value→Led→Prop:=fun us l=>us.length≤16777216∧∀ a,(∀ p∈l,p.1<a)→K (.ref a) ((a,{ cls:=.type "tuple",data:=.seq us.toArray })::l)
noncomputable def kLst (K:KV):List Value→Led→Prop:=fun us l=>us.length≤16777216∧∀ a,(∀ p∈l,p.1<a)→K (.ref a) ((a,{ cls:=.type "list",data:=.seq us.toArray })::l)
noncomputable def kCall2 (w:World) (D:Nat) (f:Value) (K:KV):List Value→Led→Prop:=fun us l=>OP w D (call f us) l K
noncomputable def kCall1 (w:World) (D:Nat) (W:Led→(List Value→Led→Prop)→Prop) (K:KV):KV:=fun f l=>match f with
 | .ref a=>match isFn a with
   |true=>W l (kCall2 w D (.ref a) K)
   |false=>False
 | .builtin id=>W l (kCall2 w D (.builtin id) K)
 | .type T=>W l (kCall2 w D (.type T) K)
 |_=>False
noncomputable def kCons2 (u:Value) (K:List Value→Led→Prop):List Value→Led→Prop:=fun us l=>K (u::us) l
noncomputable def kCons1 (W:Led→(List Value→Led→Prop)→Prop) (K:List Value→Led→Prop):KV:=fun u l=>W l (kCons2 u K)
structure GM (w:World) (D:Nat) (ov:Value) (name:Str) (l:Led) (K:Value×List Value→Led→Prop):Prop where
 go:∀ (C:Cx w) (m:Fm) (b:Sem Bool),D≤C.D→EV C (getMethod ov name b) m l K
structure SLO (w:World) (D:Nat) (o x y:Value) (l:Led) (K:KV):Prop where
 go:∀ (C:Cx w) (m:Fm),D≤C.D→SLC C o x y m l K
structure STP (w:World) (D:Nat) (o z:Value) (l:Led) (K:KV):Prop where
 go:∀ (C:Cx w) (m:Fm),D≤C.D→STC C o z m l K
structure RWX (w:World) (D:Nat) (e:Expr) (l:Led) (K:KV):Prop where
 go:∀ (C:Cx w) (m:Fm) (env:Env),D≤C.D→EV C (eval e env) m l K
noncomputable def kCh3 (W:Led→KB→Prop) (K:KB):KB:=fun c l=>match c with
 |true=>W l K
 |false=>K false l
noncomputable def kCh2 (w:World) (D:Nat) (o₁ o₂:CmpOp) (x:Value) (W:Led→KV→Prop) (K:KB):KV:=fun y l=>OP w D (compareOp o₁ x y) l (kTruth w D (kCh3 (fun l K=>W l (kCmp2 w D o₂ y (kTruth w D K))) K))
noncomputable def kCh1 (w:World) (D:Nat) (o₁ o₂:CmpOp) (W₁ W₂:Led→KV→Prop) (K:KB):KV:=fun x l=>W₁ l (kCh2 w D o₁ o₂ x W₂ K)
noncomputable def kStp2 (w:World) (D:Nat) (o:Value) (K:KV):KV:=fun z l=>STP w D o z l K
noncomputable def kStp1 (w:World) (D:Nat) (W:Led→KV→Prop) (K:KV):KV:=fun o l=>W l (kStp2 w D o K)
noncomputable def kSlc3 (w:World) (D:Nat) (o x:Value) (K:KV):KV:=fun y l=>SLO w D o x y l K
noncomputable def kSlc2 (w:World) (D:Nat) (o:Value) (W:Led→KV→Prop) (K:KV):KV:=fun x l=>W l (kSlc3 w D o x K)
noncomputable def kSlc1 (w:World) (D:Nat) (W₁ W₂:Led→KV→Prop) (K:KV):KV:=fun o l=>W₁ l (kSlc2 w D o W₂ K)
noncomputable def kSub2 (w:World) (D:Nat) (o:Value) (K:KV):KV:=fun i l=>OP w D (subOp o i) l K
noncomputable def kSub1 (w:World) (D:Nat) (W:Led→KV→Prop) (K:KV):KV:=fun o l=>W l (kSub2 w D o K)
noncomputable def kAttr (w:World) (D:Nat) (nm:Str) (K:KV):KV:=fun o l=>OP w D (getAttr o nm true) l K
noncomputable def kMeth3 (w:World) (D:Nat) (f:Value) (first :List Value) (K:KV):List Value→Led→Prop:=fun us l=>OP w D (call f (first ++us)) l K
noncomputable def kMeth2 (w:World) (D:Nat) (W:Led→(List Value→Led→Prop)→Prop) (K:KV):Value×List Value→Led→Prop:=fun f l=>match f with
 |(.ref a,first)=>match isFn a with
  |true=>W l (kMeth3 w D (.ref a) first K)
  |false=>False
 |(.builtin id,first)=>W l (kMeth3 w D (.builtin id) first K)
 |_=>False
noncomputable def kMeth1 (w:World) (D:Nat) (name:Str) (W:Led→(List Value→Led→Prop)→Prop) (K:KV):KV:=fun ov l=>GM w D ov name l (kMeth2 w D W K)
noncomputable def ELT (w:World) (C:Cx w) (D:Nat) (elt:X) (cvs:Vs) (W:X→Vs→Led→KV→Prop) (e:Expr) (x:Str) (scope:Scope) (cl:List (Str×Addr)) (env:Env):Prop:=
 ∀ (r:Led) (m:Fm) (Cc:Addr) (oC:Obj) (m₂:Fm) (v:Value),(Cc,oC)∈r→LCg.NsObj oC m₂→m₂ x=some v→∀ l K,W elt (some v::cvs) l K→EV (C.beside r) (eval e (compEnvC scope cl Cc env)) m l K
structure CMP (w:World) (D:Nat) (elt:X) (cvs:Vs) (W:X→Vs→Led→KV→Prop) (v:Value) (l:Led) (K:KV):Prop where
 go:∀ (C:Cx w) (m:Fm) (e:Expr) (x:Str) (scope:Scope) (cl:List (Str×Addr)) (env:Env),D≤C.D→ELT w C D elt cvs W e x scope cl env→
  ∀ s (Fin:Shared→List Value→Led→Prop),St C m l s→(∀ g ys l',(l'++C.hid).Pairwise (fun p q=>p.1≠q.1)→(∀ a,(∀ p∈l',@Ne Nat p.1 a)→K (.ref a) ((a,LCg.lst ys)::l'))→Fin { s with heap:=g } ys (l'++C.hid))→
    LG.SrcG PG w C.A C.h₀ C.L m env e x scope cl Fin NoE v s
noncomputable def ELTn (w:World) (C:Cx w) (elt:X) (cvs:Vs) (W:X→Vs→Led→KV→Prop) (e:Expr) (xs:List Str) (scope:Scope) (cl:List (Str×Addr)) (env:Env):Prop:=
 ∀ (r:Led) (m:Fm) (Cc:Addr) (oC:Obj) (m₂:Fm) (us:List Value),(Cc,oC)∈r→LCg.NsObj oC m₂→(∀ (i:Nat) x,xs[i]? =some x→∃ u,us[i]? =some u∧m₂ x=some u)→us.length=xs.length→∀ l K,W elt (us.map some++cvs) l K→EV (C.beside r) (eval e (compEnvC scope cl Cc env)) m l K
noncomputable def ELTb (w:World) (C:Cx w) (cvs:Vs) (W:Vs→Led→KV→Prop) (e:Expr) (x:Str) (scope:Scope) (cl:List (Str×Addr)) (env:Env):Prop:=
 ∀ (r:Led) (m:Fm) (Cc:Addr) (oC:Obj) (m₂:Fm) (v:Value),(Cc,oC)∈r→LCg.NsObj oC m₂→m₂ x=some v→∀ l K,W (some v::cvs) l K→EV (C.beside r) (eval e (compEnvC scope cl Cc env)) m l K
structure CMP4 (w:World) (D:Nat) (elt:X) (cvs:Vs) (W:X→Vs→Led→KV→Prop) (v:Value) (l:Led) (K:KV):Prop where
 go:∀ (C:Cx w) (m:Fm) (e:Expr) (x₁ x₂ x₃ x₄:Str) (scope:Scope) (cl:List (Str×Addr)) (env:Env),D≤C.D→ELTn w C elt cvs W e [x₁,x₂,x₃,x₄] scope cl env→
  ∀ s (Fin:Shared→List Value→Led→Prop),St C m l s→(∀ g ys l',(l'++C.hid).Pairwise (fun p q=>p.1≠q.1)→(∀ a,(∀ p∈l',@Ne Nat p.1 a)→K (.ref a) ((a,LCg.lst ys)::l'))→Fin { s with heap:=g } ys (l'++C.hid))→
    LQ.SrcQ PG w C.A C.h₀ C.L m env e x₁ x₂ x₃ x₄ scope cl Fin v s
structure DCMP (w:World) (D:Nat) (cvs:Vs) (W:Bool→Vs→Led→KV→Prop) (v:Value) (l:Led) (K:KV):Prop where
 go:∀ (C:Cx w) (m:Fm) (ke ve:Expr) (x:Str) (scope:Scope) (cl:List (Str×Addr)) (env:Env),D≤C.D→ELTb w C cvs (W true) ke x scope cl env→ELTb w C cvs (W false) ve x scope cl env→
  ∀ s (Fin:Shared→List (Str×Value)→Led→Prop),St C m l s→(∀ g kvs l',(l'++C.hid).Pairwise (fun p q=>p.1≠q.1)→(∀ a o,o.IsDictOf (PySem.strKind PG w) kvs→(a==sysModules)=false→(∀ p∈l',@Ne Nat p.1 a)→K (.ref a) ((a,o)::l'))→Fin { s with heap:=g } kvs (l'++C.hid))→
    LD.SrcD w C.A C.h₀ C.L m env ke ve x scope cl Fin v s
noncomputable def capV (vs:Vs) (caps:List Nat):Vs:=caps.map fun i=>match vs[i]? with
 |some v=>v
 |none=>none
set_option tactic.hygienic true
mutual
noncomputable def WX (w:World) (D:Nat):X→Vs→Led→KV→Prop
 | .k (.int i),_,l,K=>∀ t,K (.int i t) l
 | .k (.str s),_,l,K=>∀ t,K (.str s t) l
 | .k (.bytes b),_,l,K=>∀ t,K (.bytes b.toArray t) l
 | .k .none,_,l,K=>K .none l
 | .k (.bool b),_,l,K=>K (.bool b) l
 | .k _,_,_,_=>False
 | .v i,vs,l,K=>match vs[i]? with
   |some (some v)=>K v l
   |_=>False
 | .g v,_,l,K=>K v l
 | .bin op a b,vs,l,K=>WX w D a vs l (kBin1 w D op (WX w D b vs) K)
 | .cmp op a b,vs,l,K=>WX w D a vs l (kCmp1 w D op (WX w D b vs) K)
 | .un op a,vs,l,K=>WX w D a vs l (kUn w D op K)
 | .ife t a b,vs,l,K=>WT w D t vs l (kIf (WX w D a vs) (WX w D b vs) K)
 | .bool .And xs,vs,l,K=>WAV w D xs vs l K
 | .bool .Or xs,vs,l,K=>WOV w D xs vs l K
 | .tup xs,vs,l,K=>WXs w D xs vs l (kTup K)
 | .lst xs,vs,l,K=>WXs w D xs vs l (kLst K)
 | .call f xs,vs,l,K=>WX w D f vs l (kCall1 w D (WXs w D xs vs) K)
 | .sub a b,vs,l,K=>WX w D a vs l (kSub1 w D (WX w D b vs) K)
 | .slc o a b,vs,l,K=>WX w D o vs l (kSlc1 w D (WX w D a vs) (WX w D b vs) K)
 | .stp o c,vs,l,K=>WX w D o vs l (kStp1 w D (WX w D c vs) K)
 | .meth o nm xs,vs,l,K=>WX w D o vs l (kMeth1 w D nm (WXs w D xs vs) K)
 | .attr o nm,vs,l,K=>WX w D o vs l (kAttr w D nm K)
 | .comp elt src caps,vs,l,K=>WX w D src vs l fun v l=>CMP w D elt (capV vs caps) (fun zq vs l K=>WX w D elt vs l K) v l K
 | .comp4 elt src caps,vs,l,K=>WX w D src vs l fun v l=>CMP4 w D elt (capV vs caps) (fun zq vs l K=>WX w D elt vs l K) v l K
 | .dcomp kx vx src caps,vs,l,K=>WX w D src vs l fun v l=>DCMP w D (capV vs caps) (fun b vs l K=>match b with|true=>WX w D kx vs l K|false=>WX w D vx vs l K) v l K
 | .raw e,_,l,K=>RWX w D e l K
 | .cmp2 _ _ _ _ _,_,_,_=>False
 | .bad,_,_,_=>False
noncomputable def WT (w:World) (D:Nat):X→Vs→Led→KB→Prop
 | .un .Not a,vs,l,K=>WT w D a vs l (kNot K)
 | .bool .And xs,vs,l,K=>WA w D xs vs l K
 | .bool .Or xs,vs,l,K=>WO w D xs vs l K
 | .cmp op a b,vs,l,K=>WX w D a vs l (kCmp1 w D op (WX w D b vs) (kTruth w D K))
 | .cmp2 o₁ o₂ a b c,vs,l,K=>WX w D a vs l (kCh1 w D o₁ o₂ (WX w D b vs) (WX w D c vs) K)
 | .v i,vs,l,K=>match vs[i]? with
   |some (some v)=>OP w D (truthy v) l K
   |_=>False
 | .call f xs,vs,l,K=>WX w D f vs l (kCall1 w D (WXs w D xs vs) (kTruth w D K))
 | .sub a b,vs,l,K=>WX w D a vs l (kSub1 w D (WX w D b vs) (kTruth w D K))
 | .meth o nm xs,vs,l,K=>WX w D o vs l (kMeth1 w D nm (WXs w D xs vs) (kTruth w D K))
 |_,_,_,_=>False
noncomputable def WXs (w:World) (D:Nat):Xs→Vs→Led→(List Value→Led→Prop)→Prop
 | .nil,_,l,K=>K [] l
 | .cons x xs,vs,l,K=>WX w D x vs l (kCons1 (WXs w D xs vs) K)
noncomputable def WA (w:World) (D:Nat):Xs→Vs→Led→KB→Prop
 | .nil,_,l,K=>K true l
 | .cons x xs,vs,l,K=>WT w D x vs l (kAnd (WA w D xs vs) K)
noncomputable def WO (w:World) (D:Nat):Xs→Vs→Led→KB→Prop
 | .nil,_,l,K=>K false l
 | .cons x xs,vs,l,K=>WT w D x vs l (kOr (WO w D xs vs) K)
noncomputable def WAV (w:World) (D:Nat):Xs→Vs→Led→KV→Prop
 | .nil,_,_,_=>False
 | .cons x xs,vs,l,K=>match xs with
   | .nil=>WX w D x vs l K
   | .cons y ys=>WX w D x vs l (kAndV w D (WAV w D (.cons y ys) vs) K)
noncomputable def WOV (w:World) (D:Nat):Xs→Vs→Led→KV→Prop
 | .nil,_,_,_=>False
 | .cons x xs,vs,l,K=>match xs with
   | .nil=>WX w D x vs l K
   | .cons y ys=>WX w D x vs l (kOrV w D (WOV w D (.cons y ys) vs) K)
end
set_option tactic.hygienic false
noncomputable def isStar:Expr→Bool
 | .Starred _ _=>true
 |_=>false
noncomputable def cellAt (ns cn:List Str) (x:Str):X:=match cn.idxOf? x with
 |some j=>.v (ns.length+j)
 |none=>.bad
noncomputable def trName (cs:Scope) (ns cn:List Str) (x:Str):X:=
 cond (x=="__debug__"||x=="__classdict__") .bad (match cs.names.lookup x with
  |some .local=>(match ns.idxOf? x with|some i=>.v i|none=>.bad)
  |some .cell=>cellAt ns cn x
  |some .free=>cellAt ns cn x
  |some .globalImplicit=>(match GT.lookup x with|some v=>.g v|none=>.bad)
  |_=>.bad)
noncomputable def twoOp (g:CmpOp→Expr→X):List CmpOp→List Expr→X
 |op::ops,b::bs=>(match ops,bs with
  |[],[]=>cond (behindInMarks op b) .bad (g op b)
  |_,_=>.bad)
 |_,_=>.bad
noncomputable def oneOp (f:CmpOp→Expr→X) (g:CmpOp→Expr→CmpOp→Expr→X):List CmpOp→List Expr→X
 |op::ops,b::bs=>cond (ops.isEmpty&&bs.isEmpty) (cond (behindInMarks op b) .bad (f op b)) (twoOp (g op b) ops bs)
 |_,_=>.bad
noncomputable def freesOf:List (Str×NameKind)→List Str→List Str
 |[],acc=>acc
 |(n,k)::r,acc=>cond (k==.free) (freesOf r (n::acc)) (freesOf r acc)
noncomputable def isSetE:Expr→Bool
 | .Set _ _ _=>true
 |_=>false
noncomputable def blockOk (scope:Scope) (x:Str) (iter:Expr):Bool:=
 decide (scope.kind= .function)&&decide (∀ y∈scope.names,y.2≠.cell)&&decide (∀ y∈scope.names,y.2= .local→scope.names.lookup y.1=some .local)&&decide (scope.names.lookup x=some .local)&&!isSetE iter
noncomputable def capsOf (cs:Scope) (ns cn:List Str):List Str→Option (List Nat)
 |[]=>some []
 |x::r=>match cs.names.lookup x,cn.idxOf? x,capsOf cs ns cn r with
  |some .cell,some j,some js=>some ((ns.length+j)::js)
  |_,_,_=>none
inductive Vw
 |name (x:Str) (p:Pos)|tup (es:List Expr) (k:Nat) (p:Pos)|attr (o:Expr) (nm:Str) (p:Pos)|other
noncomputable def vw:Expr→Vw
 | .Name x p=>.name x p
 | .Tuple es k p=>.tup es k p
 | .Attribute o nm p=>.attr o nm p
 |_=>.other
noncomputable def nm? (e:Expr):Option (Str×Pos):=match vw e with
 | .name x p=>some (x,p)
 |_=>none
noncomputable def tup? (e:Expr):Option (List Expr×Nat×Pos):=match vw e with
 | .tup es k p=>some (es,k,p)
 |_=>none
noncomputable def callOr (f:Expr) (g:Expr→Str→Pos→X) (y:X):X:=match vw f with
 | .attr o nm p=>g o nm p
 | .name _ _=>y
 |_=>.bad
noncomputable def one?:List Comprehension→Option (Expr×Expr)
 |[g]=>cond (g.ifs.isEmpty&&decide (g.is_async=0)) (some (g.target,g.iter)) none
 |_=>none
noncomputable def l4?:List Expr→Option (Expr×Expr×Expr×Expr)
 |[a,b,c,d]=>some (a,b,c,d)
 |_=>none
structure C4 where
 (x₁ x₂ x₃ x₄:Str) (p₁ p₂ p₃ p₄:Pos) (k:Nat) (p:Pos) (iter:Expr)
noncomputable def parse4 (gens:List Comprehension):Option C4:=(one? gens).bind fun g=>(tup? g.1).bind fun t=>(l4? t.1).bind fun l=>(nm? l.1).bind fun a=>(nm? l.2.1).bind fun b=>(nm? l.2.2.1).bind fun c=>(nm? l.2.2.2).bind fun d=>some ⟨a.1,b.1,c.1,d.1,a.2,b.2,c.2,d.2,t.2.1,t.2.2,g.2⟩
noncomputable def parse1 (gens:List Comprehension):Option (Str×Pos×Expr):=(one? gens).bind fun g=>(nm? g.1).bind fun a=>some (a.1,a.2,g.2)
noncomputable def compOr (f:Str→Expr→Expr→X) (elt:Expr) (gens:List Comprehension):X:=match parse1 gens with
 |some c=>f c.1 c.2.2 elt
 |none=>.bad
noncomputable def compOr4 (f:Str→Str→Str→Str→Expr→X) (y:X) (gens:List Comprehension):X:=match parse4 gens with
 |some c=>f c.x₁ c.x₂ c.x₃ c.x₄ c.iter
 |none=>y
noncomputable def block4Ok (scope:Scope) (x₁ x₂ x₃ x₄:Str):Bool:=
 decide (scope.names.lookup x₂=some .local)&&decide (scope.names.lookup x₃=some .local)&&decide (scope.names.lookup x₄=some .local)&&decide (x₁≠x₂∧x₁≠x₃∧x₁≠x₄∧x₂≠x₃∧x₂≠x₄∧x₃≠x₄)
noncomputable def someX (f:List Nat→X):Option (List Nat)→X
 |some c=>f c
 |none=>.bad
noncomputable def optX (f:Expr→X):Option Expr→X
 |some e=>f e
 |none=>.k .none
noncomputable def slcOr (f:Expr→X) (o s:X):Expr→X
 | .Slice a b c _=>(match c with
   |none=>.slc o (optX f a) (optX f b)
   |some e=>cond (a.isNone&&b.isNone) (.stp o (f e)) .bad)
 |_=>s
set_option tactic.hygienic true
mutual
noncomputable def tr:Nat→Scope→List Str→List Str→Expr→X
 |0,_,_,_,_=>.bad
 |n+1,cs,ns,cn,e=>match e with
  | .Constant c _ _=>.k c
  | .Name x _=>trName cs ns cn x
  | .BinOp a op b _=>.bin op (tr n cs ns cn a) (tr n cs ns cn b)
  | .Compare a ops bs _=>oneOp (fun op b=>.cmp op (tr n cs ns cn a) (tr n cs ns cn b)) (fun op b o₂ c=>.cmp2 op o₂ (tr n cs ns cn a) (tr n cs ns cn b) (tr n cs ns cn c)) ops bs
  | .Dict ks vs p=>.raw (.Dict ks vs p)
  | .UnaryOp op a _=>.un op (tr n cs ns cn a)
  | .IfExp t a b _=>.ife (tr n cs ns cn t) (tr n cs ns cn a) (tr n cs ns cn b)
  | .BoolOp op xs _=>.bool op (trs n cs ns cn xs)
  | .Tuple xs _ _=>cond (xs.any isStar) .bad (.tup (trs n cs ns cn xs))
  | .List xs _=>cond (xs.any isStar) .bad (.lst (trs n cs ns cn xs))
  | .Subscript v sl _=>slcOr (tr n cs ns cn) (tr n cs ns cn v) (.sub (tr n cs ns cn v) (tr n cs ns cn sl)) sl
  | .Attribute o nm _=>cond (isCallE o) .bad (.attr (tr n cs ns cn o) nm)
  | .ListComp elt gens scope _=>compOr4 (fun x₁ x₂ x₃ x₄ iter=>cond (blockOk scope x₁ iter&&block4Ok scope x₁ x₂ x₃ x₄) (someX (fun caps=>.comp4 (tr n scope [x₁,x₂,x₃,x₄] (freesOf scope.names []) elt) (tr n cs ns cn iter) caps) (capsOf cs ns cn (freesOf scope.names []))) .bad)
    (compOr (fun x iter elt=>cond (blockOk scope x iter) (someX (fun caps=>.comp (tr n scope [x] (freesOf scope.names []) elt) (tr n cs ns cn iter) caps) (capsOf cs ns cn (freesOf scope.names []))) .bad) elt gens) gens
  | .DictComp kx vx gens scope _=>compOr (fun x iter kx=>cond (blockOk scope x iter) (someX (fun caps=>.dcomp (tr n scope [x] (freesOf scope.names []) kx) (tr n scope [x] (freesOf scope.names []) vx) (tr n cs ns cn iter) caps) (capsOf cs ns cn (freesOf scope.names []))) .bad) kx gens
  | .Call f xs ks p=>callOr f (fun o nm apos=>cond (!isCallE o&&ks.isEmpty&&!xs.any isStar&&apos.endLine==p.line&&decide (xs.length<30)) (.meth (tr n cs ns cn o) nm (trs n cs ns cn xs)) .bad) (cond (ks.isEmpty&&!xs.any isStar) (.call (tr n cs ns cn f) (trs n cs ns cn xs)) .bad)
  |_=>.bad
noncomputable def trs:Nat→Scope→List Str→List Str→List Expr→Xs
 |0,_,_,_,es=>(match es with|[]=>.nil|_::_=>.cons .bad .nil)
 |n+1,cs,ns,cn,es=>(match es with|[]=>.nil|e::r=>.cons (tr n cs ns cn e) (trs n cs ns cn r))
end
end
section
variable {w:World} {C:Cx w} {D:Nat}
set_option tactic.hygienic false
theorem const_ok {env:Env} {c:Const} {k:Nat} {p:Pos} {vs:Vs} {l:Led} {m:Fm} {K:Value→Led→Prop} (h:WX w D (.k c) vs l K):EV C (eval (.Constant c k p) env) m l K:=by
 cases c with
 |int i=>exact fun s zq S q=>wpAny_Constant_int (q _ l s.heap _ (h _) ⟨S.F,S.N,S.D⟩)
 |str x=>exact fun s zq S q=>wpAny_Constant_str (q _ l s.heap _ (h _) ⟨S.F,S.N,S.D⟩)
 |none=>exact fun s zq S q=>wpAny_Constant_none (q _ l s.heap s.toks h S)
 |bool b=>exact fun s zq S q=>wpAny_Constant_bool (q _ l s.heap s.toks h S)
 |bytes b=>exact fun s zq S q=>wpAny_mkTextBytes (q _ l s.heap _ (h _) ⟨S.F,S.N,S.D⟩)
 |float=>exact h.elim
 |complex=>exact h.elim
 |ellipsis=>exact h.elim
inductive NmF (cs:Scope) (ns cn:List Str) (x:Str) (P:X→Prop):Prop
 |loc (d1:(x==("__debug__":Str))=false) (d2:(x==("__classdict__":Str))=false) (i:Nat) (h1:cs.names.lookup x=some .local) (h2:ns.idxOf? x=some i) (h:P (.v i))
 |cell (d1:(x==("__debug__":Str))=false) (d2:(x==("__classdict__":Str))=false) (j:Nat) (h1:cs.names.lookup x=some .cell∨cs.names.lookup x=some .free) (h2:cn.idxOf? x=some j) (h:P (.v (ns.length+j)))
 |glob (d1:(x==("__debug__":Str))=false) (d2:(x==("__classdict__":Str))=false) (v:Value) (h1:cs.names.lookup x=some .globalImplicit) (h2:GT.lookup x=some v) (h:P (.g v))
theorem cellAt_is {ns cn:List Str} {x:Str} {P:X→Prop} (hb: ¬P .bad) (h:P (cellAt ns cn x)):∃ j,cn.idxOf? x=some j∧P (.v (ns.length+j)):=by
 unfold cellAt at h
 cases hi:cn.idxOf? x with
 |none=>rw [hi] at h;exact (hb h).elim
 |some j=>rw [hi] at h;exact ⟨j,rfl,h⟩
theorem name_cases {cs:Scope} {ns cn:List Str} {x:Str} {P:X→Prop} (h:P (trName cs ns cn x)) (hb: ¬P .bad):NmF cs ns cn x P:=by
 unfold trName at h
 cases hd:(x==("__debug__":Str)||x==("__classdict__":Str)) with
 |true=>rw [hd] at h;exact (hb h).elim
 |false=>
  rw [hd] at h
  obtain ⟨d1,d2⟩:=Bool.or_eq_false_iff.mp hd
  replace h:P (match cs.names.lookup x with
   |some .local=>(match ns.idxOf? x with|some i=>.v i|none=>.bad)
   |some .cell=>cellAt ns cn x
   |some .free=>cellAt ns cn x
   |some .globalImplicit=>(match GT.lookup x with|some v=>.g v|none=>.bad)
   |_=>.bad):=h
  cases hl:cs.names.lookup x with
  |none=>rw [hl] at h;exact (hb h).elim
  |some k=>
   rw [hl] at h
   cases k
   case «local»=>
    cases hi:ns.idxOf? x with
    |none=>rw [hi] at h;exact (hb h).elim
    |some i=>rw [hi] at h;exact .loc d1 d2 i hl hi h
   case cell=>obtain ⟨j,h1,h2⟩:=cellAt_is hb h;exact .cell d1 d2 j (.inl hl) h1 h2
   case free=>obtain ⟨j,h1,h2⟩:=cellAt_is hb h;exact .cell d1 d2 j (.inr hl) h1 h2
   case globalImplicit=>
    cases hg:GT.lookup x with
    |none=>rw [hg] at h;exact (hb h).elim
    |some v=>rw [hg] at h;exact .glob d1 d2 v hl hg h
   all_goals exact (hb h).elim
structure RM (C:Cx w) (D:Nat) (cs:Scope) (ns cn:List Str) (env:Env) (vs:Vs) (m:Fm):Prop where
 nok:∀ x p l K,WX w D (trName cs ns cn x) vs l K→EV C (eval (.Name x p) env) m l K
 glob:env.globals=mainGlobals
 blt:env.builtins=builtinsNs
 cells:∀ x j,cs.names.lookup x=some .cell→cn.idxOf? x=some j→env.kindOf x=some .cell∧∃ a,env.cells.lookup x=some a∧∀ v,vs[ns.length+j]? =some (some v)→∃ o,(a,o)∈C.hid∧o.data= .cell (some v)
theorem place_of {vs:Vs} {i:Nat} {l:Led} {K:KV} (h:WX w D (.v i) vs l K):∃ v,vs[i]? =some (some v)∧K v l:=by
 replace h:(match vs[i]? with|some (some v)=>K v l|_=>False):=h
 cases hv:vs[i]? with
 |none=>rw [hv] at h;exact h.elim
 |some o=>
  rw [hv] at h
  cases o with
  |none=>exact h.elim
  |some v=>exact ⟨v,rfl,h⟩
theorem global_ok {env:Env} {m:Fm} {x:Str} {p:Pos} {v:Value} {l:Led} {K:KV} (hk:env.scope.kind= .function) (he:env.globals=mainGlobals) (hb:env.builtins=builtinsNs) (hx:env.kindOf x=some .globalImplicit) (hd:(x==("__debug__":Str))=false) (hv:GT.lookup x=some v) (k:K v l):EV C (eval (.Name x p) env) m l K:=by
 rcases gt_ok (w:=w) hv with g|⟨g1,g2,g3⟩
 ·exact EV.global g hk he hx hd k
 ·exact EV.builtinName g1 g2 g3 hk he hb hx hd k
theorem relabel_at {env:Env} {k':NameKind}:∀ {names:List (Str×NameKind)} {x:Str},names.lookup x=some k'→k'≠.free→
  (names.map fun (n,k)=>if (k==NameKind.free&&env.scope.kind==ScopeKind.function&&env.kindOf n==some NameKind.cell) then (n,NameKind.cell) else (n,k)).lookup x=some k'
 |[],_,h,_=>by simp at h
 |(n,k)::r,x,h,hk=>by
  have ih:=@relabel_at env k' r x
  show List.lookup x ((if (k==NameKind.free&&env.scope.kind==ScopeKind.function&&env.kindOf n==some NameKind.cell)=true then (n,NameKind.cell) else (n,k))::_)=_
  cases hx:x==n with
  |true=>
   simp only [List.lookup_cons,hx] at h
   cases h
   have:(k'==NameKind.free)=false:=by simpa using hk
   simp [List.lookup_cons,hx,this]
  |false=>
   simp only [List.lookup_cons,hx] at h
   by_cases hc:(k==NameKind.free&&env.scope.kind==ScopeKind.function&&env.kindOf n==some NameKind.cell)=true
   ·rw [if_pos hc];simp only [List.lookup_cons,hx];exact ih h hk
   ·rw [if_neg hc];simp only [List.lookup_cons,hx];exact ih h hk
theorem relabel_free {env:Env}:∀ {names:List (Str×NameKind)} {x:Str},names.lookup x=some .free→
  (names.map fun (n,k)=>if (k==NameKind.free&&env.scope.kind==ScopeKind.function&&env.kindOf n==some NameKind.cell) then (n,NameKind.cell) else (n,k)).lookup x=some .cell∨
  (names.map fun (n,k)=>if (k==NameKind.free&&env.scope.kind==ScopeKind.function&&env.kindOf n==some NameKind.cell) then (n,NameKind.cell) else (n,k)).lookup x=some .free
 |[],_,h=>by simp at h
 |(n,k)::r,x,h=>by
  have ih:=@relabel_free env r x
  rw [List.map_cons]
  generalize (r.map fun (n,k)=>if (k==NameKind.free&&env.scope.kind==ScopeKind.function&&env.kindOf n==some NameKind.cell) then (n,NameKind.cell) else (n,k))=r' at *
  dsimp only
  cases hx:x==n with
  |true=>
   simp only [List.lookup_cons,hx] at h
   cases h
   by_cases hc:(NameKind.free==NameKind.free&&env.scope.kind==ScopeKind.function&&env.kindOf n==some NameKind.cell)=true
   ·rw [if_pos hc];simp only [List.lookup_cons,hx];exact .inl trivial
   ·rw [if_neg hc];simp only [List.lookup_cons,hx];exact .inr trivial
  |false=>
   simp only [List.lookup_cons,hx] at h
   by_cases hc:(k==NameKind.free&&env.scope.kind==ScopeKind.function&&env.kindOf n==some NameKind.cell)=true
   ·rw [if_pos hc];simp only [List.lookup_cons,hx];exact ih h
   ·rw [if_neg hc];simp only [List.lookup_cons,hx];exact ih h
theorem mem_of_look {k:NameKind}:∀ {names:List (Str×NameKind)} {x:Str},names.lookup x=some k→(x,k)∈names
 |[],_,h=>by simp at h
 |(n,k')::r,x,h=>by
  rw [List.lookup_cons] at h
  cases hx:x==n with
  |true=>
   rw [hx] at h
   have e:=eq_of_beq hx
   cases h
   subst e
   exact .head _
  |false=>rw [hx] at h;exact .tail _ (mem_of_look h)
noncomputable def cellAdr (env:Env) (n:Str):Addr:=match env.cells.lookup n with
 |some a=>a
 |none=>0
theorem closure_go {env:Env}:∀ (names:List (Str×NameKind)) (acc:List Str),(∀ n∈freesOf names acc,∃ a,env.cells.lookup n=some a)→
  (forIn (m:=Sem) names (acc.map fun n=>(n,cellAdr env n)) fun (x:Str×NameKind) (r:List (Str×Addr))=>
    (if (x.2==.free)=true then (cellOf env x.1>>=fun a=>Pure.pure (ForInStep.yield ((x.1,a)::r))) else Pure.pure (ForInStep.yield r)))=Pure.pure ((freesOf names acc).map fun n=>(n,cellAdr env n))
 |[],acc,_=>by rw [List.forIn_nil];rfl
 |(n,k)::r,acc,h=>by
  rw [List.forIn_cons]
  unfold freesOf at h ⊢
  cases hk:k==NameKind.free with
  |true=>
   rw [hk] at h
   have sub:∀ (names:List (Str×NameKind)) (acc:List Str) (y:Str),y∈acc→y∈freesOf names acc:=by
    intro names
    induction names with
    |nil=>exact fun zq zq h=>h
    |cons p r ih=>
     intro acc y hy
     unfold freesOf
     cases (p.2==NameKind.free)
     ·exact ih _ _ hy
     ·exact ih _ _ (.tail _ hy)
   obtain ⟨a,ha⟩:=h n (sub _ _ _ (.head _))
   have ec:cellOf env n=Pure.pure a:=by unfold cellOf;rw [ha]
   have ea:cellAdr env n=a:=by unfold cellAdr;rw [ha]
   have:=closure_go r (n::acc) h
   simp only [List.map_cons,ea] at this
   simp only [if_true,ec,pure_bind,cond_true]
   exact this
  |false=>
   rw [hk] at h
   simp only [Bool.false_eq_true,if_false,pure_bind,cond_false]
   exact closure_go r acc h
theorem closure_of {scope:Scope} {env:Env} (h:∀ n∈freesOf scope.names [],∃ a,env.cells.lookup n=some a):closureFor scope env=Pure.pure ((freesOf scope.names []).map fun n=>(n,cellAdr env n)):=by
 have:=closure_go (env:=env) scope.names [] h
 unfold closureFor
 simp only [List.map_nil] at this
 first
  |(simp only [bind_pure];exact this)
  |(rw [show (Pure.pure ((freesOf scope.names []).map fun n=>(n,cellAdr env n)):Sem _)=(Pure.pure ((freesOf scope.names []).map fun n=>(n,cellAdr env n))>>=Pure.pure) from (by rw [bind_pure])];rw [←this];rfl)
set_option tactic.hygienic true
end
end
section
section
variable {w:World} {C:Cx w} {D:Nat}
set_option tactic.hygienic false
theorem star_ok {e:Expr} {r:List Expr} {env:Env} (hs:(e::r).any isStar=false):starEach (e::r) env=(false,eval e env)::starEach r env∧r.any isStar=false:=by
 refine ⟨?_,by simp only [List.any_cons,Bool.or_eq_false_iff] at hs;exact hs.2⟩
 cases e<;>first|rfl|(simp [isStar] at hs)
theorem withArgs {env:Env} {f:Value} {pos:Pos} {es:List Expr} {m:Fm} {l:Led} {K:Args→Led→Prop} (hs:es.any isStar=false)
  (h:EV C (spliced (backTo pos (starEach es env))) m l fun us l=>K ⟨us,[]⟩ l):EV C (evalArgs f true (backTo pos (starEach es env)) []) m l K:=by
 cases es with
 |nil=>
  intro s Q S q
  unfold evalArgs
  show wpAny _ _ (spliced []>>=_) _ _ _
  refine wpAny_bind (h s _ S fun us l' h' tk' k S'=>?_)
  refine wpAny_bind (wpAny_pure ?_)
  refine wpAny_holding ?_
  exact wpAny_bind (wpAny_pure (wpAny_bind (wpAny_pure (wpAny_pure (q _ _ _ _ k S')))))
 |cons e r=>
  rw [(star_ok hs).1] at h ⊢
  exact EV.argsPlain h
theorem noStars {pos:Pos} {env:Env}:∀ {es:List Expr},es.any isStar=false→(backTo pos (starEach es env)).any (·.1)=false
 |[],_=>rfl
 |e::r,h=>by
  obtain ⟨e1,e2⟩:=star_ok (env:=env) h
  rw [e1]
  exact noStars (pos:=pos) (env:=env) e2
theorem form_ok {pos:Pos} {env:Env} {es:List Expr} (hs:es.any isStar=false) (hn:es.length<30):methodCallForm (es.length+0) (backTo pos (starEach es env)) []=true:=by
 have h:=noStars (pos:=pos) (env:=env) hs
 unfold methodCallForm
 have h2:(backTo pos (starEach es env)).all (fun x=>!x.1)=true:=by
  rw [List.all_eq_true]
  intro x hx
  have:=List.any_eq_false.mp h x hx
  simpa using this
 simp [h2,hn]
inductive IsCmp1 (f:CmpOp→Expr→X) (ops:List CmpOp) (bs:List Expr) (P:X→Prop):Prop
 |mk (op:CmpOp) (b:Expr) (e1:ops=[op]) (e2:bs=[b]) (hm:behindInMarks op b=false) (h:P (f op b))
inductive IsCmp2 (g:CmpOp→Expr→CmpOp→Expr→X) (ops:List CmpOp) (bs:List Expr) (P:X→Prop):Prop
 |mk (op o₂:CmpOp) (b c:Expr) (e1:ops=[op,o₂]) (e2:bs=[b,c]) (hm:behindInMarks o₂ c=false) (h:P (g op b o₂ c))
theorem two_cases {f:CmpOp→Expr→X} {ops:List CmpOp} {bs:List Expr} {P:X→Prop} (hb: ¬P .bad) (h:P (twoOp f ops bs)):IsCmp1 f ops bs P:=by
 cases ops with
 |nil=>exact (hb h).elim
 |cons op ops=>
  cases bs with
  |nil=>exact (hb h).elim
  |cons b bs=>
   cases ops with
   |cons=>exact (hb h).elim
   |nil=>
    cases bs with
    |cons=>exact (hb h).elim
    |nil=>
     replace h:P (cond (behindInMarks op b) .bad (f op b)):=h
     cases hm:behindInMarks op b with
     |true=>rw [hm] at h;exact (hb h).elim
     |false=>rw [hm] at h;exact ⟨op,b,rfl,rfl,hm,h⟩
theorem one_cases {f:CmpOp→Expr→X} {g:CmpOp→Expr→CmpOp→Expr→X} {ops:List CmpOp} {bs:List Expr} {P:X→Prop} (hb: ¬P .bad) (h:P (oneOp f g ops bs)):IsCmp1 f ops bs P∨IsCmp2 g ops bs P:=by
 cases ops with
 |nil=>exact (hb h).elim
 |cons op ops=>
  cases bs with
  |nil=>exact (hb h).elim
  |cons b bs=>
   replace h:P (cond (ops.isEmpty&&bs.isEmpty) (cond (behindInMarks op b) .bad (f op b)) (twoOp (g op b) ops bs)):=h
   cases hc:(ops.isEmpty&&bs.isEmpty) with
   |true=>
    rw [hc] at h
    rw [Bool.and_eq_true,List.isEmpty_iff,List.isEmpty_iff] at hc
    obtain ⟨rfl,rfl⟩:=hc
    replace h:P (cond (behindInMarks op b) .bad (f op b)):=h
    cases hm:behindInMarks op b with
    |true=>rw [hm] at h;exact (hb h).elim
    |false=>rw [hm] at h;exact .inl ⟨op,b,rfl,rfl,hm,h⟩
   |false=>
    rw [hc] at h
    obtain ⟨o₂,c,rfl,rfl,hm,h'⟩:=two_cases hb h
    exact .inr ⟨op,o₂,b,c,rfl,rfl,hm,h'⟩
theorem cond_no {b:Bool} {y:X} {P:X→Prop} (hb: ¬P .bad) (h:P (cond b .bad y)):b=false∧P y:=by
 cases b
 ·exact ⟨rfl,h⟩
 ·exact (hb h).elim
theorem cond_yes {b:Bool} {y:X} {P:X→Prop} (hb: ¬P .bad) (h:P (cond b y .bad)):b=true∧P y:=by
 cases b
 ·exact (hb h).elim
 ·exact ⟨rfl,h⟩
noncomputable def Vw.ok (e:Expr):Vw→Prop
 | .name x p=>e= .Name x p
 | .tup es k p=>e= .Tuple es k p
 | .attr o nm p=>e= .Attribute o nm p
 | .other=>True
theorem vw_ok (e:Expr):(vw e).ok e:=by cases e<;>first|exact rfl|exact trivial
theorem vw_is {e:Expr} {v:Vw} (h:vw e=v):v.ok e:=h▸vw_ok e
theorem nm_is {e:Expr} {r:Str×Pos} (h:nm? e=some r):e= .Name r.1 r.2:=by
 unfold nm? at h
 cases hv:vw e with
 |name x p=>rw [hv] at h;cases h;exact vw_is hv
 |_=>rw [hv] at h;cases h
theorem tup_is {e:Expr} {r:List Expr×Nat×Pos} (h:tup? e=some r):e= .Tuple r.1 r.2.1 r.2.2:=by
 unfold tup? at h
 cases hv:vw e with
 |tup es k p=>rw [hv] at h;cases h;exact vw_is hv
 |_=>rw [hv] at h;cases h
inductive CallF (f:Expr) (g:Expr→Str→Pos→X) (y:X) (P:X→Prop):Prop
 |attr (o:Expr) (nm:Str) (p:Pos) (e:f= .Attribute o nm p) (h:P (g o nm p))
 |name (x:Str) (p:Pos) (e:f= .Name x p) (h:P y)
theorem call_cases {f:Expr} {g:Expr→Str→Pos→X} {y:X} {P:X→Prop} (hb: ¬P .bad) (h:P (callOr f g y)):CallF f g y P:=by
 unfold callOr at h
 cases hv:vw f with
 |attr o nm p=>rw [hv] at h;exact .attr o nm p (vw_is hv) h
 |name x p=>rw [hv] at h;exact .name x p (vw_is hv) h
 |_=>rw [hv] at h;exact (hb h).elim
theorem one_is {gens:List Comprehension} {r:Expr×Expr} (h:one? gens=some r):gens=[⟨r.1,r.2,[],0⟩]:=by
 cases gens with
 |nil=>cases h
 |cons g gs=>
  cases gs with
  |cons=>cases h
  |nil=>
   obtain ⟨t,i,f,a⟩:=g
   replace h:cond (f.isEmpty&&decide (a=0)) (some (t,i)) none=some r:=h
   cases hc:(f.isEmpty&&decide (a=0)) with
   |false=>rw [hc] at h;cases h
   |true=>
    rw [hc] at h
    rw [Bool.and_eq_true,List.isEmpty_iff,decide_eq_true_eq] at hc
    cases h
    rw [hc.1,hc.2]
theorem l4_is {l:List Expr} {r:Expr×Expr×Expr×Expr} (h:l4? l=some r):l=[r.1,r.2.1,r.2.2.1,r.2.2.2]:=by
 cases l with
 |nil=>cases h
 |cons a l=>cases l with
  |nil=>cases h
  |cons b l=>cases l with
   |nil=>cases h
   |cons c l=>cases l with
    |nil=>cases h
    |cons d l=>cases l with
     |nil=>cases h;rfl
     |cons=>cases h
theorem parse4_is {gens:List Comprehension} {c:C4} (h:parse4 gens=some c):gens=[⟨.Tuple [.Name c.x₁ c.p₁,.Name c.x₂ c.p₂,.Name c.x₃ c.p₃,.Name c.x₄ c.p₄] c.k c.p,c.iter,[],0⟩]:=by
 obtain ⟨g,h1,h⟩:=Option.bind_eq_some_iff.mp h
 obtain ⟨t,h2,h⟩:=Option.bind_eq_some_iff.mp h
 obtain ⟨l,h3,h⟩:=Option.bind_eq_some_iff.mp h
 obtain ⟨a,ha,h⟩:=Option.bind_eq_some_iff.mp h
 obtain ⟨b,hb,h⟩:=Option.bind_eq_some_iff.mp h
 obtain ⟨d,hd,h⟩:=Option.bind_eq_some_iff.mp h
 obtain ⟨e,he,h⟩:=Option.bind_eq_some_iff.mp h
 rw [←Option.some.inj h,one_is h1,tup_is h2,l4_is h3,nm_is ha,nm_is hb,nm_is hd,nm_is he]
theorem comp_cases {f:Str→Expr→Expr→X} {elt:Expr} {gens:List Comprehension} {P:X→Prop} (hb: ¬P .bad) (h:P (compOr f elt gens)):∃ x p iter,gens=[⟨.Name x p,iter,[],0⟩]∧P (f x iter elt):=by
 unfold compOr at h
 cases hc:parse1 gens with
 |none=>rw [hc] at h;exact (hb h).elim
 |some c=>
  rw [hc] at h
  obtain ⟨g,h1,h2⟩:=Option.bind_eq_some_iff.mp hc
  obtain ⟨a,h3,h4⟩:=Option.bind_eq_some_iff.mp h2
  exact ⟨c.1,c.2.1,c.2.2,by rw [←Option.some.inj h4,one_is h1,nm_is h3],h⟩
inductive IsC4 (f:Str→Str→Str→Str→Expr→X) (gens:List Comprehension) (P:X→Prop):Prop
 |mk (x₁ x₂ x₃ x₄:Str) (p₁ p₂ p₃ p₄:Pos) (tk:Nat) (tp:Pos) (iter:Expr) (e:gens=[⟨.Tuple [.Name x₁ p₁,.Name x₂ p₂,.Name x₃ p₃,.Name x₄ p₄] tk tp,iter,[],0⟩]) (h:P (f x₁ x₂ x₃ x₄ iter))
theorem comp4_cases {f:Str→Str→Str→Str→Expr→X} {y:X} {gens:List Comprehension} {P:X→Prop} (h:P (compOr4 f y gens)):IsC4 f gens P∨P y:=by
 unfold compOr4 at h
 cases hc:parse4 gens with
 |none=>rw [hc] at h;exact .inr h
 |some c=>rw [hc] at h;exact .inl ⟨c.x₁,c.x₂,c.x₃,c.x₄,c.p₁,c.p₂,c.p₃,c.p₄,c.k,c.p,c.iter,parse4_is hc,h⟩
structure BlkOK (scope:Scope) (x:Str) (iter:Expr):Prop where
 hk:scope.kind= .function
 hcell:∀ y∈scope.names,y.2≠.cell
 hloc:∀ y∈scope.names,y.2= .local→scope.names.lookup y.1=some .local
 hx:scope.names.lookup x=some .local
 hset:isSetE iter=false
theorem blk_of {scope:Scope} {x:Str} {iter:Expr} (h:blockOk scope x iter=true):BlkOK scope x iter:=by
 unfold blockOk at h
 simp only [Bool.and_eq_true,Bool.not_eq_true',decide_eq_true_eq] at h
 exact ⟨h.1.1.1.1,h.1.1.1.2,h.1.1.2,h.1.2,h.2⟩
theorem some_cases {f:List Nat→X} {o:Option (List Nat)} {P:X→Prop} (hb: ¬P .bad) (h:P (someX f o)):∃ c,o=some c∧P (f c):=by
 cases o with
 |none=>exact (hb h).elim
 |some c=>exact ⟨c,rfl,h⟩
theorem tr_lc (n:Nat) (cs:Scope) (ns cn:List Str) (elt:Expr) (gens:List Comprehension) (scope:Scope) (p:Pos):tr (n+1) cs ns cn (.ListComp elt gens scope p)=compOr4 (fun x₁ x₂ x₃ x₄ iter=>cond (blockOk scope x₁ iter&&block4Ok scope x₁ x₂ x₃ x₄) (someX (fun caps=>.comp4 (tr n scope [x₁,x₂,x₃,x₄] (freesOf scope.names []) elt) (tr n cs ns cn iter) caps) (capsOf cs ns cn (freesOf scope.names []))) .bad)
 (compOr (fun x iter elt=>cond (blockOk scope x iter) (someX (fun caps=>.comp (tr n scope [x] (freesOf scope.names []) elt) (tr n cs ns cn iter) caps) (capsOf cs ns cn (freesOf scope.names []))) .bad) elt gens) gens:=rfl
theorem tr_dc (n:Nat) (cs:Scope) (ns cn:List Str) (kx vx:Expr) (gens:List Comprehension) (scope:Scope) (p:Pos):tr (n+1) cs ns cn (.DictComp kx vx gens scope p)=compOr (fun x iter kx=>cond (blockOk scope x iter) (someX (fun caps=>.dcomp (tr n scope [x] (freesOf scope.names []) kx) (tr n scope [x] (freesOf scope.names []) vx) (tr n cs ns cn iter) caps) (capsOf cs ns cn (freesOf scope.names []))) .bad) kx gens:=rfl
inductive LcF (n:Nat) (cs:Scope) (ns cn:List Str) (elt:Expr) (gens:List Comprehension) (scope:Scope) (P:X→Prop):Prop
 |one (x:Str) (px:Pos) (iter:Expr) (caps:List Nat) (eg:gens=[⟨.Name x px,iter,[],0⟩]) (hc:capsOf cs ns cn (freesOf scope.names [])=some caps) (b:BlkOK scope x iter) (h:P (.comp (tr n scope [x] (freesOf scope.names []) elt) (tr n cs ns cn iter) caps))
 |four (x₁ x₂ x₃ x₄:Str) (p₁ p₂ p₃ p₄:Pos) (tk:Nat) (tp:Pos) (iter:Expr) (caps:List Nat) (eg:gens=[⟨.Tuple [.Name x₁ p₁,.Name x₂ p₂,.Name x₃ p₃,.Name x₄ p₄] tk tp,iter,[],0⟩]) (hc:capsOf cs ns cn (freesOf scope.names [])=some caps) (b:BlkOK scope x₁ iter)
   (b4:(((scope.names.lookup x₂=some .local)∧scope.names.lookup x₃=some .local)∧scope.names.lookup x₄=some .local)∧x₁≠x₂∧x₁≠x₃∧x₁≠x₄∧x₂≠x₃∧x₂≠x₄∧x₃≠x₄) (h:P (.comp4 (tr n scope [x₁,x₂,x₃,x₄] (freesOf scope.names []) elt) (tr n cs ns cn iter) caps))
theorem lc_cases {n:Nat} {cs:Scope} {ns cn:List Str} {elt:Expr} {gens:List Comprehension} {scope:Scope} {p:Pos} {P:X→Prop} (hb: ¬P .bad) (h:P (tr (n+1) cs ns cn (.ListComp elt gens scope p))):LcF n cs ns cn elt gens scope P:=by
 rw [tr_lc] at h
 rcases comp4_cases (P:=P) h with ⟨x₁,x₂,x₃,x₄,p₁,p₂,p₃,p₄,tk,tp,iter,eg,h⟩|h
 ·obtain ⟨hok,h⟩:=cond_yes hb h
  obtain ⟨caps,hc,h⟩:=some_cases hb h
  obtain ⟨h1,h2⟩:=(Bool.and_eq_true_iff).mp hok
  unfold block4Ok at h2
  simp only [Bool.and_eq_true,decide_eq_true_eq] at h2
  exact .four x₁ x₂ x₃ x₄ p₁ p₂ p₃ p₄ tk tp iter caps eg hc (blk_of h1) h2 h
 ·obtain ⟨x,px,iter,eg,h⟩:=comp_cases hb h
  obtain ⟨hok,h⟩:=cond_yes hb h
  obtain ⟨caps,hc,h⟩:=some_cases hb h
  exact .one x px iter caps eg hc (blk_of hok) h
inductive DcF (n:Nat) (cs:Scope) (ns cn:List Str) (kx vx:Expr) (gens:List Comprehension) (scope:Scope) (P:X→Prop):Prop
 |mk (x:Str) (px:Pos) (iter:Expr) (caps:List Nat) (eg:gens=[⟨.Name x px,iter,[],0⟩]) (hc:capsOf cs ns cn (freesOf scope.names [])=some caps) (b:BlkOK scope x iter) (h:P (.dcomp (tr n scope [x] (freesOf scope.names []) kx) (tr n scope [x] (freesOf scope.names []) vx) (tr n cs ns cn iter) caps))
theorem dc_cases {n:Nat} {cs:Scope} {ns cn:List Str} {kx vx:Expr} {gens:List Comprehension} {scope:Scope} {p:Pos} {P:X→Prop} (hb: ¬P .bad) (h:P (tr (n+1) cs ns cn (.DictComp kx vx gens scope p))):DcF n cs ns cn kx vx gens scope P:=by
 rw [tr_dc] at h
 obtain ⟨x,px,iter,eg,h⟩:=comp_cases hb h
 obtain ⟨hok,h⟩:=cond_yes hb h
 obtain ⟨caps,hc,h⟩:=some_cases hb h
 exact ⟨x,px,iter,caps,eg,hc,blk_of hok,h⟩
theorem hset_ok {iter:Expr} {env:Env} (h:isSetE iter=false):∀ x,foldedSetIterable iter env x=pure x:=by
 intro z
 cases iter
 case Set=>cases h
 all_goals rfl
theorem caps_at {cs:Scope} {ns cn:List Str}:∀ {fr:List Str} {caps:List Nat},capsOf cs ns cn fr=some caps→∀ {j:Nat} {x:Str},fr[j]? =some x→∃ q,cs.names.lookup x=some .cell∧cn.idxOf? x=some q∧caps[j]? =some (ns.length+q)
 |[],_,_,_,_,h=>by simp at h
 |y::r,caps,h,j,x,hj=>by
  unfold capsOf at h
  cases h1:cs.names.lookup y with
  |none=>rw [h1] at h;cases h
  |some k=>
   rw [h1] at h
   cases k
   case cell=>
    cases h2:cn.idxOf? y with
    |none=>rw [h2] at h;cases h
    |some q=>
     rw [h2] at h
     cases h3:capsOf cs ns cn r with
     |none=>rw [h3] at h;cases h
     |some js=>
      rw [h3] at h
      cases h
      cases j with
      |zero=>cases hj;exact ⟨q,h1,h2,rfl⟩
      |succ j=>obtain ⟨q',a,b,c⟩:=caps_at h3 (j:=j) (by simpa using hj);exact ⟨q',a,b,by simpa using c⟩
   all_goals cases h
theorem idx_get {fr:List Str} {x:Str} {j:Nat} (h:fr.idxOf? x=some j):fr[j]? =some x:=by
 induction fr generalizing j with
 |nil=>simp [List.idxOf?] at h
 |cons y r ih=>
  rw [List.idxOf?_cons] at h
  by_cases e:y=x
  ·subst e
   simp at h
   subst h
   rfl
  ·have e':(y==x)=false:=by simpa using e
   rw [e'] at h
   simp only [Bool.false_eq_true,if_false,Option.map_eq_some_iff] at h
   obtain ⟨j',hj,rfl⟩:=h
   simpa using ih hj
theorem lookup_map {f:Str→Addr} {x:Str}:∀ {fr:List Str},x∈fr→(fr.map fun n=>(n,f n)).lookup x=some (f x)
 |y::r,h=>by
  rw [List.map_cons,List.lookup_cons]
  cases e:x==y with
  |true=>rw [eq_of_beq e]
  |false=>
   rcases List.mem_cons.mp h with rfl|h
   ·simp at e
   ·exact lookup_map h
theorem RM.blockN {cs:Scope} {ns cn:List Str} {env:Env} {vs:Vs} {m:Fm} (R:RM C D cs ns cn env vs m) {xs:List Str} {scope:Scope} {caps:List Nat} (hk:scope.kind= .function) (hcell:∀ y∈scope.names,y.2≠.cell) (hc:capsOf cs ns cn (freesOf scope.names [])=some caps)
  {r:Led} {Cc:Addr} {oC:Obj} {m₂ m':Fm} {us:List Value} (hm:(Cc,oC)∈r) (ho:LCg.NsObj oC m₂) (hv:∀ (i:Nat) x,xs[i]? =some x→∃ u,us[i]? =some u∧m₂ x=some u) (hl:us.length=xs.length):
  RM (C.beside r) D scope xs (freesOf scope.names []) (compEnvC scope ((freesOf scope.names []).map fun n=>(n,cellAdr env n)) Cc env) (us.map some++capV vs caps) m':=by
 refine ⟨fun y p l K h=>?_,R.glob,R.blt,fun y j hy zq=>absurd rfl (hcell _ (mem_of_look hy))⟩
 obtain ⟨d1,d2,i,h1,h2,h3⟩|⟨d1,d2,j,h1,h2,h3⟩|⟨d1,d2,u,h1,h2,h3⟩:=name_cases (P:=fun z=>WX w D z (us.map some++capV vs caps) l K) h id
 ·obtain ⟨u,h4,h5⟩:=place_of h3
  obtain ⟨z,g1,g2⟩:=hv i y (idx_get h2)
  have hi:i<us.length:=(List.getElem?_eq_some_iff.mp g1).1
  rw [List.getElem?_append_left (by rw [List.length_map];exact hi),List.getElem?_map,g1] at h4
  cases h4
  exact EV.nameAt (List.mem_append_left _ hm) ho g2 rfl hk (relabel_at h1 (by decide)) d1 h5
 ·obtain ⟨u,h4,h5⟩:=place_of h3
  rcases h1 with h1|h1
  ·exact absurd rfl (hcell _ (mem_of_look h1))
  ·have hj:=idx_get h2
   obtain ⟨q,a1,a2,a3⟩:=caps_at hc hj
   obtain ⟨b1,a,b2,b3⟩:=R.cells y q a1 a2
   have hv2:vs[ns.length+q]? =some (some u):=by
    rw [←hl,List.getElem?_append_right (by rw [List.length_map];exact Nat.le_add_right _ _),List.length_map,Nat.add_sub_cancel_left] at h4
    unfold capV at h4
    rw [List.getElem?_map,a3] at h4
    simp only [Option.map_some,Option.some.injEq] at h4
    cases hh:vs[ns.length+q]? with
    |none=>rw [hh] at h4;cases h4
    |some z=>rw [hh] at h4;cases h4;rfl
   obtain ⟨o,b4,b5⟩:=b3 u hv2
   have hl:((freesOf scope.names []).map fun n=>(n,cellAdr env n)).lookup y=some a:=by
    rw [lookup_map (f:=cellAdr env) (List.mem_of_getElem? hj)]
    unfold cellAdr
    rw [b2]
   exact EV.nameCell (c:=a) hl (List.mem_append_right _ b4) b5 hk (relabel_free h1) d1 d2 h5
 ·exact global_ok (C:=C.beside r) (env:=compEnvC scope ((freesOf scope.names []).map fun n=>(n,cellAdr env n)) Cc env) hk R.glob R.blt (relabel_at h1 (by decide)) d1 h2 h3
theorem RM.block {cs:Scope} {ns cn:List Str} {env:Env} {vs:Vs} {m:Fm} (R:RM C D cs ns cn env vs m) {x:Str} {scope:Scope} {caps:List Nat} (hk:scope.kind= .function) (hcell:∀ y∈scope.names,y.2≠.cell) (hc:capsOf cs ns cn (freesOf scope.names [])=some caps)
  {r:Led} {Cc:Addr} {oC:Obj} {m₂ m':Fm} {v:Value} (hm:(Cc,oC)∈r) (ho:LCg.NsObj oC m₂) (hv:m₂ x=some v):
  RM (C.beside r) D scope [x] (freesOf scope.names []) (compEnvC scope ((freesOf scope.names []).map fun n=>(n,cellAdr env n)) Cc env) (some v::capV vs caps) m':=
 R.blockN (xs:=[x]) (us:=[v]) hk hcell hc hm ho (fun i y h=>by
  cases i with
  |zero=>cases h;exact ⟨v,rfl,hv⟩
  |succ i=>cases h) rfl
theorem RM.closes {cs:Scope} {ns cn:List Str} {env:Env} {vs:Vs} {m:Fm} (R:RM C D cs ns cn env vs m) {fr:List Str} {caps:List Nat} (hc:capsOf cs ns cn fr=some caps):∀ n∈fr,∃ a,env.cells.lookup n=some a:=fun n hn=>by
 obtain ⟨j,hj⟩:=List.getElem?_of_mem hn
 obtain ⟨q,a1,a2,_⟩:=caps_at hc hj
 obtain ⟨_,a,b2,_⟩:=R.cells n q a1 a2
 exact ⟨a,b2⟩
noncomputable def special:X→Bool
 | .un _ _=>true
 | .bool _ _=>true
 | .cmp _ _ _=>true
 | .cmp2 _ _ _ _ _=>true
 |_=>false
theorem wt_wx {y:X} {vs:Vs} {l:Led} {K:KB} (hy:special y=false) (h:WT w D y vs l K):WX w D y vs l (kTruth w D K):=by
 cases y with
 |call=>exact h
 |sub=>exact h
 |meth=>exact h
 |un=>cases hy
 |bool=>cases hy
 |cmp=>cases hy
 |cmp2=>cases hy
 |v i=>
  have h:(match vs[i]? with|some (some v)=>OP w D (truthy v) l K|_=>False):=h
  exact h
 |_=>exact False.elim h
theorem special_name {cs:Scope} {ns cn:List Str} {x:Str}:special (trName cs ns cn x)=false:=by
 unfold trName cellAt
 cases (x=="__debug__"||x=="__classdict__") with
 |true=>rfl
 |false=>
  show special (match cs.names.lookup x with|some .local=>_|some .cell=>_|some .free=>_|some .globalImplicit=>_|_=>_)=false
  cases cs.names.lookup x with
  |none=>rfl
  |some k=>
   cases k
   case «local»=>show special (match ns.idxOf? x with|some i=>_|none=>_)=false;cases ns.idxOf? x<;>rfl
   case cell=>show special (match cn.idxOf? x with|some i=>_|none=>_)=false;cases cn.idxOf? x<;>rfl
   case free=>show special (match cn.idxOf? x with|some i=>_|none=>_)=false;cases cn.idxOf? x<;>rfl
   case globalImplicit=>show special (match GT.lookup x with|some i=>_|none=>_)=false;cases GT.lookup x<;>rfl
   all_goals rfl
structure Snd (w:World) (n:Nat):Prop where
 x:∀ {C:Cx w} {D cs ns cn env vs m},RM C D cs ns cn env vs m→D≤C.D→∀ e l K,WX w D (tr n cs ns cn e) vs l K→EV C (eval e env) m l K
 t:∀ {C:Cx w} {D cs ns cn env vs m},RM C D cs ns cn env vs m→D≤C.D→∀ e l K,WT w D (tr n cs ns cn e) vs l K→EV C (isTrue e env (eval e env)) m l K
 xs:∀ {C:Cx w} {D cs ns cn env vs m},RM C D cs ns cn env vs m→D≤C.D→∀ es l K pos,es.any isStar=false→WXs w D (trs n cs ns cn es) vs l K→EV C (spliced (backTo pos (starEach es env))) m l K
 a:∀ {C:Cx w} {D cs ns cn env vs m},RM C D cs ns cn env vs m→D≤C.D→∀ es l K,WA w D (trs n cs ns cn es) vs l K→EV C (allTrue .And es env) m l K
 o:∀ {C:Cx w} {D cs ns cn env vs m},RM C D cs ns cn env vs m→D≤C.D→∀ es l K,WO w D (trs n cs ns cn es) vs l K→EV C (allTrue .Or es env) m l K
 av:∀ {C:Cx w} {D cs ns cn env vs m},RM C D cs ns cn env vs m→D≤C.D→∀ es pos l K,WAV w D (trs n cs ns cn es) vs l K→EV C (eval (.BoolOp .And es pos) env) m l K
 ov:∀ {C:Cx w} {D cs ns cn env vs m},RM C D cs ns cn env vs m→D≤C.D→∀ es pos l K,WOV w D (trs n cs ns cn es) vs l K→EV C (eval (.BoolOp .Or es pos) env) m l K
inductive SlF (f:Expr→X) (o s:X) (sl:Expr) (P:X→Prop):Prop
 |slc (a b:Option Expr) (p:Pos) (e:sl= .Slice a b none p) (h:P (.slc o (optX f a) (optX f b)))
 |no (e:isSlice sl=false) (h:P s)
 |stp (e:Expr) (p:Pos) (es:sl= .Slice none none (some e) p) (h:P (.stp o (f e)))
theorem slc_cases {f:Expr→X} {o s:X} {sl:Expr} {P:X→Prop} (hb: ¬P .bad) (h:P (slcOr f o s sl)):SlF f o s sl P:=by
 cases sl with
 |Slice a b c p=>
  cases c with
  |none=>exact .slc a b p rfl h
  |some e=>
   cases a with
   |some=>exact (hb h).elim
   |none=>
    cases b with
    |some=>exact (hb h).elim
    |none=>exact .stp e p rfl h
 |_=>exact .no rfl h
theorem part_ok {env:Env} {vs:Vs} {m:Fm} {n:Nat} {cs:Scope} {ns cn:List Str} (ih:Snd w n) (R:RM C D cs ns cn env vs m) (hD:D≤C.D) {a:Option Expr} {l:Led} {K:KV} (h:WX w D (optX (tr n cs ns cn) a) vs l K):EV C (evalPart a env) m l K:=by
 cases a with
 |none=>exact fun s zq S q=>wpAny_pure (q _ l s.heap s.toks h S)
 |some a=>exact ih.x R hD a l K h
theorem call_ok {env:Env} {m:Fm} {pos:Pos} {f:Value} {first :List Value} {xs:List Expr} {l:Led} {K:KV} (hk:keepIn (hd.heap_39 w.params) f=true) (hs:xs.any isStar=false)
 (h:EV C (spliced (backTo pos (starEach xs env))) m l fun us l=>EV C (call f (first ++us)) m l K):EV C (callWith pos f first (backTo pos (starEach xs env)) []) m l K:=EV.withK (noStars hs) hk (withArgs hs h)
theorem made_end {m:Fm} {s:Shared} {Q:Value→Shared→Prop} {K:KV} {g:Heap} {ys:List Value} {l:Led} (q:∀ v l' h' tk',K v l'→St C m l' { s with heap:=h',toks:=tk' }→Q v { s with heap:=h',toks:=tk' }) (P:(l++C.hid).Pairwise fun p q=>p.1≠q.1) (k:∀ D',(∀ p∈l,p.1≠D')→K (.ref D') ((D',LCg.lst ys)::l)):LCg.FinE C.h₀ C.L m { s with heap:=g } Q ys (l++C.hid):=by
 intro D' h2 tk2 F2 N2 off
 have ne:=LG.off1 off
 exact q (.ref D') ((D',LCg.lst ys)::l) h2 tk2 (k D' fun p hp=>ne p (List.mem_append_left _ hp)) ⟨F2,N2,List.pairwise_cons.mpr ⟨fun p hp=>Ne.symm (ne p hp),P⟩⟩
theorem snd:∀ n,Snd w n
 |0=>⟨fun zq zq e l K h=>h.elim,fun zq zq e l K h=>h.elim,fun zq zq es l K pos hs h=>(match es,h with
   |[],h=>EV.splNil h
   |_::_,h=>False.elim h),fun zq zq es l K h=>(match es,h with
   |[],h=>EV.allAndNil h
   |_::_,h=>False.elim h),fun zq zq es l K h=>(match es,h with
   |[],h=>EV.allOrNil h
   |_::_,h=>False.elim h),fun zq zq es pos l K h=>(match es,h with
   |[],h=>False.elim h
   |_::_,h=>False.elim h),fun zq zq es pos l K h=>(match es,h with
   |[],h=>False.elim h
   |_::_,h=>False.elim h)⟩
 |n+1=>by
  have ih:=snd n
  have hx:∀ {C:Cx w} {D cs ns cn env vs m},RM C D cs ns cn env vs m→D≤C.D→∀ e l K,WX w D (tr (n+1) cs ns cn e) vs l K→EV C (eval e env) m l K:=?hx
  refine ⟨hx,fun {C D cs ns cn env vs m} R hD e l K h=>?_,fun {C D cs ns cn env vs m} R hD es l K pos hs h=>?_,fun {C D cs ns cn env vs m} R hD es l K h=>?_,fun {C D cs ns cn env vs m} R hD es l K h=>?_,fun {C D cs ns cn env vs m} R hD es pos l K h=>?_,fun {C D cs ns cn env vs m} R hD es pos l K h=>?_⟩
  case hx=>
   intro C D cs ns cn env vs m R hD e l K h
   cases e with
   |Constant c k p=>exact const_ok h
   |Name x p=>exact R.nok x p l K h
   |Dict ks us p=>exact RWX.go h C m env hD
   |BinOp a op b p=>exact EV.bin ((ih.x R hD a l (kBin1 w D op (WX w D (tr n cs ns cn b) vs) K) h).mono fun x l h=>(ih.x R hD b l (kBin2 w D op x K) h).mono fun y l h=>OP.go h C _ hD)
   |UnaryOp op a p=>exact EV.un ((ih.x R hD a l (kUn w D op K) h).mono fun x l h=>OP.go h C _ hD)
   |IfExp t a b p=>
    refine EV.ife ((ih.t R hD t l (kIf (WX w D (tr n cs ns cn a) vs) (WX w D (tr n cs ns cn b) vs) K) h).mono fun c l h=>?_)
    cases c
    ·exact ih.x R hD b l K h
    ·exact ih.x R hD a l K h
   |BoolOp op xs p=>
    cases op
    ·exact ih.av R hD xs p l K h
    ·exact ih.ov R hD xs p l K h
   |Compare a ops bs p=>
    obtain ⟨op,b,rfl,rfl,hm,h'⟩|⟨_,_,_,_,_,_,_,h'⟩:=one_cases (P:=fun y=>WX w D y vs l K) id h
    case inr=>exact False.elim h'
    exact EV.cmp1 hm ((ih.x R hD a l (kCmp1 w D op (WX w D (tr n cs ns cn b) vs) K) h').mono fun x l h=>(ih.x R hD b l (kCmp2 w D op x K) h).mono fun y l h=>OP.go h C _ hD)
   |Tuple xs k p=>
    obtain ⟨hs,h⟩:=cond_no (P:=fun y=>WX w D y vs l K) id h
    exact EV.tuple ((ih.xs R hD xs l (kTup K) _ hs h).mono fun us l h=>EV.newTuple h.1 h.2)
   |List xs p=>
    obtain ⟨hs,h⟩:=cond_no (P:=fun y=>WX w D y vs l K) id h
    exact EV.list ((ih.xs R hD xs l (kLst K) _ hs h).mono fun us l h=>EV.newList h.1 h.2)
   |Attribute o nm p=>
    obtain ⟨hs,h⟩:=cond_no (P:=fun y=>WX w D y vs l K) id h
    exact EV.attr ((ih.x R hD o l (kAttr w D nm K) h).mono fun o l h=>OP.go h C _ hD) (base_of hs)
   |ListComp elt gens scope p=>
    cases lc_cases (P:=fun y=>WX w D y vs l K) id h with
    |four x₁ x₂ x₃ x₄ p₁ p₂ p₃ p₄ tk tp iter caps eg hc b b4 h'=>
     clear h
     subst eg
     exact fun s Q S q=>LQ.ListComp_Q S.F (closure_of (R.closes hc)) b.hcell b.hk b.hloc b.hx b4.1.1.1 b4.1.1.2 b4.1.2 b4.2 (ih.x R hD iter l _ h' s _ S fun v l' h2 tk' cmp S'=>CMP4.go cmp C m elt x₁ x₂ x₃ x₄ scope _ env hD (fun r m' Cc oC m₂ us hm ho hv hl l K hW=>ih.x (R.blockN b.hk b.hcell hc hm ho hv hl) hD elt l K hW) _ _ S' fun g ys l'' P k=>made_end q P k) (hset_ok b.hset)
    |one x px iter caps eg hc b h'=>
     clear h
     subst eg
     exact fun s Q S q=>LG.ListComp_G S.F (closure_of (R.closes hc)) b.hcell b.hk b.hloc b.hx (ih.x R hD iter l _ h' s _ S fun v l' h2 tk' cmp S'=>CMP.go cmp C m elt x scope _ env hD (fun r m' Cc oC m₂ v hm ho hv l K hW=>ih.x (R.block b.hk b.hcell hc hm ho hv) hD elt l K hW) _ _ S' fun g ys l'' P k=>made_end q P k) (hset_ok b.hset)
   |DictComp kx vx gens scope p=>
    cases dc_cases (P:=fun y=>WX w D y vs l K) id h with
    |mk x px iter caps eg hc b h'=>
     clear h
     subst eg
     refine fun s Q S q=>LD.DictComp_D S.F C.T.nolimit (closure_of (R.closes hc)) b.hcell b.hk b.hloc b.hx (ih.x R hD iter l _ h' s _ S fun v l' h2 tk' cmp S'=>DCMP.go cmp C m kx vx x scope _ env hD (fun r m' Cc oC m₂ v hm ho hv l K hW=>ih.x (R.block b.hk b.hcell hc hm ho hv) hD kx l K hW) (fun r m' Cc oC m₂ v hm ho hv l K hW=>ih.x (R.block b.hk b.hcell hc hm ho hv) hD vx l K hW) _ _ S' fun g kvs l'' P k=>?_) (hset_ok b.hset)
     intro D' oD h2 tk2 hd F2 N2 ne lo
     exact q (.ref D') ((D',oD)::l'') h2 tk2 (k D' oD hd lo fun p hp=>ne p (List.mem_append_left _ hp)) ⟨F2,N2,List.pairwise_cons.mpr ⟨fun p hp=>Ne.symm (ne p hp),P⟩⟩
   |Subscript v sl p=>
    rcases slc_cases (P:=fun y=>WX w D y vs l K) id h with ⟨a,b,p2,rfl,h⟩|⟨hs,h⟩|⟨e,p2,rfl,h⟩
    ·exact EV.slc ((ih.x R hD v l (kSlc1 w D (WX w D (optX (tr n cs ns cn) a) vs) (WX w D (optX (tr n cs ns cn) b) vs) K) h).mono fun o l h=>
      (part_ok ih R hD (K:=kSlc2 w D o (WX w D (optX (tr n cs ns cn) b) vs) K) h).mono fun x l h=>(part_ok ih R hD (K:=kSlc3 w D o x K) h).mono fun y l h=>SLO.go h C _ hD)
    ·exact ev_sub hs ((ih.x R hD v l (kSub1 w D (WX w D (tr n cs ns cn sl) vs) K) h).mono fun o l h=>(ih.x R hD sl l (kSub2 w D o K) h).mono fun i l h=>OP.go h C _ hD)
    ·exact EV.stp ((ih.x R hD v l (kStp1 w D (WX w D (tr n cs ns cn e) vs) K) h).mono fun o l h=>(ih.x R hD e l (kStp2 w D o K) h).mono fun z l h=>STP.go h C _ hD)
   |Call f xs ks p=>
    cases call_cases (P:=fun y=>WX w D y vs l K) id h with
    |name x p' ef h'=>
     subst ef
     clear h
     obtain ⟨hs,g⟩:=cond_yes (P:=fun y=>WX w D y vs l K) id h'
     clear h'
     simp only [Bool.and_eq_true,Bool.not_eq_true',List.isEmpty_iff] at hs
     obtain ⟨rfl,hs⟩:=hs
     refine EV.callName ((ih.x R hD (.Name x p') l (kCall1 w D (WXs w D (trs n cs ns cn xs) vs) K) g).mono fun fv l h=>?_)
     cases fv with
     |ref a=>
      replace h:(match isFn a with|true=>WXs w D (trs n cs ns cn xs) vs l (kCall2 w D (.ref a) K)|false=>False):=h
      cases hf:isFn a with
      |false=>rw [hf] at h;exact h.elim
      |true=>
       rw [hf] at h
       exact call_ok (FA_ok a (List.mem_of_elem_eq_true hf)) hs ((ih.xs R hD xs l (kCall2 w D (.ref a) K) _ hs h).mono fun us l h=>OP.go h C _ hD)
     |builtin id=>exact EV.withBi (noStars hs) (withArgs hs ((ih.xs R hD xs l (kCall2 w D (.builtin id) K) _ hs h).mono fun us l h=>OP.go h C _ hD))
     |type T=>exact EV.withTy (noStars hs) (withArgs hs ((ih.xs R hD xs l (kCall2 w D (.type T) K) _ hs h).mono fun us l h=>OP.go h C _ hD))
     |_=>exact False.elim h
    |attr o nm apos ef h'=>
     subst ef
     clear h
     obtain ⟨hs,g⟩:=cond_yes (P:=fun y=>WX w D y vs l K) id h'
     clear h'
     simp only [Bool.and_eq_true,Bool.not_eq_true',List.isEmpty_iff,decide_eq_true_eq] at hs
     obtain ⟨⟨⟨⟨ho,rfl⟩,hs⟩,hl⟩,hn⟩:=hs
     refine ev_meth ho hl (form_ok hs hn) ((ih.x R hD o l (kMeth1 w D nm (WXs w D (trs n cs ns cn xs) vs) K) g).mono fun ov l h b=>(GM.go h C _ b hD).mono fun f l h=>?_)
     obtain ⟨fv,first⟩:=f
     cases fv with
     |ref a=>
      replace h:(match isFn a with|true=>WXs w D (trs n cs ns cn xs) vs l (kMeth3 w D (.ref a) first K)|false=>False):=h
      cases hf:isFn a with
      |false=>rw [hf] at h;exact h.elim
      |true=>
       rw [hf] at h
       exact call_ok (FA_ok a (List.mem_of_elem_eq_true hf)) hs ((ih.xs R hD xs l (kMeth3 w D (.ref a) first K) _ hs h).mono fun us l h=>OP.go h C _ hD)
     |builtin id=>exact EV.withBi (noStars hs) (withArgs hs ((ih.xs R hD xs l (kMeth3 w D (.builtin id) first K) _ hs h).mono fun us l h=>OP.go h C _ hD))
     |_=>exact False.elim h
   |_=>exact False.elim h
  ·cases e with
   |UnaryOp op a p=>
    cases op
    case Not=>exact EV.isTrueNot (ih.t R hD a l (kNot K) h)
    all_goals exact False.elim h
   |BoolOp op xs p=>
    cases op
    ·exact EV.isTrueBool (ih.a R hD xs l K h)
    ·exact EV.isTrueBool (ih.o R hD xs l K h)
   |Compare a ops bs p=>
    obtain ⟨op,b,rfl,rfl,hm,h'⟩|⟨op,o₂,b,c,rfl,rfl,hm,h'⟩:=one_cases (P:=fun y=>WT w D y vs l K) id h
    case inr=>
     exact EV.isTrueCmp2 hm ((ih.x R hD a l (kCh1 w D op o₂ (WX w D (tr n cs ns cn b) vs) (WX w D (tr n cs ns cn c) vs) K) h').mono fun x l h=>(ih.x R hD b l (kCh2 w D op o₂ x (WX w D (tr n cs ns cn c) vs) K) h).mono fun y l h=>(OP.go h C _ hD).mono fun z l h=>(OP.go h C _ hD).mono fun t l h=>by
      cases t
      ·exact h
      ·exact (ih.x R hD c l (kCmp2 w D o₂ y (kTruth w D K)) h).mono fun v l h=>(OP.go h C _ hD).mono fun z l h=>OP.go h C _ hD)
    exact EV.isTrueCmp hm ((ih.x R hD a l (kCmp1 w D op (WX w D (tr n cs ns cn b) vs) (kTruth w D K)) h').mono fun x l h=>(ih.x R hD b l (kCmp2 w D op x (kTruth w D K)) h).mono fun y l h=>(OP.go h C _ hD).mono fun z l h=>OP.go h C _ hD)
   |Name x p=>exact EV.isTrueV rfl ((R.nok x p l (kTruth w D K) (wt_wx special_name h)).mono fun z l h=>OP.go h C _ hD)
   |Tuple xs k p=>exact False.elim (cond_no (P:=fun y=>WT w D y vs l K) id h).2
   |List xs p=>exact False.elim (cond_no (P:=fun y=>WT w D y vs l K) id h).2
   |Attribute o nm p=>exact False.elim (cond_no (P:=fun y=>WT w D y vs l K) id h).2
   |ListComp elt gens scope p=>cases lc_cases (P:=fun y=>WT w D y vs l K) id h<;>exact False.elim ‹_›
   |DictComp kx vx gens scope p=>cases dc_cases (P:=fun y=>WT w D y vs l K) id h;exact False.elim ‹_›
   |Subscript v sl p=>
    rcases slc_cases (P:=fun y=>WT w D y vs l K) id h with ⟨a,b,p2,rfl,h⟩|⟨hs,g⟩|⟨e,p2,rfl,h⟩
    ·exact False.elim h
    ·exact EV.isTrueV rfl ((ev_sub hs ((ih.x R hD v l (kSub1 w D (WX w D (tr n cs ns cn sl) vs) (kTruth w D K)) (wt_wx rfl g)).mono fun o l h=>(ih.x R hD sl l (kSub2 w D o (kTruth w D K)) h).mono fun i l h=>OP.go h C _ hD)).mono fun z l h=>OP.go h C _ hD)
    ·exact False.elim h
   |Call f xs ks p=>
    refine EV.isTrueV rfl ((hx R hD _ l (kTruth w D K) ?_).mono fun z l h=>OP.go h C _ hD)
    cases call_cases (P:=fun y=>WT w D y vs l K) id h with
    |name x p' ef g=>
     subst ef
     obtain ⟨hs,g⟩:=cond_yes (P:=fun y=>WT w D y vs l K) id g
     show WX w D (cond _ _ _) vs l _
     rw [hs]
     exact wt_wx rfl g
    |attr o nm apos ef g=>
     subst ef
     obtain ⟨hs,g⟩:=cond_yes (P:=fun y=>WT w D y vs l K) id g
     show WX w D (cond _ _ _) vs l _
     rw [hs]
     exact wt_wx rfl g
   |_=>exact False.elim h
  ·cases es with
   |nil=>exact EV.splNil h
   |cons e r=>
    obtain ⟨he,hr⟩:=star_ok (env:=env) hs
    rw [he]
    exact EV.splCons ((ih.x R hD e l (kCons1 (WXs w D (trs n cs ns cn r) vs) K) h).mono fun u l h=>ih.xs R hD r l (kCons2 u K) pos hr h)
  ·cases es with
   |nil=>exact EV.allAndNil h
   |cons e r=>
    refine EV.allAnd ((ih.t R hD e l (kAnd (WA w D (trs n cs ns cn r) vs) K) h).mono fun c l h=>?_)
    cases c
    ·exact h
    ·exact ih.a R hD r l K h
  ·cases es with
   |nil=>exact EV.allOrNil h
   |cons e r=>
    refine EV.allOr ((ih.t R hD e l (kOr (WO w D (trs n cs ns cn r) vs) K) h).mono fun c l h=>?_)
    cases c
    ·exact ih.o R hD r l K h
    ·exact h
  ·cases es with
   |nil=>exact False.elim h
   |cons e r=>
    cases r with
    |nil=>
     cases n with
     |zero=>exact EV.boolOne (ih.x R hD e l K h)
     |succ n=>exact EV.boolOne (ih.x R hD e l K h)
    |cons b r=>
     cases n with
     |zero=>exact False.elim h
     |succ n=>
      refine EV.boolAnd ((ih.x R hD e l (kAndV w D (WAV w D (trs (n+1) cs ns cn (b::r)) vs) K) h).mono fun v l h=>(OP.go h C _ hD).mono fun c l h=>?_)
      cases c
      ·exact h
      ·exact ih.av R hD (b::r) pos l K h
  ·cases es with
   |nil=>exact False.elim h
   |cons e r=>
    cases r with
    |nil=>
     cases n with
     |zero=>exact EV.boolOne (ih.x R hD e l K h)
     |succ n=>exact EV.boolOne (ih.x R hD e l K h)
    |cons b r=>
     cases n with
     |zero=>exact False.elim h
     |succ n=>
      refine EV.boolOr ((ih.x R hD e l (kOrV w D (WOV w D (trs (n+1) cs ns cn (b::r)) vs) K) h).mono fun v l h=>(OP.go h C _ hD).mono fun c l h=>?_)
      cases c
      ·exact ih.ov R hD (b::r) pos l K h
      ·exact h
set_option tactic.hygienic true
end
end
section
set_option tactic.hygienic false
structure Fi where
 cs:Scope
 ns:List Str
 cn:List Str
 D:Nat
set_option tactic.hygienic true
section
variable {w:World}
set_option tactic.hygienic false
structure FC (C:Cx w) (I:Fi):Prop where
 cs:C.cs=I.cs
 D:I.D≤C.D
 cn:C.cl.map Prod.fst=I.cn
noncomputable def SS (C:Cx w) (I:Fi) (vs:Vs) (l:Led) (s:Shared):Prop:=∃ ps,CellsR (C.cl.map Prod.snd) (vs.drop I.ns.length) ps∧St C (mOf I.ns vs) (l++ps) s
noncomputable def EW {α:Type} (C:Cx w) (I:Fi) (t:Sem α) (vs:Vs) (l:Led) (K:α→Vs→Led→Prop):Prop:=
 ∀ s (Q:α→Shared→Prop),SS C I vs l s→(∀ v vs' l' h' tk',K v vs' l'→SS C I vs' l' { s with heap:=h',toks:=tk' }→Q v { s with heap:=h',toks:=tk' })→wpAny (model PG w) C.A t Q NoE s
noncomputable def TupL (w:World) (v:Value) (items:List Value) (l:Led):Prop:=∃ t,v= .ref t∧((∃ o n,o.cls= .type "tuple"∧o.data= .seq items.toArray n∧(t,o)∈l)∨∀ h:Heap,(hd.heap_39 w.params).In h→h.IsTuple t items.toArray)
theorem TupL.mem {w:World} {t:Addr} {items:List Value} {n:Nat} {l:Led} (h:(t,({ cls:=.type "tuple",data:=.seq items.toArray n }:Obj))∈l):TupL w (.ref t) items l:=⟨t,rfl,.inl ⟨_,n,rfl,rfl,h⟩⟩
theorem TupL.top {w:World} {t:Addr} {items:List Value} {l:Led} (h:∀ h:Heap,(hd.heap_39 w.params).In h→h.IsTuple t items.toArray):TupL w (.ref t) items l:=⟨t,rfl,.inr h⟩
inductive Tg where
 |n (i:Nat)
 |t (is:List Nat)
noncomputable def setAll:List Nat→List Value→Vs→(Vs→Prop)→Prop
 |[],[],vs,K=>K vs
 |i::is,v::r,vs,K=>match vs[i]? with
  |some _=>setAll is r (vs.set i (some v)) K
  |none=>False
 |_,_,_,_=>False
noncomputable def WTg (w:World):Tg→Value→Vs→Led→(Vs→Prop)→Prop
 | .n i,v,vs,_,K=>match vs[i]? with
   |some _=>K (vs.set i (some v))
   |none=>False
 | .t is,v,vs,l,K=>∃ items,TupL w v items l∧setAll is items vs K
noncomputable def slotOf (cs:Scope) (ns cn:List Str):Expr→Option Nat
 | .Name x _=>match cs.names.lookup x with
   |some .local=>ns.idxOf? x
   |some .cell=>(cn.idxOf? x).map (ns.length+ ·)
   |_=>none
 |_=>none
noncomputable def slotsOf (cs:Scope) (ns cn:List Str):List Expr→Option (List Nat)
 |[]=>some []
 |e::r=>match slotOf cs ns cn e with
  |some i=>match slotsOf cs ns cn r with
   |some is=>some (i::is)
   |none=>none
  |none=>none
noncomputable def trT (cs:Scope) (ns cn:List Str):Expr→Option Tg
 | .Name x p=>(slotOf cs ns cn (.Name x p)).map .n
 | .Tuple es _ _=>(slotsOf cs ns cn es).map .t
 |_=>none
set_option tactic.hygienic true
mutual
inductive S where
 |ret (x:X)
 |retN
 |asg (i:Nat) (x:X)
 |asgT (is:List Nat) (x:X)
 |asgS (is:List Nat) (x:X)
 |asgC (i:Nat) (elt src:X) (caps:List Nat)
 |asgI (o i x:X)
 |asgA (o:X) (nm:Str) (x:X)
 |ife (t:X) (a b:Ss)
 |for_ (tg:Tg) (it:X) (body:Ss)
 |whl (t:X) (body:Ss)
 |try_ (body:Ss)
 |ex (x:X)
 |bad
inductive Ss where
 |nil
 |cons (s:S) (r:Ss)
end
set_option tactic.hygienic false
noncomputable def isComp:Expr→Bool
 | .ListComp _ _ _ _=>true
 | .SetComp _ _ _ _=>true
 | .DictComp _ _ _ _ _=>true
 |_=>false
noncomputable def isForIt:Expr→Bool
 | .Tuple _ _ _=>true
 | .Name _ _=>true
 | .Call _ _ _ _=>true
 | .Attribute _ _ _=>true
 | .Subscript _ _ _=>true
 |_=>false
noncomputable def isStarred:Expr→Bool
 | .Starred _ _=>true
 |_=>false
noncomputable def swNames (cs:Scope) (line:Nat) (ts:List Expr):List Str:=ts.filterMap fun
 | .Name id pos=>if cs.names.lookup id==some .local&&pos.line==line then some id else none
 |_=>none
noncomputable def swp (cs:Scope) (ts vs:List Expr):Option (Option (List Str)):=
 cond (!(ts.length==2||ts.length==3)||vs.length != ts.length) (some none)
  (cond (vs.any isStarred) (some none)
    (cond ((swNames cs ((ts.head?.map (·.pos.line)).getD 0) ts).length != ts.length||(swNames cs ((ts.head?.map (·.pos.line)).getD 0) ts).eraseDups.length != (swNames cs ((ts.head?.map (·.pos.line)).getD 0) ts).length) (some none)
      (cond (vs.all (foldedForSure 8)) (some none) (cond (vs.all (constantsAlone 8)) none (some (some (swNames cs ((ts.head?.map (·.pos.line)).getD 0) ts)))))))
noncomputable def namesAt (cs:Scope) (ns:List Str):List Str→Option (List Nat)
 |[]=>some []
 |x::r=>match cs.names.lookup x,ns.idxOf? x,namesAt cs ns r with
  |some .local,some i,some is=>some (i::is)
  |_,_,_=>none
noncomputable def someS (f:List Nat→S):Option (List Nat)→S
 |some c=>f c
 |none=>.bad
noncomputable def asgTup (cs:Scope) (ns cn:List Str) (x:X) (es:List Expr):Expr→S
 | .Tuple vs _ _=>match swp cs es vs with
   |some (some names)=>someS (fun is=>.asgS is x) (namesAt cs ns names)
   |some none=>someS (fun is=>.asgT is x) (slotsOf cs ns cn es)
   |none=>.bad
 |_=>someS (fun is=>.asgT is x) (slotsOf cs ns cn es)
noncomputable def isCellK:Option NameKind→Bool
 |some .cell=>true
 |_=>false
noncomputable def swapsB (y:Str) (line:Nat) (scope:Scope) (py:Pos):Bool:=py.line==line&&!(scope.names.any fun (n,k)=>n==y&&(k==.local||k==.cell))
noncomputable def compAsg (i:Nat):X→S
 | .comp elt src caps=>.asgC i elt src caps
 |_=>.bad
noncomputable def asgName (cs:Scope) (y:Str) (py:Pos) (x:X) (i:Nat):Expr→S
 | .ListComp _ _ scope pos=>cond (isCellK (cs.names.lookup y)) (.asg i x) (cond (swapsB y pos.line scope py) (compAsg i x) .bad)
 | .DictComp _ _ _ _ _=>cond (isCellK (cs.names.lookup y)) (.asg i x) .bad
 |e=>cond (isComp e) .bad (.asg i x)
noncomputable def someN (f:Nat→S):Option Nat→S
 |some c=>f c
 |none=>.bad
noncomputable def asgOr (tr:Expr→X) (cs:Scope) (ns cn:List Str) (e:Expr):List Expr→S
 |[t]=>match t with
  | .Name y py=>someN (fun i=>asgName cs y py (tr e) i e) (slotOf cs ns cn (.Name y py))
  | .Tuple es _ _=>asgTup cs ns cn (tr e) es e
  | .Subscript o i _=>cond (isSlice i) .bad (.asgI (tr o) (tr i) (tr e))
  | .Attribute o nm _=>.asgA (tr o) nm (tr e)
  |_=>.bad
 |_=>.bad
noncomputable def forOr (b:Bool) (f:Tg→S) (o:Option Tg):List Stmt→S
 |[]=>cond b (match o with|some tg=>f tg|none=>.bad) .bad
 |_::_=>.bad
noncomputable def tryOr (y:S) (hs:List ExceptHandler) (orelse final:List Stmt):S:=cond (!hs.isEmpty&&(orelse.isEmpty&&final.isEmpty)) y .bad
noncomputable def whlOr (y:S):List Stmt→S
 |[]=>y
 |_::_=>.bad
set_option tactic.hygienic true
mutual
noncomputable def trS (cs:Scope) (ns cn:List Str):Nat→Stmt→S
 |0,_=>.bad
 |n+1,s=>match s with
  | .Return v _=>(match v with|some e=>.ret (tr 40 cs ns cn e)|none=>.retN)
  | .Assign ts e _=>asgOr (tr 40 cs ns cn) cs ns cn e ts
  | .If t a b _=>.ife (tr 40 cs ns cn t) (trSs cs ns cn n a) (trSs cs ns cn n b)
  | .For t it body orelse _=>forOr (isForIt it) (fun tg=>.for_ tg (tr 40 cs ns cn it) (trSs cs ns cn n body)) (trT cs ns cn t) orelse
  | .While t body orelse _=>whlOr (.whl (tr 40 cs ns cn t) (trSs cs ns cn n body)) orelse
  | .Try body hs orelse final _=>tryOr (.try_ (trSs cs ns cn n body)) hs orelse final
  | .Expr e _=>cond (isComp e) .bad (.ex (tr 40 cs ns cn e))
  |_=>.bad
noncomputable def trSs (cs:Scope) (ns cn:List Str):Nat→List Stmt→Ss
 |0,ss=>(match ss with|[]=>.nil|_::_=>.cons .bad .nil)
 |n+1,ss=>(match ss with|[]=>.nil|s::r=>.cons (trS cs ns cn n s) (trSs cs ns cn n r))
end
structure FORs (w:World) (I:Fi) (tg:Tg) (body':Ss) (v:Value) (vs:Vs) (l:Led) (K:Flow→Vs→Led→Prop):Prop where
 go:∀ C:Cx w,FC C I→∀ tgt body n,trT I.cs I.ns I.cn tgt=some tg→trSs I.cs I.ns I.cn n body=body'→∀ s (Q:Flow→Shared→Prop),SS C I vs l s→(∀ f vs' l' h' tk',K f vs' l'→SS C I vs' l' { s with heap:=h',toks:=tk' }→Q f { s with heap:=h',toks:=tk' })→
  wpAny (model PG w) C.A (pyIter v) (fun it s₂=>TurnsAt PG w C.A C.h₀ C.env tgt body Q NoE it s₂) NoE s
set_option tactic.hygienic false
structure WHLs (w:World) (I:Fi) (t:X) (body':Ss) (vs:Vs) (l:Led) (K:Flow→Vs→Led→Prop):Prop where
 go:∀ C:Cx w,FC C I→∀ test body n p,tr 40 I.cs I.ns I.cn test=t→trSs I.cs I.ns I.cn n body=body'→∀ s (Q:Flow→Shared→Prop),SS C I vs l s→(∀ f vs' l' h' tk',K f vs' l'→SS C I vs' l' { s with heap:=h',toks:=tk' }→Q f { s with heap:=h',toks:=tk' })→
  wpAny (model PG w) C.A (exec (.While test body [] p) C.env) Q NoE s
structure UNP (w:World) (D:Nat) (v:Value) (n:Nat) (l:Led) (K:List Value→Led→Prop):Prop where
 go:∀ (C:Cx w) (m:Fm),D≤C.D→∀ (elts:List Expr) (k:Nat) (pos:Pos) (env:Env) (s:Shared) (Q:Unit→Shared→Prop),St C m l s→(assignEach elts env).length=n→(assignEach elts env).findIdx? (·.1)=none→
  (∀ us l' h',K us l'→us.length=n→St C m l' { s with heap:=h' }→wpAny (model PG w) C.A (assignInOrder ((assignEach elts env).map (·.2)) us) Q NoE { s with heap:=h' })→wpAny (model PG w) C.A (assign (.Tuple elts k pos) env v) Q NoE s
noncomputable abbrev KF:=Flow→Vs→Led→Prop
noncomputable def kRet (vs:Vs) (K:KF):KV:=fun v l=>K (.ret v) vs l
noncomputable def kAsg (i:Nat) (vs:Vs) (K:KF):KV:=fun v l=>match vs[i]? with
 |some _=>K .next (vs.set i (some v)) l
 |none=>False
noncomputable def kAsgT (w:World) (D:Nat) (is:List Nat) (vs:Vs) (K:KF):KV:=fun v l=>UNP w D v is.length l fun us l=>setAll is us vs fun vs=>K .next vs l
noncomputable def kAsgS (w:World) (is:List Nat) (vs:Vs) (K:KF):KV:=fun v l=>∃ items,TupL w v items l∧items.length=is.length∧setAll is.reverse items.reverse vs fun vs=>K .next vs l
noncomputable def kFor (w:World) (I:Fi) (tg:Tg) (b:Ss) (vs:Vs) (K:KF):KV:=fun v l=>FORs w I tg b v vs l K
noncomputable def kEx (vs:Vs) (K:KF):KV:=fun zq l=>K .next vs l
noncomputable def kPut (w:World) (D:Nat) (v o:Value) (vs:Vs) (K:KF):KV:=fun i l=>OP w D (setItem o i v) l fun zq l=>K .next vs l
noncomputable def kSetA (w:World) (D:Nat) (v:Value) (nm:Str) (vs:Vs) (K:KF):KV:=fun o l=>OP w D (setAttr o nm v) l fun zq l=>K .next vs l
set_option tactic.hygienic true
noncomputable def kSeq (W:Vs→Led→KF→Prop) (K:KF):KF:=fun f vs l=>match f with
 | .next=>W vs l K
 |f=>K f vs l
mutual
noncomputable def WS (w:World) (I:Fi):S→Vs→Led→KF→Prop
 | .ret x,vs,l,K=>WX w I.D x vs l (kRet vs K)
 | .retN,vs,l,K=>K (.ret .none) vs l
 | .asg i x,vs,l,K=>WX w I.D x vs l (kAsg i vs K)
 | .asgT is x,vs,l,K=>WX w I.D x vs l (kAsgT w I.D is vs K)
 | .asgS is x,vs,l,K=>WX w I.D x vs l (kAsgS w is vs K)
 | .asgC i elt src caps,vs,l,K=>WX w I.D (.comp elt src caps) vs l (kAsg i vs K)
 | .asgI o i x,vs,l,K=>WX w I.D x vs l fun v l=>WX w I.D o vs l fun o l=>WX w I.D i vs l (kPut w I.D v o vs K)
 | .asgA o nm x,vs,l,K=>WX w I.D x vs l fun v l=>WX w I.D o vs l (kSetA w I.D v nm vs K)
 | .ife t a b,vs,l,K=>WT w I.D t vs l (kIf (WSs w I a vs) (WSs w I b vs) K)
 | .for_ tg it body,vs,l,K=>WX w I.D it vs l (kFor w I tg body vs K)
 | .whl t body,vs,l,K=>WHLs w I t body vs l K
 | .try_ body,vs,l,K=>WSs w I body vs l K
 | .ex x,vs,l,K=>WX w I.D x vs l (kEx vs K)
 | .bad,_,_,_=>False
noncomputable def WSs (w:World) (I:Fi):Ss→Vs→Led→KF→Prop
 | .nil,vs,l,K=>K .next vs l
 | .cons s r,vs,l,K=>WS w I s vs l (kSeq (WSs w I r) K)
end
end
section
variable {w:World} {C:Cx w} {I:Fi} {α β:Type}
set_option tactic.hygienic false
theorem lookup_idx {x:Str} {j:Nat}:∀ {cl:List (Str×Addr)},(cl.map Prod.fst).idxOf? x=some j→∃ a,(cl.map Prod.snd)[j]? =some a∧cl.lookup x=some a:=by
 intro cl
 induction cl generalizing j with
 |nil=>intro h;simp [List.idxOf?] at h
 |cons p r ih=>
  obtain ⟨y,a⟩:=p
  intro h
  rw [List.map_cons,List.idxOf?_cons] at h
  by_cases e:y=x
  ·subst e
   simp at h
   subst h
   exact ⟨a,rfl,by rw [List.lookup_cons];simp⟩
  ·have e':(y==x)=false:=by simpa using e
   have e2:(x==y)=false:=by simpa using fun q=>e q.symm
   rw [e'] at h
   simp only [Bool.false_eq_true,if_false,Option.map_eq_some_iff] at h
   obtain ⟨j',hj,rfl⟩:=h
   obtain ⟨a,h1,h2⟩:=ih hj
   exact ⟨a,by simpa using h1,by rw [List.lookup_cons,e2];exact h2⟩
theorem FC.beside {r:Led} (F:FC C I):FC (C.beside r) I:=⟨F.cs,F.D,F.cn⟩
theorem FC.kind (F:FC C I) (x:Str):C.env.kindOf x=I.cs.names.lookup x:=by show C.cs.names.lookup x=_;rw [F.cs]
theorem FC.room (F:FC C I) {vs:Vs} {ps:Led} (h:CellsR (C.cl.map Prod.snd) (vs.drop I.ns.length) ps):RM (C.beside ps) I.D I.cs I.ns I.cn C.env vs (mOf I.ns vs):=by
 have cell:∀ x j,I.cn.idxOf? x=some j→∃ a,C.env.cells.lookup x=some a∧∀ v,vs[I.ns.length+j]? =some (some v)→∃ o,(a,o)∈(C.beside ps).hid∧o.data= .cell (some v):=fun x j h2=>by
  rw [←F.cn] at h2
  obtain ⟨a,e1,e2⟩:=lookup_idx h2
  refine ⟨a,e2,fun v hv=>?_⟩
  obtain ⟨o,ho,hd⟩:=CellsR.mem h e1 (v:=some v) (by rw [List.getElem?_drop];exact hv)
  exact ⟨o,List.mem_append_left _ ho,hd⟩
 refine ⟨fun x p l K hW=>?_,rfl,rfl,fun x j h1 h2=>⟨by rw [F.kind];exact h1,cell x j h2⟩⟩
 obtain ⟨d1,d2,i,h1,h2,h3⟩|⟨d1,d2,j,h1,h2,h3⟩|⟨d1,d2,u,h1,h2,h3⟩:=name_cases (P:=fun z=>WX w I.D z vs l K) hW id
 ·obtain ⟨u,h4,h5⟩:=place_of h3
  exact EV.nameL (C:=C.beside ps) (mOf_at h2 h4) (by show C.env.kindOf x=_;rw [F.kind];exact h1) d1 h5
 ·obtain ⟨u,h4,h5⟩:=place_of h3
  obtain ⟨a,e1,e2⟩:=cell x j h2
  obtain ⟨o,ho,hd⟩:=e2 u h4
  exact EV.nameCell e1 ho hd C.hk (by rw [F.kind];exact h1) d1 d2 h5
 ·exact global_ok (C:=C.beside ps) (env:=C.env) C.hk rfl rfl (by rw [F.kind];exact h1) d1 h2 h3
theorem EW.mono {t:Sem α} {vs:Vs} {l:Led} {K K':α→Vs→Led→Prop} (h:EW C I t vs l K) (k:∀ v vs' l',K v vs' l'→K' v vs' l'):EW C I t vs l K':=fun s zq S q=>h s _ S fun v vs' l' h' tk' kv S'=>q v vs' l' h' tk' (k v vs' l' kv) S'
theorem EW.ev {t:Sem α} {vs:Vs} {l:Led} {K:α→Vs→Led→Prop} (h:∀ ps,CellsR (C.cl.map Prod.snd) (vs.drop I.ns.length) ps→EV (C.beside ps) t (mOf I.ns vs) l fun v l'=>K v vs l'):EW C I t vs l K:=fun s zq S q=>by
 obtain ⟨ps,hR,S⟩:=S
 exact h ps hR s _ S.beside fun v l' h' tk' kv S'=>q v vs l' h' tk' kv ⟨ps,hR,S'.back⟩
set_option tactic.hygienic true
theorem EW.nil {vs:Vs} {l:Led} {K:KF} (k:K .next vs l):EW C I (execs [] C.env) vs l K:=fun s zq S q=>wpAny_execs_nil (q _ vs l s.heap s.toks k S)
set_option tactic.hygienic false
theorem EW.cons {x:Stmt} {r:List Stmt} {vs:Vs} {l:Led} {K:KF} (h:EW C I (exec x C.env) vs l (kSeq (fun vs l K=>EW C I (execs r C.env) vs l K) K)):EW C I (execs (x::r) C.env) vs l K:=
 fun s zq S q=>wpAny_execs_cons (h s _ S fun f vs' l' h' tk' k S'=>by
  cases f
  ·exact k _ _ S' fun v m' l' h' tk' kv S'=>q v m' l' h' tk' kv S'
  all_goals exact q _ vs' l' h' tk' k S')
theorem EW.ret {e:Expr} {pos:Pos} {vs:Vs} {l:Led} {K:KF} (h:EW C I (eval e C.env) vs l fun v vs l=>K (.ret v) vs l):EW C I (exec (.Return (some e) pos) C.env) vs l K:=
 fun s zq S q=>wpAny_Return_some (h s _ S fun v vs' l' h' tk' kv S'=>q (.ret v) vs' l' h' tk' kv S')
theorem EW.ite {t:Expr} {b o:List Stmt} {pos:Pos} {vs:Vs} {l:Led} {K:KF} (h:EW C I (isTrue t C.env (eval t C.env)) vs l fun c vs l=>match c with|true=>EW C I (execs b C.env) vs l K|false=>EW C I (execs o C.env) vs l K):EW C I (exec (.If t b o pos) C.env) vs l K:=
 fun s zq S q=>wpAny_If (h s _ S fun c zq zq zq zq k S=>by
  cases c
  ·exact k _ _ S fun v m' l' h' tk' kv S'=>q v m' l' h' tk' kv S'
  ·exact k _ _ S fun v m' l' h' tk' kv S'=>q v m' l' h' tk' kv S')
theorem idx_lt {ns:List Str} {x:Str} {i:Nat} (h:ns.idxOf? x=some i):i<ns.length:=(List.getElem?_eq_some_iff.mp (idx_get h)).1
theorem mOf_out:∀ {ns:List Str} {vs:Vs} {i:Nat} {v:Option Value},ns.length≤i→mOf ns (vs.set i v)=mOf ns vs
 |[],vs,i,v,_=>by cases vs<;>rfl
 |n::ns,[],i,v,_=>rfl
 |n::ns,u::vs,0,v,h=>absurd h (Nat.not_succ_le_zero _)
 |n::ns,u::vs,i+1,v,h=>by
  have ih:=mOf_out (ns:=ns) (vs:=vs) (i:=i) (v:=v) (Nat.le_of_succ_le_succ h)
  funext y
  rw [List.set_cons_succ]
  unfold mOf
  rw [ih]
theorem mOf_app {ns:List Str} {vs us:Vs} (h:vs.length=ns.length):mOf ns (vs++us)=mOf ns vs:=by
 induction ns generalizing vs with
 |nil=>
  rw [List.length_eq_zero_iff.mp h]
  cases us<;>rfl
 |cons n ns ih=>
  cases vs with
  |nil=>cases h
  |cons v vs=>
   funext y
   show (match y==n with|true=>v|false=>mOf ns (vs++us) y)=(match y==n with|true=>v|false=>mOf ns vs y)
   rw [ih (Nat.succ.inj h)]
theorem St.split {m:Fm} {pre post:Led} {x:Addr×Obj} {s:Shared} (S:St C m (pre++x::post) s):
  News C.h₀ C.L s.heap (pre++x::(post++C.hid))∧(∀ p∈pre,p.1≠x.1)∧(∀ p∈post++C.hid,p.1≠x.1):=by
 have e:(pre++x::post)++C.hid=pre++x::(post++C.hid):=by rw [List.append_assoc,List.cons_append]
 have P:=S.D
 rw [e] at P
 have P2:=List.pairwise_append.mp P
 refine ⟨e▸S.N,fun p hp=>P2.2.2 p hp x (.head _),fun p hp=>Ne.symm ((List.pairwise_cons.mp P2.2.1).1 p hp)⟩
theorem St.put {m:Fm} {pre post:Led} {a:Addr} {o o':Obj} {s:Shared} {h':Heap} {tk:Nat} (S:St C m (pre++(a,o)::post) s) (hs:Heap.SameBut a s.heap h') (ho:h'.get? a=some o'):St C m (pre++(a,o')::post) { s with heap:=h',toks:=tk }:=by
 obtain ⟨N,h1,h2⟩:=S.split
 have z:=N (a,o) (List.mem_append_right _ (.head _))
 have e:(pre++(a,o')::post)++C.hid=pre++(a,o')::(post++C.hid):=by rw [List.append_assoc,List.cons_append]
 refine ⟨S.F.change hs z.2.1 z.2.2,?_,?_⟩
 ·rw [e];exact News.setAt N h1 h2 hs ho
 ·have P:=S.D
  have e0:(pre++(a,o)::post)++C.hid=pre++(a,o)::(post++C.hid):=by rw [List.append_assoc,List.cons_append]
  rw [e0] at P
  rw [e]
  have P2:=List.pairwise_append.mp P
  have P3:=List.pairwise_cons.mp P2.2.1
  exact List.pairwise_append.mpr ⟨P2.1,List.pairwise_cons.mpr ⟨P3.1,P3.2⟩,fun p hp q hq=>by
   rcases List.mem_cons.mp hq with rfl|hq
   ·exact h1 p hp
   ·exact P2.2.2 p hp q (.tail _ hq)⟩
theorem slot_name {cs:Scope} {ns cn:List Str} {t:Expr} {i:Nat} (h:slotOf cs ns cn t=some i):∃ x p,t= .Name x p∧((cs.names.lookup x=some .local∧ns.idxOf? x=some i)∨∃ j,cs.names.lookup x=some .cell∧cn.idxOf? x=some j∧i=ns.length+j):=by
 cases t with
 |Name x p=>
  replace h:(match cs.names.lookup x with|some .local=>ns.idxOf? x|some .cell=>(cn.idxOf? x).map (ns.length+ ·)|_=>none)=some i:=h
  refine ⟨x,p,rfl,?_⟩
  cases hl:cs.names.lookup x with
  |none=>rw [hl] at h;cases h
  |some k=>
   rw [hl] at h
   cases k
   case «local»=>exact .inl ⟨rfl,h⟩
   case cell=>
    obtain ⟨j,h1,h2⟩:=Option.map_eq_some_iff.mp h
    exact .inr ⟨j,rfl,h1,h2.symm⟩
   all_goals cases h
 |_=>cases h
theorem slot_store (F:FC C I) {x:Str} {p:Pos} {i:Nat} (h:slotOf I.cs I.ns I.cn (.Name x p)=some i) {v:Value} {vs:Vs} {u:Option Value} (hv:vs[i]? =some u) {l:Led} {K:Unit→Vs→Led→Prop} (k:K () (vs.set i (some v)) l):
  EW C I (storeName C.env x v) vs l K:=by
 obtain ⟨x',p',e,⟨h1,h2⟩|⟨j,h1,h2,rfl⟩⟩:=slot_name h
 ·cases e
  intro s Q S q
  obtain ⟨ps,hR,S⟩:=S
  refine storeX_L S.F S.N (fun h' F' N'=>q () _ l h' _ k ⟨ps,?_,?_,N',S.D⟩) C.hk (by rw [F.kind];exact h1)
  ·rw [List.drop_set_of_lt (idx_lt h2)];exact hR
  ·rw [←mOf_set (v:=v) h2 (List.getElem?_eq_some_iff.mp hv).1];exact F'
 ·cases e
  intro s Q S q
  obtain ⟨ps,hR,S⟩:=S
  have h2':=h2
  rw [←F.cn] at h2'
  obtain ⟨a,e1,e2⟩:=lookup_idx h2'
  obtain ⟨pre,o,post,rfl,hd,hk⟩:=CellsR.split hR e1 (v:=u) (by rw [List.getElem?_drop];exact hv)
  have S2:St C (mOf I.ns vs) ((l++pre)++(a,o)::post) s:=by rw [List.append_assoc];exact S
  refine wpAny_storeName_cell C.hk (by rw [F.kind];exact h1) e2 ⟨o,(S2.split.1 (a,o) (List.mem_append_right _ (.head _))).1,hd⟩ fun h' hv' hs=>?_
  obtain ⟨o',ho',hd'⟩:=hv'
  refine q () _ l h' s.toks k ⟨pre++(a,o')::post,?_,?_⟩
  ·rw [List.drop_set,if_neg (by omega),Nat.add_sub_cancel_left];exact hk _ _ hd'
  ·rw [mOf_out (Nat.le_add_right _ _),←List.append_assoc];exact S2.put hs ho'
theorem slot_ok (F:FC C I) {e:Expr} {i:Nat} (h:slotOf I.cs I.ns I.cn e=some i) {v:Value} {vs:Vs} {u:Option Value} (hv:vs[i]? =some u) {l:Led} {K:Unit→Vs→Led→Prop} (k:K () (vs.set i (some v)) l):
  EW C I (assign e C.env v) vs l K:=by
 obtain ⟨x,p,rfl,_⟩:=slot_name h
 exact fun s zq S q=>wpAny_assign_Name (slot_store F h hv k s _ S q)
theorem slots_cons {cs:Scope} {ns cn:List Str} {e:Expr} {r:List Expr} {is:List Nat} (h:slotsOf cs ns cn (e::r)=some is):∃ i js,is=i::js∧slotOf cs ns cn e=some i∧slotsOf cs ns cn r=some js:=by
 unfold slotsOf at h
 cases hi:slotOf cs ns cn e with
 |none=>rw [hi] at h;cases h
 |some i=>
  rw [hi] at h
  cases hr:slotsOf cs ns cn r with
  |none=>rw [hr] at h;cases h
  |some js=>rw [hr] at h;cases h;exact ⟨i,js,rfl,rfl,rfl⟩
theorem slots_len {cs:Scope} {ns cn:List Str} {env:Env}:∀ {es:List Expr} {is:List Nat},slotsOf cs ns cn es=some is→(assignEach es env).length=is.length∧(assignEach es env).findIdx? (·.1)=none
 |[],is,h=>by cases h;exact ⟨rfl,rfl⟩
 |e::es,is,h=>by
  obtain ⟨i,js,rfl,hi,hj⟩:=slots_cons h
  obtain ⟨r2,r3⟩:=slots_len (env:=env) hj
  obtain ⟨x,p,rfl,_⟩:=slot_name hi
  have ha:assignEach (.Name x p::es) env=(false,assign (.Name x p) env)::assignEach es env:=rfl
  rw [ha]
  exact ⟨by simp [r2],by simp [List.findIdx?_cons,r3]⟩
theorem slots_ok (F:FC C I):∀ {es:List Expr} {is:List Nat},slotsOf I.cs I.ns I.cn es=some is→∀ {vs:Vs} {us:List Value} {P:Vs→Prop} {l:Led},setAll is us vs P→
  EW C I (assignInOrder ((assignEach es C.env).map (·.2)) us) vs l (fun zq vs' l'=>l'=l∧P vs')
 |[],is,h,vs,us,P,l,hs=>by
  cases h
  cases us with
  |nil=>exact fun s zq S q=>wpAny_assignInOrder_none (q _ _ _ s.heap s.toks ⟨rfl,hs⟩ S)
  |cons=>exact hs.elim
 |e::es,is,h,vs,us,P,l,hs=>by
  obtain ⟨i,js,rfl,hi,hj⟩:=slots_cons h
  cases us with
  |nil=>exact hs.elim
  |cons u us=>
   replace hs:(match vs[i]? with|some _=>setAll js us (vs.set i (some u)) P|none=>False):=hs
   cases ho:vs[i]? with
   |none=>rw [ho] at hs;exact hs.elim
   |some o=>
    rw [ho] at hs
    obtain ⟨x,p,rfl,_⟩:=slot_name hi
    have ha:assignEach (.Name x p::es) C.env=(false,assign (.Name x p) C.env)::assignEach es C.env:=rfl
    rw [ha]
    refine fun s zq S q=>wpAny_assignInOrder_more (slot_ok F hi ho (K:=fun zq vs' l'=>l'=l∧vs'=vs.set i (some u)) ⟨rfl,rfl⟩ s _ S fun zq vs' l' h' tk' k S'=>?_)
    obtain ⟨rfl,rfl⟩:=k
    exact slots_ok F hj hs _ _ S' fun v m'' l'' h'' tk'' kv S''=>q v m'' l'' h'' tk'' kv S''
theorem setAll_len:∀ {is:List Nat} {us:List Value} {vs:Vs} {P:Vs→Prop},setAll is us vs P→us.length=is.length
 |[],[],_,_,_=>rfl
 |[],_::_,_,_,h=>h.elim
 |_::_,[],_,_,h=>h.elim
 |i::is,u::us,vs,P,h=>by
  replace h:(match vs[i]? with|some _=>setAll is us (vs.set i (some u)) P|none=>False):=h
  cases ho:vs[i]? with
  |none=>rw [ho] at h;exact h.elim
  |some o=>rw [ho] at h;simp [setAll_len h]
theorem TupL.at {v:Value} {items:List Value} {l:Led} {m:Fm} {s:Shared} (T:TupL w v items l) (S:St C m l s):∃ t,v= .ref t∧s.heap.IsTuple t items.toArray:=by
 obtain ⟨t,rfl,⟨o,n,h1,h2,h3⟩|h3⟩:=T
 ·exact ⟨t,rfl,o,S.N.get (List.mem_append_left _ h3),h1,n,h2⟩
 ·exact ⟨t,rfl,(h3 _ C.X).at fun o e=>S.F.keep _ _ e⟩
theorem tupL_app {v:Value} {items:List Value} {l ps:Led} (T:TupL w v items l):TupL w v items (l++ps):=by
 obtain ⟨t,h0,⟨o,n,h1,h2,h3⟩|h3⟩:=T
 ·exact ⟨t,h0,.inl ⟨o,n,h1,h2,List.mem_append_left _ h3⟩⟩
 ·exact ⟨t,h0,.inr h3⟩
theorem UNP.tuple {v:Value} {items:List Value} {D n:Nat} {l:Led} {K:List Value→Led→Prop} (T:TupL w v items l) (hn:items.length=n) (k:K items l):UNP w D v n l K:=⟨fun C m hD elts kk pos env s Q S h1 h2 q=>by
 obtain ⟨t,rfl,ht⟩:=T.at S
 exact unpackN_ S.F S.N ht rfl (by rw [h1,←hn];simp) h2 fun h' F' N'=>q items l h' k hn ⟨F',N',S.D⟩⟩
theorem tup_ok (F:FC C I) {es:List Expr} {kk:Nat} {p:Pos} {is:List Nat} (hi:slotsOf I.cs I.ns I.cn es=some is) {t:Addr} {items:List Value} {vs:Vs} {l:Led} {P:Vs→Prop} (hw:setAll is items vs P) {s:Shared} {Q:Unit→Shared→Prop} (S:SS C I vs l s) (ht:s.heap.IsTuple t items.toArray)
  (q:∀ v vs' l' h' tk',l'=l∧P vs'→SS C I vs' l' { s with heap:=h',toks:=tk' }→Q v { s with heap:=h',toks:=tk' }):wpAny (model PG w) C.A (assign (.Tuple es kk p) C.env (.ref t)) Q NoE s:=by
 obtain ⟨ps,hR,S⟩:=S
 obtain ⟨r2,r3⟩:=slots_len (env:=C.env) hi
 refine unpackN_ S.F S.N ht rfl (by rw [r2,←setAll_len hw];simp) r3 fun h' F' N'=>?_
 exact slots_ok F hi hw { s with heap:=h' } _ ⟨ps,hR,F',N',S.D⟩ fun v m' l' h' tk' kv S'=>q v m' l' h' tk' kv S'
theorem tgt_ok (F:FC C I) {e:Expr} {tg:Tg} (h:trT I.cs I.ns I.cn e=some tg) {v:Value} {vs:Vs} {l:Led} {P:Vs→Prop} (hw:WTg w tg v vs l P):
  EW C I (assign e C.env v) vs l fun zq vs' l'=>l'=l∧P vs':=by
 cases e with
 |Name x p=>
  obtain ⟨i,hi,rfl⟩:=Option.map_eq_some_iff.mp h
  replace hw:(match vs[i]? with|some _=>P (vs.set i (some v))|none=>False):=hw
  cases ho:vs[i]? with
  |none=>rw [ho] at hw;exact hw.elim
  |some o=>rw [ho] at hw;exact slot_ok F hi ho ⟨rfl,hw⟩
 |Tuple es k p=>
  obtain ⟨is,hi,rfl⟩:=Option.map_eq_some_iff.mp h
  obtain ⟨items,T,hw⟩:=hw
  intro s Q S q
  obtain ⟨ps,hR,S0⟩:=S
  obtain ⟨t,rfl,ht⟩:=TupL.at (tupL_app (ps:=ps) T) S0
  exact tup_ok F hi hw ⟨ps,hR,S0⟩ ht q
 |_=>cases h
set_option tactic.hygienic true
end
end
section
section
variable {w:World} {C:Cx w} {I:Fi}
set_option tactic.hygienic false
theorem swp_ok (F:FC C I) {es vs:List Expr} {k k2:Nat} {p p2:Pos} {o:Option (List Str)} (h:swp I.cs es vs=some o):swappedStores [.Tuple es k p] (.Tuple vs k2 p2) C.env=Pure.pure o:=by
 have hb:C.env.blockKind= .function:=by
  have:=C.hk
  show (if C.cs.kind.isAnnotationScope then ScopeKind.function else C.cs.kind)=_
  rw [this];rfl
 rw [←F.cs] at h
 unfold swp at h
 unfold swappedStores
 show (ite ((!(es.length==2||es.length==3)||vs.length != es.length||C.env.blockKind != .function)=true) (Pure.pure none) (ite (vs.any isStarred=true) (Pure.pure none)
  (ite (((swNames C.cs ((es.head?.map (·.pos.line)).getD 0) es).length != es.length||(swNames C.cs ((es.head?.map (·.pos.line)).getD 0) es).eraseDups.length != (swNames C.cs ((es.head?.map (·.pos.line)).getD 0) es).length)=true) (Pure.pure none)
    (ite (vs.all (foldedForSure 8)=true) (Pure.pure none) _))))=Pure.pure o
 rw [hb]
 simp only [bne_self_eq_false,Bool.or_false]
 cases h1:(!(es.length==2||es.length==3)||vs.length != es.length) with
 |true=>rw [h1] at h;cases h;rw [if_pos rfl]
 |false=>
  rw [h1] at h
  rw [if_neg (by decide)]
  cases h2:vs.any isStarred with
  |true=>rw [h2] at h;cases h;rw [if_pos rfl]
  |false=>
   rw [h2] at h
   rw [if_neg (by decide)]
   cases h3:((swNames C.cs ((es.head?.map (·.pos.line)).getD 0) es).length != es.length||(swNames C.cs ((es.head?.map (·.pos.line)).getD 0) es).eraseDups.length != (swNames C.cs ((es.head?.map (·.pos.line)).getD 0) es).length) with
   |true=>rw [h3] at h;cases h;rw [if_pos rfl]
   |false=>
    rw [h3] at h
    rw [if_neg (by decide)]
    cases h4:vs.all (foldedForSure 8) with
    |true=>rw [h4] at h;cases h;rw [if_pos rfl]
    |false=>
     rw [h4] at h
     rw [if_neg (by decide)]
     cases h5:vs.all (constantsAlone 8) with
     |true=>rw [h5] at h;cases h
     |false=>rw [h5] at h;cases h;simp only [Bool.false_eq_true,if_false];rfl
theorem swap_tup {es:List Expr} {k:Nat} {p:Pos} {e:Expr} {n:Nat} {env:Env}:swapsWithSole [.Tuple es k p] e n env=Pure.pure false:=by cases e<;>rfl
theorem swapped_no {es:List Expr} {k:Nat} {p:Pos} {e:Expr} {env:Env} (h:∀ vs k p,e≠.Tuple vs k p):swappedStores [.Tuple es k p] e env=Pure.pure none:=by
 cases e<;>first|rfl|exact absurd rfl (h _ _ _)
theorem swap_no {e:Expr} {o:Option Expr} {n:Nat} {env:Env} (h:isComp e=false):swapsWith e o n env=Pure.pure false:=by
 cases e<;>first|rfl|(cases h)
theorem swap_sub {e o i:Expr} {p:Pos} {n:Nat} {env:Env}:swapsWith e (some (.Subscript o i p)) n env=Pure.pure false:=by cases e<;>rfl
theorem swap_attr {e o:Expr} {a:Str} {p:Pos} {n:Nat} {env:Env}:swapsWith e (some (.Attribute o a p)) n env=Pure.pure false:=by cases e<;>rfl
theorem cond_noS {b:Bool} {y:S} {P:S→Prop} (hb: ¬P .bad) (h:P (cond b .bad y)):b=false∧P y:=by
 cases b
 ·exact ⟨rfl,h⟩
 ·exact (hb h).elim
theorem for_cases {b:Bool} {f:Tg→S} {o:Option Tg} {ss:List Stmt} {P:S→Prop} (hb: ¬P .bad) (h:P (forOr b f o ss)):∃ tg,ss=[]∧b=true∧o=some tg∧P (f tg):=by
 cases ss with
 |cons=>exact (hb h).elim
 |nil=>
  cases b with
  |false=>exact (hb h).elim
  |true=>
   cases o with
   |none=>exact (hb h).elim
   |some tg=>exact ⟨tg,rfl,rfl,rfl,h⟩
theorem someS_cases {f:List Nat→S} {o:Option (List Nat)} {P:S→Prop} (hb: ¬P .bad) (h:P (someS f o)):∃ is,o=some is∧P (f is):=by
 cases o with
 |none=>exact (hb h).elim
 |some is=>exact ⟨is,rfl,h⟩
theorem sx (F:FC C I) {n:Nat} {e:Expr} {vs:Vs} {l:Led} {K:KV} (h:WX w I.D (tr n I.cs I.ns I.cn e) vs l K):EW C I (eval e C.env) vs l fun v vs' l'=>vs'=vs∧K v l':=
 EW.ev fun ps hR=>((snd n).x (F.room hR) F.D e l K h).mono fun zq zq k=>⟨rfl,k⟩
theorem st_ (F:FC C I) {n:Nat} {e:Expr} {vs:Vs} {l:Led} {K:KB} (h:WT w I.D (tr n I.cs I.ns I.cn e) vs l K):EW C I (isTrue e C.env (eval e C.env)) vs l fun v vs' l'=>vs'=vs∧K v l':=
 EW.ev fun ps hR=>((snd n).t (F.room hR) F.D e l K h).mono fun zq zq k=>⟨rfl,k⟩
set_option tactic.hygienic true
theorem asg_ok (F:FC C I) {y:Str} {py pos:Pos} {e:Expr} {i n:Nat} {vs:Vs} {l:Led} {K:KF} (hi:slotOf I.cs I.ns I.cn (.Name y py)=some i) (hs:swapsWith e (some (.Name y py)) pos.line C.env=Pure.pure false) (h:WX w I.D (tr n I.cs I.ns I.cn e) vs l (kAsg i vs K)):EW C I (exec (.Assign [.Name y py] e pos) C.env) vs l K:=fun s Q S q=>
 wpAny_Assign_Name (sx F h s _ S fun v vs' l' h' tk' k S'=>by
  obtain ⟨rfl,k⟩:=k
  replace k:(match vs'[i]? with|some _=>K .next (vs'.set i (some v)) l'|none=>False):=k
  cases ho:vs'[i]? with
  |none=>rw [ho] at k;exact k.elim
  |some o=>
   rw [ho] at k
   exact slot_store F hi ho (K:=fun zq vs l=>K .next vs l) k _ _ S' fun zq vs l h tk k S=>q .next vs l h tk k S) hs
set_option tactic.hygienic false
theorem pairs_ok (F:FC C I):∀ {ps:List (Str×Nat)} {us:List Value} {vs:Vs} {P:Vs→Prop} {l:Led},(∀ p∈ps,I.cs.names.lookup p.1=some .local∧I.ns.idxOf? p.1=some p.2)→setAll (ps.map Prod.snd) us vs P→
  EW C I (assignInOrder ((ps.map Prod.fst).map fun n=>bindName C.env n) us) vs l (fun zq vs' l'=>l'=l∧P vs')
 |[],us,vs,P,l,_,hs=>by
  cases us with
  |nil=>exact fun s zq S q=>wpAny_assignInOrder_none (q _ _ _ s.heap s.toks ⟨rfl,hs⟩ S)
  |cons=>exact hs.elim
 |(x,i)::ps,us,vs,P,l,hp,hs=>by
  cases us with
  |nil=>exact hs.elim
  |cons u us=>
   replace hs:(match vs[i]? with|some _=>setAll (ps.map Prod.snd) us (vs.set i (some u)) P|none=>False):=hs
   cases ho:vs[i]? with
   |none=>rw [ho] at hs;exact hs.elim
   |some o=>
    rw [ho] at hs
    obtain ⟨h1,h2⟩:=hp _ (.head _)
    dsimp only at h1 h2
    have hi:slotOf I.cs I.ns I.cn (.Name x ⟨0,0,0,0⟩)=some i:=by
     show (match I.cs.names.lookup x with|some .local=>I.ns.idxOf? x|some .cell=>(I.cn.idxOf? x).map (I.ns.length+ ·)|_=>none)=some i
     rw [h1];exact h2
    refine fun s zq S q=>wpAny_assignInOrder_more (wpAny_bind (wpAny_holding (wpAny_point (wpAny_bind ?_))))
    refine slot_store F hi ho (K:=fun zq vs' l'=>l'=l∧vs'=vs.set i (some u)) ⟨rfl,rfl⟩ s _ S fun zq vs' l' h' tk' k S'=>wpAny_point ?_
    obtain ⟨rfl,rfl⟩:=k
    exact pairs_ok F (fun p hp'=>hp p (.tail _ hp')) hs _ _ S' fun v m'' l'' h'' tk'' kv S''=>q v m'' l'' h'' tk'' kv S''
theorem names_pairs (F:FC C I):∀ {names:List Str} {is:List Nat},namesAt I.cs I.ns names=some is→∃ ps:List (Str×Nat),ps.map Prod.fst=names∧ps.map Prod.snd=is∧∀ p∈ps,I.cs.names.lookup p.1=some .local∧I.ns.idxOf? p.1=some p.2
 |[],is,h=>by cases h;exact ⟨[],rfl,rfl,fun zq h=>nomatch h⟩
 |x::r,is,h=>by
  unfold namesAt at h
  cases h1:I.cs.names.lookup x with
  |none=>rw [h1] at h;cases h
  |some k=>
   rw [h1] at h
   cases k
   case «local»=>
    cases h2:I.ns.idxOf? x with
    |none=>rw [h2] at h;cases h
    |some q=>
     rw [h2] at h
     cases h3:namesAt I.cs I.ns r with
     |none=>rw [h3] at h;cases h
     |some js=>
      rw [h3] at h
      cases h
      obtain ⟨ps,e1,e2,e3⟩:=names_pairs F h3
      exact ⟨(x,q)::ps,by rw [List.map_cons,e1],by rw [List.map_cons,e2],fun p hp=>by
       rcases List.mem_cons.mp hp with rfl|hp
       ·exact ⟨h1,h2⟩
       ·exact e3 p hp⟩
   all_goals cases h
set_option tactic.hygienic true
theorem asgS_ok (F:FC C I) {es ts:List Expr} {k k2:Nat} {p p2 pos:Pos} {names:List Str} {is:List Nat} {n:Nat} {vs:Vs} {l:Led} {K:KF} (hw:swp I.cs es ts=some (some names)) (hn:namesAt I.cs I.ns names=some is)
  (h:WX w I.D (tr n I.cs I.ns I.cn (.Tuple ts k2 p2)) vs l (kAsgS w is vs K)):EW C I (exec (.Assign [.Tuple es k p] (.Tuple ts k2 p2) pos) C.env) vs l K:=fun s Q S q=>by
 obtain ⟨ps,e1,e2,e3⟩:=names_pairs F hn
 refine Assign_Tuple_swapped (names:=names) (sx F h s _ S fun v vs' l' h' tk' k S'=>?_) swap_tup (swp_ok F hw)
 obtain ⟨rfl,items,T,hl,hs⟩:=k
 obtain ⟨pl,hR,S'⟩:=S'
 obtain ⟨t,rfl,ht⟩:=(tupL_app (ps:=pl) T).at S'
 refine unpackItemsN_ S'.F S'.N ht rfl (by rw [←e1,List.length_map,←List.length_map (f:=Prod.snd),e2,←hl];simp) fun h'' F'' N''=>?_
 have e4:(names.reverse.map fun n=>bindName C.env n)=((ps.reverse.map Prod.fst).map fun n=>bindName C.env n):=by rw [←e1,←List.map_reverse]
 rw [e4]
 refine pairs_ok F (ps:=ps.reverse) (fun p hp=>e3 p (List.mem_reverse.mp hp)) (l:=l') (P:=fun vs=>K .next vs l') (by rw [List.map_reverse,e2];exact hs) { s with heap:=h'',toks:=tk' } _ ⟨pl,hR,F'',N'',S'.D⟩ fun zq vs l h tk k S=>?_
 obtain ⟨rfl,k⟩:=k
 exact q .next vs _ h tk k S
set_option tactic.hygienic false
theorem asgT_ok (F:FC C I) {es:List Expr} {e:Expr} {k:Nat} {p pos:Pos} {is:List Nat} {n:Nat} {vs:Vs} {l:Led} {K:KF} (hi:slotsOf I.cs I.ns I.cn es=some is) (hw:swappedStores [.Tuple es k p] e C.env=Pure.pure none)
  (h:WX w I.D (tr n I.cs I.ns I.cn e) vs l (kAsgT w I.D is vs K)):EW C I (exec (.Assign [.Tuple es k p] e pos) C.env) vs l K:=fun s Q S q=>by
 refine Assign_Tuple (sx F h s _ S fun v vs' l' h' tk' k S'=>?_) swap_tup hw
 obtain ⟨rfl,k⟩:=k
 obtain ⟨ps,hR,S'⟩:=S'
 obtain ⟨r2,r3⟩:=slots_len (env:=C.env) hi
 refine UNP.go k (C.beside ps) _ F.D es _ p C.env _ _ S'.beside r2 r3 fun us l'' h'' hs hl S''=>?_
 refine slots_ok F hi hs _ _ ⟨ps,hR,S''.back⟩ fun zq vs l h tk k S=>?_
 obtain ⟨rfl,k⟩:=k
 exact q .next vs _ h tk k S
set_option tactic.hygienic true
theorem asgC_ok (F:FC C I) {y:Str} {py pos spos:Pos} {elt:Expr} {gens:List Comprehension} {scope:Scope} {i n:Nat} {vs:Vs} {l:Led} {K:KF} (hi:slotOf I.cs I.ns I.cn (.Name y py)=some i) (hc:isCellK (I.cs.names.lookup y)=false) (hsw:swapsB y spos.line scope py=true)
  (h:WS w I (compAsg i (tr (n+1) I.cs I.ns I.cn (.ListComp elt gens scope spos))) vs l K):EW C I (exec (.Assign [.Name y py] (.ListComp elt gens scope spos) pos) C.env) vs l K:=by
 cases lc_cases (P:=fun z=>WS w I (compAsg i z) vs l K) id h with
 |four _ _ _ _ _ _ _ _ _ _ _ _ _ _ _ _ h'=>exact False.elim h'
 |one x px iter caps eg hcp b h'=>
  clear h
  subst eg
  obtain ⟨hk,hcell,hloc,hx1,hset⟩:=b
  have hy:I.cs.names.lookup y=some .local∧I.ns.idxOf? y=some i:=by
   obtain ⟨x',p',e,⟨h1,h2⟩|⟨j,h1,h2,rfl⟩⟩:=slot_name hi
   ·cases e;exact ⟨h1,h2⟩
   ·cases e;rw [h1] at hc;cases hc
  have hsw2:swapsWith (.ListComp elt [⟨.Name x px,iter,[],0⟩] scope spos) (some (.Name y py)) pos.line C.env=Pure.pure true:=by
   have hb:C.env.blockKind= .function:=by
    have:=C.hk
    show (if C.cs.kind.isAnnotationScope then ScopeKind.function else C.cs.kind)=_
    rw [this];rfl
   have hk2:C.env.kindOf y=some .local:=by rw [F.kind];exact hy.1
   unfold swapsB at hsw
   show (Pure.pure (C.env.blockKind==.function&&C.env.kindOf y==some .local&&py.line==spos.line&&!(scope.names.any fun (n,k)=>n==y&&(k==.local||k==.cell))):Sem Bool)=_
   rw [hb,hk2]
   have:(py.line==spos.line&&!(scope.names.any fun (n,k)=>n==y&&(k==.local||k==.cell)))=true:=hsw
   refine congrArg Pure.pure ?_
   simpa [Bool.and_assoc] using this
  intro s Q S q
  obtain ⟨ps,hR,S⟩:=S
  have R:=F.room hR
  refine LG.Assign_ListComp_G S.F rfl hsw2 (closure_of (R.closes hcp)) hcell hk hloc hx1 (by rw [F.kind];exact hy.1) (by show (C.cs.kind==.class||(C.cs.kind==.module&&C.L != mainGlobals))=false;rw [C.hk];rfl)
   ((snd n).x R F.D iter l _ h' s _ S.beside fun v l' h2 tk' cmp S'=>?_) ?_
  ·refine CMP.go cmp (C.beside ps) _ elt x scope _ C.env F.D (fun r m' Cc oC m₂ v hm ho hv l K hW=>(snd n).x (R.block hk hcell hcp hm ho hv) F.D elt l K hW) _ _ S' fun g ys l'' P k=>?_
   intro D' h2 tk2 F2 N2 off
   have ne:=LG.off1 off
   replace k:=k D' fun p hp=>ne p (List.mem_append_left _ hp)
   replace k:(match vs[i]? with|some _=>K .next (vs.set i (some (.ref D'))) ((D',LCg.lst ys)::l'')|none=>False):=k
   cases ho:vs[i]? with
   |none=>rw [ho] at k;exact k.elim
   |some o=>
    rw [ho] at k
    refine q .next _ _ h2 tk2 k ⟨ps,?_,?_,?_,?_⟩
    ·rw [List.drop_set_of_lt (idx_lt hy.2)];exact hR
    ·rw [←mOf_set hy.2 (List.getElem?_eq_some_iff.mp ho).1];exact F2
    ·rw [List.cons_append,List.cons_append,List.append_assoc];exact N2
    ·rw [List.cons_append,List.cons_append,List.append_assoc];exact List.pairwise_cons.mpr ⟨fun p hp=>Ne.symm (ne p hp),P⟩
  ·intro z
   cases iter
   case Set=>cases hset
   all_goals rfl
set_option tactic.hygienic false
theorem swap_cell (F:FC C I) {y:Str} {P:Prop} (hk:isCellK (I.cs.names.lookup y)=true) (k:(C.env.kindOf y==some .local)=false→P):P:=k (by
 rw [F.kind]
 cases hl:I.cs.names.lookup y with
 |none=>rfl
 |some c=>rw [hl] at hk;cases c<;>first|rfl|(cases hk))
theorem name_ok (F:FC C I) {y:Str} {py pos:Pos} {e:Expr} {i n:Nat} {vs:Vs} {l:Led} {K:KF} (hi:slotOf I.cs I.ns I.cn (.Name y py)=some i) (h:WS w I (asgName I.cs y py (tr (n+1) I.cs I.ns I.cn e) i e) vs l K):EW C I (exec (.Assign [.Name y py] e pos) C.env) vs l K:=by
 cases hc:isComp e with
 |false=>
  refine asg_ok (n:=n+1) F hi (swap_no hc) ?_
  cases e<;>first|exact h|(cases hc)
 |true=>
  cases e with
  |ListComp elt gens scope spos=>
   cases hk:isCellK (I.cs.names.lookup y) with
   |true=>
    replace h:WS w I (cond (isCellK (I.cs.names.lookup y)) (.asg i (tr (n+1) I.cs I.ns I.cn (.ListComp elt gens scope spos))) (cond (swapsB y spos.line scope py) (compAsg i (tr (n+1) I.cs I.ns I.cn (.ListComp elt gens scope spos))) .bad)) vs l K:=h
    rw [hk] at h
    exact asg_ok (n:=n+1) F hi (swap_cell F hk fun h2=>by
     show (Pure.pure (C.env.blockKind==.function&&C.env.kindOf y==some .local&&py.line==spos.line&&!(scope.names.any fun (n,k)=>n==y&&(k==.local||k==.cell))):Sem Bool)=_
     rw [h2,Bool.and_false];rfl) h
   |false=>
    replace h:WS w I (cond (isCellK (I.cs.names.lookup y)) (.asg i (tr (n+1) I.cs I.ns I.cn (.ListComp elt gens scope spos))) (cond (swapsB y spos.line scope py) (compAsg i (tr (n+1) I.cs I.ns I.cn (.ListComp elt gens scope spos))) .bad)) vs l K:=h
    rw [hk] at h
    cases hs:swapsB y spos.line scope py with
    |false=>rw [hs] at h;exact False.elim h
    |true=>rw [hs] at h;exact asgC_ok F hi hk hs h
  |SetComp=>exact False.elim h
  |DictComp kx vx gens scope spos=>
   replace h:WS w I (cond (isCellK (I.cs.names.lookup y)) (.asg i (tr (n+1) I.cs I.ns I.cn (.DictComp kx vx gens scope spos))) .bad) vs l K:=h
   cases hk:isCellK (I.cs.names.lookup y) with
   |true=>
    rw [hk] at h
    exact asg_ok (n:=n+1) F hi (swap_cell F hk fun h2=>by
     show (Pure.pure (C.env.blockKind==.function&&C.env.kindOf y==some .local&&py.line==spos.line&&!(scope.names.any fun (n,k)=>n==y&&(k==.local||k==.cell))):Sem Bool)=_
     rw [h2,Bool.and_false];rfl) h
   |false=>rw [hk] at h;exact False.elim h
  |_=>cases hc
theorem assign_ok (F:FC C I) {ts:List Expr} {e:Expr} {pos:Pos} {vs:Vs} {l:Led} {K:KF} (h:WS w I (asgOr (tr 40 I.cs I.ns I.cn) I.cs I.ns I.cn e ts) vs l K):EW C I (exec (.Assign ts e pos) C.env) vs l K:=by
 cases ts with
 |nil=>exact False.elim h
 |cons t ts=>
  cases ts with
  |cons=>exact False.elim h
  |nil=>
   cases t with
   |Name y py=>
    replace h:WS w I (someN (fun i=>asgName I.cs y py (tr 40 I.cs I.ns I.cn e) i e) (slotOf I.cs I.ns I.cn (.Name y py))) vs l K:=h
    cases hi:slotOf I.cs I.ns I.cn (.Name y py) with
    |none=>rw [hi] at h;exact False.elim h
    |some i=>rw [hi] at h;exact name_ok F hi h
   |Tuple es k p=>
    replace h:WS w I (asgTup I.cs I.ns I.cn (tr 40 I.cs I.ns I.cn e) es e) vs l K:=h
    by_cases he:∃ ts k2 p2,e= .Tuple ts k2 p2
    ·obtain ⟨ts,k2,p2,rfl⟩:=he
     replace h:WS w I (match swp I.cs es ts with
      |some (some names)=>someS (fun is=>.asgS is (tr 40 I.cs I.ns I.cn (.Tuple ts k2 p2))) (namesAt I.cs I.ns names)
      |some none=>someS (fun is=>.asgT is (tr 40 I.cs I.ns I.cn (.Tuple ts k2 p2))) (slotsOf I.cs I.ns I.cn es)
      |none=>.bad) vs l K:=h
     cases hw:swp I.cs es ts with
     |none=>rw [hw] at h;exact False.elim h
     |some o=>
      rw [hw] at h
      cases o with
      |none=>
       obtain ⟨is,hi,h⟩:=someS_cases (P:=fun z=>WS w I z vs l K) id h
       exact asgT_ok F hi (swp_ok F hw) h
      |some names=>
       obtain ⟨is,hi,h⟩:=someS_cases (P:=fun z=>WS w I z vs l K) id h
       exact asgS_ok F hw hi h
    ·have h2:WS w I (someS (fun is=>.asgT is (tr 40 I.cs I.ns I.cn e)) (slotsOf I.cs I.ns I.cn es)) vs l K:=by
      cases e<;>first|exact h|exact absurd ⟨_,_,_,rfl⟩ he
     obtain ⟨is,hi,h⟩:=someS_cases (P:=fun z=>WS w I z vs l K) id h2
     exact asgT_ok F hi (swapped_no fun vs k p e2=>he ⟨_,_,_,e2⟩) h
   |Subscript o i p=>
    obtain ⟨_,h⟩:=cond_noS (P:=fun z=>WS w I z vs l K) id h
    intro s Q S q
    refine wpAny_Assign_Subscript (sx F h s _ S fun v vs1 l' h' tk' k S1=>?_) swap_sub
    obtain ⟨e1,k⟩:=k
    rw [e1] at S1
    refine sx F k _ _ S1 fun ov vs2 l' h' tk' k S2=>?_
    obtain ⟨e2,k⟩:=k
    rw [e2] at S2
    refine sx F k _ _ S2 fun iv vs3 l' h' tk' k S3=>?_
    obtain ⟨e3,k⟩:=k
    rw [e3] at S3
    obtain ⟨ps,hR,S3⟩:=S3
    exact OP.go k (C.beside ps) _ F.D _ _ S3.beside fun zq l h tk k S=>q .next _ l h tk k ⟨ps,hR,S.back⟩
   |Attribute o nm p=>
    intro s Q S q
    refine plainObj_wpAny_Assign_Attribute (sx F h s _ S fun v vs1 l' h' tk' k S1=>?_) swap_attr
    obtain ⟨e1,k⟩:=k
    rw [e1] at S1
    refine sx F k _ _ S1 fun ov vs2 l' h' tk' k S2=>?_
    obtain ⟨e2,k⟩:=k
    rw [e2] at S2
    obtain ⟨ps,hR,S2⟩:=S2
    exact OP.go k (C.beside ps) _ F.D _ _ S2.beside fun zq l h tk k S=>q .next _ l h tk k ⟨ps,hR,S.back⟩
   |_=>exact False.elim h
set_option tactic.hygienic true
theorem ss_ok:∀ n {C:Cx w},FC C I→(∀ s vs l K,WS w I (trS I.cs I.ns I.cn n s) vs l K→EW C I (exec s C.env) vs l K)∧(∀ ss vs l K,WSs w I (trSs I.cs I.ns I.cn n ss) vs l K→EW C I (execs ss C.env) vs l K)
 |0,C,F=>⟨fun s vs l K h=>h.elim,fun ss vs l K h=>(match ss,h with
    |[],h=>EW.nil h
    |_::_,h=>False.elim h)⟩
 |n+1,C,F=>by
  have ih:=ss_ok n F
  refine ⟨fun s vs l K h=>?_,fun ss vs l K h=>?_⟩
  ·cases s with
   |Return v p=>
    cases v with
    |none=>exact fun s zq S q=>wpAny_Return_none (q _ vs l s.heap s.toks h S)
    |some e=>exact EW.ret ((sx F h).mono fun v vs' l h=>by obtain ⟨rfl,h⟩:=h;exact h)
   |If t a b p=>
    refine EW.ite ((st_ F (K:=kIf (WSs w I (trSs I.cs I.ns I.cn n a) vs) (WSs w I (trSs I.cs I.ns I.cn n b) vs) K) h).mono fun c vs' l h=>?_)
    obtain ⟨rfl,h⟩:=h
    cases c
    ·exact ih.2 b _ l K h
    ·exact ih.2 a _ l K h
   |Assign ts e p=>exact assign_ok F h
   |For t it body orelse p=>
    obtain ⟨tg,rfl,hi,htg,h⟩:=for_cases (P:=fun z=>WS w I z vs l K) id h
    intro s Q S q
    obtain ⟨ps,hR,S⟩:=S
    refine For_turns S.F ((snd 40).x (F.room hR) F.D it l (kFor w I tg (trSs I.cs I.ns I.cn n body) vs K) h _ _ S.beside fun v l' h' tk' k S'=>?_) (fun x=>by cases it<;>first|rfl|(cases hi)) (fun zq zq h=>h.elim)
    exact FORs.go k C F _ _ n htg rfl _ _ ⟨ps,hR,S'.back⟩ fun f vs' l' h' tk' kv S'=>q f vs' l' h' tk' kv S'
   |While t body orelse p=>
    cases orelse with
    |nil=>exact fun s Q S q=>WHLs.go h C F _ _ n p rfl rfl s Q S q
    |cons=>exact h.elim
   |Try body hs orelse final p=>
    cases hs with
    |nil=>exact False.elim h
    |cons h₀ hs=>
     cases orelse with
     |cons=>exact False.elim h
     |nil=>
      cases final with
      |cons=>exact False.elim h
      |nil=>
       refine fun s Q S q=>wpAny_Try_except (wpAny_mono (ih.2 body vs l K h s Q S q) (fun f s₁ hq=>?_) fun zq zq x=>x.elim)
       cases f with
       |next=>exact wpAny_execs_nil hq
       |_=>exact hq
   |Expr e p=>
    obtain ⟨hm,h⟩:=cond_noS (P:=fun z=>WS w I z vs l K) id h
    intro s Q S q
    exact wpAny_Expr_any (sx F h _ _ S fun v vs' l' h' tk' k S'=>by
     obtain ⟨rfl,k⟩:=k
     exact q .next _ l' h' tk' k S') (by show interactive (envX _ _ _ _ _ _)=false;unfold interactive;have:=C.hk;simp [envX,envOf,this]) (swap_no hm)
   |_=>exact h.elim
  ·cases ss with
   |nil=>exact EW.nil h
   |cons s r=>
    refine EW.cons ((ih.1 s vs l (kSeq (WSs w I (trSs I.cs I.ns I.cn n r)) K) h).mono fun f vs' l h=>?_)
    cases f
    ·exact ih.2 r vs' l K h
    all_goals exact h
end
end
section
section
variable {w:World}
set_option tactic.hygienic false
theorem bindL_eq {kindOf:Str→Option NameKind}:∀ (binds:List (Str×Value)) (m:Str→Option Value),bindL kindOf binds m=fun y=>match (binds.filter fun p=>decide (kindOf p.1=some .local)).reverse.lookup y with
  |some v=>some v
  |none=>m y
 |[],m=>rfl
 |(n,v)::r,m=>by
  have ih:=bindL_eq (kindOf:=kindOf) r
  unfold bindL
  rw [ih]
  funext y
  by_cases h:kindOf n=some .local
  ·rw [if_pos h,List.filter_cons_of_pos (by simpa using h),List.reverse_cons,List.lookup_append]
   cases (List.filter (fun p=>decide (kindOf p.1=some NameKind.local)) r).reverse.lookup y with
   |some u=>rfl
   |none=>
    by_cases e:y=n
    ·subst e;simp
    ·have e2:(y==n)=false:=by simpa using e
     simp [List.lookup_cons,e,e2]
  ·rw [if_neg h,List.filter_cons_of_neg (by simpa using h)]
theorem mOf_none:∀ (rest:List Str),mOf rest (rest.map fun zq=>none)=fun zq=>none
 |[]=>rfl
 |n::r=>by
  funext y
  rw [List.map_cons]
  unfold mOf
  rw [mOf_none r]
  cases y==n<;>rfl
theorem mOf_binds (rest:List Str):∀ (b:List (Str×Value)),mOf (b.map Prod.fst++rest) ((b.map fun p=>some p.2)++rest.map fun zq=>none)=fun y=>b.lookup y
 |[]=>mOf_none rest
 |(n,v)::b=>by
  funext y
  rw [List.map_cons,List.map_cons,List.cons_append,List.cons_append]
  unfold mOf
  rw [mOf_binds rest b,List.lookup_cons]
  cases y==n<;>rfl
theorem CellsR.len {as:List Addr} {vs:List (Option Value)} {ps:Led} (h:CellsR as vs ps):ps.map Prod.fst=as:=by
 induction as generalizing vs ps with
 |nil=>
  cases vs with
  |nil=>cases ps with
   |nil=>rfl
   |cons=>exact h.elim
  |cons=>exact h.elim
 |cons a as ih=>
  cases vs with
  |nil=>exact h.elim
  |cons v vs=>
   cases ps with
   |nil=>exact h.elim
   |cons p ps=>rw [List.map_cons,h.1,ih h.2.2]
theorem cells_apart:∀ (names:List (Str×NameKind)) (n:Nat) (acc:List (Str×Addr)),(∀ p∈acc,p.2<n)→(acc.map Prod.snd).Pairwise (· ≠ ·)→((cellsFrom n names acc).map Prod.snd).Pairwise (· ≠ ·)
 |[],n,acc,_,h=>h
 |(x,k)::r,n,acc,hb,h=>by
  unfold cellsFrom
  by_cases hk:(k==NameKind.cell)=true
  ·rw [if_pos hk]
   refine cells_apart r (n+1) _ (fun p hp=>?_) (List.pairwise_cons.mpr ⟨fun b hb'=>?_,h⟩)
   ·rcases List.mem_cons.mp hp with rfl|hp
    ·exact Nat.lt_succ_self _
    ·exact Nat.lt_succ_of_lt (hb p hp)
   ·obtain ⟨p,hp,rfl⟩:=List.mem_map.mp hb'
    exact Nat.ne_of_gt (hb p hp)
  ·rw [if_neg hk];exact cells_apart r n acc hb h
theorem cells_ge:∀ (names:List (Str×NameKind)) (n b:Nat) (acc:List (Str×Addr)),b≤n→(∀ p∈acc,b≤p.2)→∀ p∈cellsFrom n names acc,b≤p.2
 |[],n,b,acc,_,h=>h
 |(x,k)::r,n,b,acc,hb,h=>by
  unfold cellsFrom
  by_cases hk:(k==NameKind.cell)=true
  ·rw [if_pos hk]
   exact cells_ge r (n+1) b _ (Nat.le_succ_of_le hb) fun p hp=>by
    rcases List.mem_cons.mp hp with rfl|hp
    ·exact hb
    ·exact h p hp
  ·rw [if_neg hk];exact cells_ge r n b acc hb h
theorem look_some {x:Str}:∀ {l:List (Str×Addr)},x∈l.map Prod.fst→(l.lookup x).isSome=true
 |[],h=>by simp at h
 |(n,a)::r,h=>by
  rw [List.lookup_cons]
  cases e:x==n with
  |true=>rfl
  |false=>
   rcases List.mem_cons.mp h with h|h
   ·rw [h,beq_self_eq_true] at e;cases e
   ·exact look_some h
theorem kinds_ok {scope:Scope} {binds:List (Str×Value)} {cn:List Str} (hcn:∀ n,(cellsFrom n scope.names []).map Prod.fst=cn) (h:(binds.all fun x=>decide (scope.names.lookup x.1=some .local)||(decide (scope.names.lookup x.1=some .cell)&&cn.elem x.1))=true):
  ∀ n,∀ x∈binds,scope.names.lookup x.1=some .local∨(scope.names.lookup x.1=some .cell∧((cellsFrom n scope.names []).lookup x.1).isSome=true):=fun n x hx=>by
 have:=List.all_eq_true.mp h x hx
 rw [Bool.or_eq_true,Bool.and_eq_true,decide_eq_true_eq,decide_eq_true_eq] at this
 rcases this with h|⟨h,k⟩
 ·exact .inl h
 ·exact .inr ⟨h,look_some (by rw [hcn n];exact List.mem_of_elem_eq_true k)⟩
set_option tactic.hygienic true
theorem CNc.cells {f:Addr} {vs:List Value} {D:Nat} {l:Led} {R:Value→Led→Prop} {name qual:Str} {params:Arguments} {body:List Stmt} {scope:Scope} {dV kV doc pm cdv ct oc:Value} {an od:Option Addr} {osl:Array (Option Value)} {binds:List (Str×Value)}
  (ns cn:List Str) (c:Ss) (vs₀ cvs:Vs)
  (ho:(hd.heap_39 w.params).lookup f=some ⟨oc,od,.func (fnX name qual params body scope [] dV kV doc pm an cdv ct),osl⟩) (hcd:codeIn (hd.heap_39 w.params) cdv qual=true)
  (hbind:∀ s:Shared,(∀ b o,(hd.heap_39 w.params).lookup b=some o→s.heap.get? b=some o)→BindsTo s (fnX name qual params body scope [] dV kV doc pm an cdv ct) ⟨vs,[]⟩ binds)
  (rest:List Str) (hns:ns=(binds.filter fun p=>decide (scope.names.lookup p.1=some .local)).reverse.map Prod.fst++rest) (hv:vs₀=((binds.filter fun p=>decide (scope.names.lookup p.1=some .local)).reverse.map fun p=>some p.2)++rest.map fun zq=>none) (e:trSs scope ns cn 40 body=c)
  (hcn:∀ n,(cellsFrom n scope.names []).map Prod.fst=cn) (hcv:cn.map (bindC (fun x=>scope.names.lookup x) binds fun zq=>none)=cvs)
  (hkind:(binds.all fun x=>decide (scope.names.lookup x.1=some .local)||(decide (scope.names.lookup x.1=some .cell)&&cn.elem x.1))=true)
  (hnd:((cellsFrom 0 scope.names []).map (·.1)).Nodup)
  (hco:scope.isCoroutine=false) (hgen:scope.isGenerator=false) (hk:scope.kind= .function)
  (h:∀ (I:Fi) (K:Flow→Vs→Led→Prop),I.D=D→(∀ v vs l' l₀,SubP l₀ l'→R v l₀→K (.ret v) vs l')→(∀ vs l' l₀,SubP l₀ l'→R .none l₀→K .next vs l')→WSs w I c (vs₀++cvs) l K):CNc w f vs (D+1) l R:=fun C m hD s Q S q=>by
 refine callX_cells C.B S.F S.N C.T.nolimit rfl rfl C.hk (S.F.keep _ _ (C.X _ _ ho)) rfl (codeRec_of (C.X.keeps S.F.keep) hcd) ?_ (hbind _ fun b o e=>S.F.keep _ _ (C.X _ _ e)) (kinds_ok hcn hkind) hnd (fun g L' h₁ tk cells FG F' N' Y B' st lt=>?_) hco hgen hk
 ·have:=C.hd;show C.dp<_;omega
 ·subst e
  have hlen:vs₀.length=ns.length:=by rw [hns,hv];simp only [List.length_append,List.length_map]
  have hm:(fun y=>match (binds.filter fun p=>decide (scope.names.lookup p.1=some .local)).reverse.lookup y with|some v=>some v|none=>none)=mOf ns vs₀:=by
   rw [hns,hv,mOf_binds]
   funext y
   cases (binds.filter fun p=>decide (scope.names.lookup p.1=some .local)).reverse.lookup y<;>rfl
  have F2:Fr g L' h₁ (mOf ns vs₀):=by
   rw [←hm]
   have e1:=bindL_eq (kindOf:=(envOfC qual scope L' f cdv).kindOf) binds fun zq=>none
   rw [e1] at F'
   exact F'
  have hR:=CellsR.of Y
  have hcl:((cellsFrom (L'+1) scope.names []).map fun x=>bindC (envOfC qual scope L' f cdv).kindOf binds (fun zq=>none) x.1)=cvs:=by
   rw [←hcv,←hcn (L'+1),List.map_map];rfl
  rw [hcl] at hR
  have hps:=hR.len
  have hap:(cells.map Prod.fst).Pairwise (· ≠ ·):=by rw [hps];exact cells_apart _ _ _ (fun zq h=>absurd h List.not_mem_nil) .nil
  have hge:∀ p∈cells,L'+1≤p.1:=fun p hp=>by
   have:p.1∈cells.map Prod.fst:=List.mem_map_of_mem hp
   rw [hps] at this
   obtain ⟨q,hq,e⟩:=List.mem_map.mp this
   rw [←e]
   exact cells_ge _ _ _ _ (Nat.le_refl _) (fun zq h=>absurd h List.not_mem_nil) q hq
  have h1:=room_d (Nat.le_trans (Nat.le_add_left 1 D) hD) C.hd
  have h2:=room_u (Nat.le_trans (Nat.le_add_left 1 D) hD) C.hu
  refine wpAny_mono ((ss_ok (I:=⟨scope,ns,cn,D⟩) 40 (C:=⟨C.mean,C.mg,C.mb,C.dp+1,C.un+3,_,qual,scope,f,cdv,cellsFrom (L'+1) scope.names [],_,_,_,g,L',B',C.X.keeps st,C.T.keeps st,hk,C.D - 1,h1,h2,C.hid⟩) ⟨rfl,by show D≤C.D - 1;omega,hcn _⟩).2 _ _ _ _ (h ⟨scope,ns,cn,D⟩ (fun f zq l'=>∃ l₀,SubP l₀ l'∧R (match f with| .ret v=>v|_=>.none) l₀) rfl (fun zq zq zq l₀ h k=>⟨l₀,h,k⟩) (fun zq zq l₀ h k=>⟨l₀,h,k⟩)) _ _ ⟨cells,?_,?_,?_,?_⟩ fun fl vs' l' h' tk' r S'=>?_) (fun zq zq x=>x) (fun zq zq x=>x.elim)
  ·rw [←hlen,List.drop_left];exact hR
  ·rw [show mOf ns (vs₀++cvs)=mOf ns vs₀ from mOf_app hlen];exact F2
  ·exact fun p hp=>N' p (by
    rcases List.mem_append.mp hp with hp|hp
    ·rcases List.mem_append.mp hp with hp|hp
     ·exact List.mem_append_right _ (List.mem_append_left _ hp)
     ·exact List.mem_append_left _ hp
    ·exact List.mem_append_right _ (List.mem_append_right _ hp))
  ·show ((l++cells)++C.hid).Pairwise fun p q=>p.1≠q.1
   have pm:List.Perm ((l++cells)++C.hid) (cells++(l++C.hid)):=by
    refine (List.perm_append_comm.append_right _).trans ?_
    rw [List.append_assoc]
   refine (pm.pairwise_iff fun h=>Ne.symm h).mpr (List.pairwise_append.mpr ⟨List.pairwise_map.mp hap,S.D,fun p hp q hq=>?_⟩)
   exact Nat.ne_of_gt (Nat.lt_of_lt_of_le (lt q hq) (Nat.le_of_succ_le (hge p hp)))
  ·obtain ⟨ps,hR',S'⟩:=S'
   obtain ⟨l₀,hs,r⟩:=r
   refine leaveK_ S'.F S'.N fun Fx Nx=>q _ l₀ h' tk' r (St.subP (l:=l') ⟨Fx,fun p hp=>Nx p ?_,S'.D.sublist ?_⟩ hs)
   ·rcases List.mem_append.mp hp with hp|hp
    ·exact List.mem_append_left _ (List.mem_append_left _ hp)
    ·exact List.mem_append_right _ hp
   ·exact (List.sublist_append_left _ _).append_right _
set_option tactic.hygienic false
theorem CN.call {f:Addr} {vs:List Value} {D' D:Nat} {l:Led} {R K:Value→Led→Prop} (c:CN w f vs D' l R) (hD:D'≤D) (k:∀ v l',R v l'→K v l'):OP w D (PySem.call (.ref f) vs) l K:=⟨fun C m h=>(c C m (Nat.le_trans hD h)).mono k⟩
theorem OP.perm {α:Type} {t:Sem α} {D:Nat} {l l':Led} {K:α→Led→Prop} (p:List.Perm l l') (h:OP w D t l' K):OP w D t l K:=⟨fun C m hD=>(h.go C m hD).perm p⟩
theorem OP.beside {α:Type} {t:Sem α} {D:Nat} {l r:Led} {K:α→Led→Prop} (h:OP w D t l fun v l'=>K v (l'++r)):OP w D t (l++r) K:=⟨fun C m hD=>EV.beside (h.go (C.beside r) m hD)⟩
theorem CN.frame {f:Addr} {vs:List Value} {D' D:Nat} {l a r:Led} {R K:Value→Led→Prop} (c:CN w f vs D' a R) (hD:D'≤D) (p:List.Perm (a++r) l) (k:∀ v l',R v l'→K v (l'++r)):OP w D (PySem.call (.ref f) vs) l K:=OP.perm p.symm (OP.beside ((CN.call c hD) k))
set_option tactic.hygienic true
end
end
section
section
variable {w:World} {C:Cx w} {I:Fi}
set_option tactic.hygienic false
inductive JT (C:Cx w) (I:Fi) (J:Vs→Led→Prop) (m:Fm) (nx:Led):Prop
 |mk (vs:Vs) (l ps:Led) (em:m=mOf I.ns vs) (hR:CellsR (C.cl.map Prod.snd) (vs.drop I.ns.length) ps) (en:nx=(l++ps)++C.hid) (D:nx.Pairwise fun p q=>p.1≠q.1) (hj:J vs l)
noncomputable def kTurn (J:Vs→Led→Prop) (K:KF):KF:=fun f vs l=>match f with
 | .ret u=>K (.ret u) vs l
 | .brk=>K .next vs l
 |_=>∃ l₀,SubP l₀ l∧J vs l₀
theorem hide_perm {its a h:Led}:List.Perm (its++(a++h)) (a++(its++h)):=by
 rw [←List.append_assoc,←List.append_assoc]
 exact List.perm_append_comm.append_right _
set_option tactic.hygienic true
theorem turn_go (F:FC C I) {n:Nat} {tgt:Expr} {body:List Stmt} {its:Led} {v:Value} {vs:Vs} {l ps:Led} {s₀:Shared} {h:Heap} {tk:Nat} {J:Vs→Led→Prop} {K:KF} {Q:Flow→Shared→Prop}
  (hA:SS (C.beside its) I vs l { s₀ with heap:=h,toks:=tk }→∀ {Q:Unit→Shared→Prop},(∀ v vs' l' h' tk',l'=l∧WSs w I (trSs I.cs I.ns I.cn n body) vs' l (kTurn J K)→SS (C.beside its) I vs' l' { s₀ with heap:=h',toks:=tk' }→Q v { s₀ with heap:=h',toks:=tk' })→wpAny (model PG w) C.A (assign tgt C.env v) Q NoE { s₀ with heap:=h,toks:=tk })
  (hR:CellsR (C.cl.map Prod.snd) (vs.drop I.ns.length) ps)
  (hi:its.Pairwise fun p q=>p.1≠q.1) (off:∀ p∈(l++ps)++C.hid,∀ q∈its,p.1≠q.1) (P:((l++ps)++C.hid).Pairwise fun p q=>p.1≠q.1) (Fr':Fr C.h₀ C.L h (mOf I.ns vs)) (N:News C.h₀ C.L h (its++((l++ps)++C.hid)))
  (q:∀ f vs' l' h' tk',K f vs' l'→SS C I vs' l' { s₀ with heap:=h',toks:=tk' }→Q f { s₀ with heap:=h',toks:=tk' }):
  wpAny (model PG w) C.A (assign tgt C.env v) (fun zq s₂=>wpAny (model PG w) C.A (execs body C.env) (LpPost C.h₀ C.L its (JT C I J) { s₀ with heap:=h,toks:=tk } Q) NoE s₂) NoE { s₀ with heap:=h,toks:=tk }:=by
 have S:SS (C.beside its) I vs l { s₀ with heap:=h,toks:=tk }:=by
  refine ⟨ps,hR,Fr',fun p hp=>N p (hide_perm.mem_iff.mpr hp),?_⟩
  exact (hide_perm.pairwise_iff (fun h=>Ne.symm h)).mp (List.pairwise_append.mpr ⟨hi,P,fun p hp q hq=>Ne.symm (off q hq p hp)⟩)
 refine hA S fun zq vs' l' h' tk' k S'=>?_
 obtain ⟨rfl,k⟩:=k
 refine (ss_ok n (C:=C.beside its) F.beside).2 _ _ _ _ k _ _ S' fun f vs' l' h' tk' k S'=>?_
 obtain ⟨ps',hR',S'⟩:=S'
 have N':News C.h₀ C.L h' (its++((l'++ps')++C.hid)):=fun p hp=>S'.N p (hide_perm.mem_iff.mp hp)
 have P':=List.pairwise_append.mp ((hide_perm.pairwise_iff (fun h=>Ne.symm h)).mpr S'.D)
 have B:SS C I vs' l' { s₀ with heap:=h',toks:=tk' }:=⟨ps',hR',S'.F,fun p hp=>N' p (List.mem_append_right _ hp),P'.2.1⟩
 have fin:(∃ l₀,SubP l₀ l'∧J vs' l₀)→LpEnd C.h₀ C.L its (JT C I J) { s₀ with heap:=h,toks:=tk } { s₀ with heap:=h',toks:=tk' }:=fun ⟨l₀,hs,j⟩=>by
  have hs2:SubP ((l₀++ps')++C.hid) ((l'++ps')++C.hid):=(hs.app ps').app C.hid
  exact LpEnd.intro S'.F N' ((l₀++ps')++C.hid) (fun p hp=>List.mem_append_left _ hp) (fun p hp=>List.mem_append_right _ (hs2.mem hp)) (fun p hp q hq=>Ne.symm (P'.2.2 q hq p (hs2.mem hp))) ⟨vs',l₀,ps',rfl,hR',rfl,hs2.pw P'.2.1,j⟩
 cases f with
 |ret u=>exact q _ _ _ _ _ k B
 |brk=>exact q _ _ _ _ _ k B
 |next=>exact fin k
 |cont=>exact fin k
set_option tactic.hygienic false
theorem turn_ok (F:FC C I) {n:Nat} {tgt:Expr} {body:List Stmt} {tg:Tg} (ht:trT I.cs I.ns I.cn tgt=some tg) {its:Led} {v:Value} {vs:Vs} {l ps:Led} {s₀:Shared} {h:Heap} {tk:Nat} {J:Vs→Led→Prop} {K:KF} {Q:Flow→Shared→Prop}
  (hJ:WTg w tg v vs l fun vs=>WSs w I (trSs I.cs I.ns I.cn n body) vs l (kTurn J K)) (hR:CellsR (C.cl.map Prod.snd) (vs.drop I.ns.length) ps)
  (hi:its.Pairwise fun p q=>p.1≠q.1) (off:∀ p∈(l++ps)++C.hid,∀ q∈its,p.1≠q.1) (P:((l++ps)++C.hid).Pairwise fun p q=>p.1≠q.1) (Fr':Fr C.h₀ C.L h (mOf I.ns vs)) (N:News C.h₀ C.L h (its++((l++ps)++C.hid)))
  (q:∀ f vs' l' h' tk',K f vs' l'→SS C I vs' l' { s₀ with heap:=h',toks:=tk' }→Q f { s₀ with heap:=h',toks:=tk' }):
  wpAny (model PG w) C.A (assign tgt C.env v) (fun zq s₂=>wpAny (model PG w) C.A (execs body C.env) (LpPost C.h₀ C.L its (JT C I J) { s₀ with heap:=h,toks:=tk } Q) NoE s₂) NoE { s₀ with heap:=h,toks:=tk }:=
 turn_go F (fun S zq q=>tgt_ok (C:=C.beside its) F.beside ht hJ _ _ S q) hR hi off P Fr' N q
noncomputable abbrev TURN (w:World) (I:Fi) (tg:Tg) (b:Ss) (J:Vs→Led→Prop) (K:KF) (v:Value) (vs:Vs) (l:Led):Prop:=WTg w tg v vs l fun vs=>WSs w I b vs l (kTurn J K)
set_option tactic.hygienic true
noncomputable def kTurnW (J:Vs→Led→Prop):KF:=fun f vs l=>match f with
 | .next=>∃ l₀,SubP l₀ l∧J vs l₀
 |_=>False
set_option tactic.hygienic false
noncomputable def kWhl (W E:Led→Prop):KB:=fun c l=>match c with
 |true=>W l
 |false=>E l
set_option tactic.hygienic true
theorem WHLs.inv {t:X} {b:Ss} {vs:Vs} {l:Led} {K:KF} (J:Nat→Vs→Led→Prop) (h0:∃ n l₀,SubP l₀ l∧J n vs l₀)
  (turn:∀ n vs l,J n vs l→WT w I.D t vs l (kWhl (fun l=>WSs w I b vs l (kTurnW fun vs l=>∃ m,m<n∧J m vs l)) fun l=>K .next vs l)):WHLs w I t b vs l K:=⟨fun C F test body n p ht hb s Q S q=>by
 subst ht
 subst hb
 obtain ⟨ps,hR,S⟩:=S
 obtain ⟨n₀,l₀,hs,h0⟩:=h0
 replace S:=S.subP (hs.app ps)
 refine While_inv (fun k=>JT C I (J k)) (n₀:=n₀) S.F S.N ⟨_,_,_,rfl,hR,rfl,S.D,h0⟩ ?_
 rintro k m₁ nx h tk F' N ⟨vs,l,ps,rfl,hR,rfl,P,j⟩
 have S1:SS C I vs l { s with heap:=h,toks:=tk }:=⟨ps,hR,F',N,P⟩
 refine st_ F (turn k vs l j) _ _ S1 fun c vs' l' h' tk' kk S2=>?_
 obtain ⟨rfl,kk⟩:=kk
 cases c with
 |false=>exact q .next _ l' h' tk' kk S2
 |true=>
  refine (ss_ok n F).2 _ _ _ _ kk _ _ S2 fun f vs3 l3 h3 tk3 k3 S3=>?_
  cases f with
  |next=>
   obtain ⟨l4,hs4,m,hm,j4⟩:=k3
   obtain ⟨ps',hR',S'⟩:=S3
   have S5:=S'.subP (hs4.app ps')
   exact WhileStep.intro S5.F S5.N hm ⟨vs3,l4,ps',rfl,hR',rfl,S5.D,j4⟩
  |_=>exact k3.elim⟩
set_option tactic.hygienic false
theorem one_off {It:Addr} {oI:Obj} {nx:Led} (off:∀ p∈nx,@Ne Nat p.1 It):∀ p∈nx,∀ q∈[(It,oI)],p.1≠q.1:=fun p hp q hq=>by rw [List.mem_singleton.mp hq];exact off p hp
set_option tactic.hygienic true
theorem FORs.list {tg:Tg} {b:Ss} {ax:Addr} {xs:List Value} {k:Nat} {vs:Vs} {l:Led} {K:KF} (J:Nat→Vs→Led→Prop) (h0:∃ l₀,SubP l₀ l∧J 0 vs l₀) (hk:∀ i vs l,J i vs l→(ax,listOf xs.toArray k)∈l)
  (turn:∀ i v vs l,xs[i]? =some v→J i vs l→TURN w I tg b (J (i+1)) K v vs l) (done:∀ vs l,J xs.length vs l→K .next vs l):FORs w I tg b (.ref ax) vs l K:=⟨fun C F tgt body n ht hb s Q S q=>by
 subst hb
 obtain ⟨ps,hR,S⟩:=S
 obtain ⟨l₀,hs,h0⟩:=h0
 replace S:=S.subP (hs.app ps)
 refine lp_list (vs:=xs) (k:=k) (fun i=>JT C I (J i)) rfl S.F S.N ⟨_,_,_,rfl,hR,rfl,S.D,h0⟩ ?_ ?_ ?_
 ·rintro i m nx ⟨vs,l,ps,rfl,_,rfl,_,j⟩
  exact List.mem_append_left _ (List.mem_append_left _ (hk _ _ _ j))
 ·rintro i v m₁ nx h tk It oI hv ⟨vs,l,ps,rfl,hR,rfl,P,j⟩ off F' N
  exact turn_ok F ht (turn i v vs l hv j) hR (List.pairwise_singleton _ _) (one_off off) P F' N q
 ·rintro m₁ nx h tk ⟨vs,l,ps,rfl,hR,rfl,P,j⟩ F' N
  exact q .next vs l h tk (done vs l j) ⟨ps,hR,F',N,P⟩⟩
theorem FORs.tuple {tg:Tg} {b:Ss} {ax:Addr} {xs:List Value} {vs:Vs} {l:Led} {K:KF} (J:Nat→Vs→Led→Prop) (h0:∃ l₀,SubP l₀ l∧J 0 vs l₀) (hk:(∃ k,∀ i vs l,J i vs l→(ax,({ cls:=.type "tuple",data:=.seq xs.toArray k }:Obj))∈l)∨∀ h:Heap,(hd.heap_39 w.params).In h→h.IsTuple ax xs.toArray)
  (turn:∀ i v vs l,xs[i]? =some v→J i vs l→TURN w I tg b (J (i+1)) K v vs l) (done:∀ vs l,J xs.length vs l→K .next vs l):FORs w I tg b (.ref ax) vs l K:=⟨fun C F tgt body n ht hb s Q S q=>by
 subst hb
 obtain ⟨ps,hR,S⟩:=S
 obtain ⟨l₀,hs,h0⟩:=h0
 replace S:=S.subP (hs.app ps)
 refine lp_tuple (vs:=xs) (fun i=>JT C I (J i)) rfl S.F S.N ⟨_,_,_,rfl,hR,rfl,S.D,h0⟩ ?_ ?_ ?_
 ·rcases hk with ⟨k,hk⟩|hk
  ·refine .inl ⟨k,?_⟩
   rintro i m nx ⟨vs,l,ps,rfl,_,rfl,_,j⟩
   exact List.mem_append_left _ (List.mem_append_left _ (hk _ _ _ j))
  ·exact .inr (hk _ C.X)
 ·rintro i v m₁ nx h tk It oI hv ⟨vs,l,ps,rfl,hR,rfl,P,j⟩ off F' N
  exact turn_ok F ht (turn i v vs l hv j) hR (List.pairwise_singleton _ _) (one_off off) P F' N q
 ·rintro m₁ nx h tk ⟨vs,l,ps,rfl,hR,rfl,P,j⟩ F' N
  exact q .next vs l h tk (done vs l j) ⟨ps,hR,F',N,P⟩⟩
theorem FORs.range {j0:Nat} {b:Ss} {r:Addr} {oR:Obj} {x y:Int} {t u v:Tok} {n:Nat} {vs:Vs} {l:Led} {K:KF} (J:Nat→Vs→Led→Prop) (hm:(r,oR)∈l) (hr:oR={ cls:=.type "range",data:=.fields #[.int x t,.int y u,.int 1 v] } ) (hsm:Builtin.Range.small x y 1=true) (hn:Builtin.Range.rangeSize x y 1=((n:Nat):Int)) (h0:∃ l₀,SubP l₀ l∧J 0 vs l₀)
  (turn:∀ i ti vs l,i<n→J i vs l→TURN w I (.n j0) b (J (i+1)) K (.int (x+(i:Int)) ti) vs l) (done:∀ vs l,J n vs l→K .next vs l):FORs w I (.n j0) b (.ref r) vs l K:=⟨fun C F tgt body nn ht hb s Q S q=>by
 subst hb
 obtain ⟨ps,hR,S⟩:=S
 have hg:=S.N.get (List.mem_append_left _ (List.mem_append_left _ hm))
 obtain ⟨l₀,hs,h0⟩:=h0
 replace S:=S.subP (hs.app ps)
 refine lp_range (n:=n) (fun i=>JT C I (J i)) rfl S.F S.N (t:=t) (u:=u) (v:=v) (by rw [hr] at hg;exact hg) hsm hn ⟨_,_,_,rfl,hR,rfl,S.D,h0⟩ ?_ ?_ ?_
 ·rintro i ti m₁ nx h tk It oI hi ⟨vs,l,ps,rfl,hR,rfl,P,j⟩ off F' N
  exact turn_ok F ht (turn i ti vs l hi j) hR (List.pairwise_singleton _ _) (one_off off) P F' N q
 ·rintro m₁ nx h tk ⟨vs,l,ps,rfl,hR,rfl,P,j⟩ F' N
  exact q .next vs l h tk (done vs l j) ⟨ps,hR,F',N,P⟩
 ·intro it v
  cases tgt<;>first|rfl|(simp [trT] at ht)⟩
set_option tactic.hygienic false
noncomputable abbrev enumO (it:Addr):Obj:={ cls:=.type "enumerate",dict:=none,data:=.fields #[.none,.bool false,.ref it,rawInt 0,.none,.none],slots:=#[] }
set_option tactic.hygienic true
theorem FORs.enum {is:List Nat} {b:Ss} {ax e it:Addr} {oI:Obj} {xs:List Value} {k:Nat} {vs:Vs} {l:Led} {K:KF} (J:Nat→Vs→Led→Prop) (hI:oI.cls= .type "list_iterator"∧oI.data= .fields #[.ref ax,.int 0 0]) (h0:J 0 vs l) (hk:∀ i vs l,J i vs l→(ax,listOf xs.toArray k)∈l)
  (turn:∀ i t x vs l,xs[i]? =some x→J i vs l→setAll is [.int (i:Int) t,x] vs fun vs=>WSs w I b vs l (kTurn (J (i+1)) K)) (done:∀ vs l,J xs.length vs l→K .next vs l):FORs w I (.t is) b (.ref e) vs ((e,enumO it)::(it,oI)::l) K:=⟨fun C F tgt body n ht hb s Q S q=>by
 subst hb
 obtain ⟨ps,hR,S⟩:=S
 cases tgt with
 |Name x p=>obtain ⟨_,_,h⟩:=Option.map_eq_some_iff.mp ht;cases h
 |Tuple es kk p=>
  obtain ⟨is',hi,e'⟩:=Option.map_eq_some_iff.mp ht
  cases e'
  have P:=List.pairwise_cons.mp S.D
  have P2:=List.pairwise_cons.mp P.2
  refine lp_enum2 (vs:=xs) (k:=k) (e:=e) (it:=it) (fun i=>JT C I (J i)) rfl S.F S.N rfl hI (P.1 _ (.head _)) (fun p hp=>⟨Ne.symm (P.1 p (.tail _ hp)),Ne.symm (P2.1 p hp)⟩) ⟨_,_,_,rfl,hR,rfl,P2.2,h0⟩ ?_ ?_ ?_
  ·rintro i m nx ⟨vs,l,ps,rfl,_,rfl,_,j⟩
   exact List.mem_append_left _ (List.mem_append_left _ (hk _ _ _ j))
  ·rintro i T t x m₁ nx h tk I1 o1 I2 o2 hv ⟨vs,l,ps,rfl,hR,rfl,P,j⟩ off1 off2 ne F' N hT
   refine turn_go F (fun S zq q=>tup_ok (C:=C.beside _) F.beside hi (turn i t x vs l hv j) S hT q) hR (List.pairwise_cons.mpr ⟨fun p hp=>by rw [List.mem_singleton.mp hp];exact ne,List.pairwise_singleton _ _⟩) (fun p hp q hq=>?_) P F' N q
   rcases List.mem_cons.mp hq with rfl|hq
   ·exact off1 p hp
   ·rw [List.mem_singleton.mp hq];exact off2 p hp
  ·rintro m₁ nx h tk ⟨vs,l,ps,rfl,hR,rfl,P,j⟩ F' N
   exact q .next vs l h tk (done vs l j) ⟨ps,hR,F',N,P⟩
 |_=>cases ht⟩
inductive JC (C:Cx w) (J:List Value→Led→Prop) (ys:List Value) (nx:Led):Prop
 |mk (l:Led) (en:nx=l++C.hid) (D:nx.Pairwise fun p q=>p.1≠q.1) (hj:J ys l)
set_option tactic.hygienic false
theorem beside3 {It Cc Da:Addr} {oI oC oD:Obj} {l:Led} {m:Fm} {s:Shared} {h:Heap} {tk:Nat} (P:(l++C.hid).Pairwise fun p q=>p.1≠q.1) (F:Fr C.h₀ C.L h m) (N:News C.h₀ C.L h ((It,oI)::(Cc,oC)::(Da,oD)::(l++C.hid)))
  (off:LCg.Off3 It Cc Da (l++C.hid)) (ne:(@Ne Nat It Cc)∧(@Ne Nat It Da)∧(@Ne Nat Cc Da)):St (C.beside [(It,oI),(Cc,oC),(Da,oD)]) m l { s with heap:=h,toks:=tk }:=by
 have o3:=off.mem
 refine ⟨F,fun p hp=>N p (hide_perm.mem_iff.mpr hp),(hide_perm.pairwise_iff (fun h=>Ne.symm h)).mp (List.pairwise_append.mpr ⟨?_,P,fun p hp q hq=>?_⟩)⟩
 ·refine List.pairwise_cons.mpr ⟨fun p hp=>?_,List.pairwise_cons.mpr ⟨fun p hp=>?_,List.pairwise_singleton _ _⟩⟩
  ·rcases List.mem_cons.mp hp with rfl|hp
   ·exact ne.1
   ·rw [List.mem_singleton.mp hp];exact ne.2.1
  ·rw [List.mem_singleton.mp hp];exact ne.2.2
 ·obtain ⟨a1,a2,a3⟩:=o3 q hq
  rcases List.mem_cons.mp hp with rfl|hp
  ·exact Ne.symm a1
  ·rcases List.mem_cons.mp hp with rfl|hp
   ·exact Ne.symm a2
   ·rw [List.mem_singleton.mp hp];exact Ne.symm a3
theorem back3 {It Cc Da:Addr} {oI oC oD:Obj} {l l₀:Led} {m:Fm} {s:Shared} (S:St (C.beside [(It,oI),(Cc,oC),(Da,oD)]) m l s) (hs:SubP l₀ l):
  News C.h₀ C.L s.heap ((It,oI)::(Cc,oC)::(Da,oD)::(l₀++C.hid))∧LCg.Off3 It Cc Da (l₀++C.hid)∧(l₀++C.hid).Pairwise fun p q=>p.1≠q.1:=by
 have S:=S.subP hs
 have P':=List.pairwise_append.mp ((hide_perm.pairwise_iff (fun h=>Ne.symm h)).mpr S.D)
 exact ⟨fun p hp=>S.N p (hide_perm.mem_iff.mp hp),LCg.Off3.of fun p hp=>⟨Ne.symm (P'.2.2 (It,oI) (.head _) p hp),Ne.symm (P'.2.2 (Cc,oC) (.tail _ (.head _)) p hp),Ne.symm (P'.2.2 (Da,oD) (.tail _ (.tail _ (.head _))) p hp)⟩,P'.2.1⟩
theorem turn_end {l:Led} {m:Fm} {J':Value→Led→Prop} {s:Shared} {It Cc Da:Addr} {oI oC:Obj} {ys:List Value} {h:Heap} {tk:Nat} {E':Value→Shared→Prop} {S:Led→Prop} {J:Value→Led→Prop} {t:Sem Value} (ev:EV (C.beside [(It,oI),(Cc,oC),(Da,LCg.lst ys)]) t m l J')
  (hS:∀ y l',J' y l'→∃ l₀,SubP l₀ l'∧S (l₀++C.hid)∧(((l₀++C.hid).Pairwise fun p q=>p.1≠q.1)→J y (l₀++C.hid)))
  (P:(l++C.hid).Pairwise fun p q=>p.1≠q.1) (F:Fr C.h₀ C.L h m) (N:News C.h₀ C.L h ((It,oI)::(Cc,oC)::(Da,LCg.lst ys)::(l++C.hid))) (off:LCg.Off3 It Cc Da (l++C.hid)) (ne:(@Ne Nat It Cc)∧(@Ne Nat It Da)∧(@Ne Nat Cc Da)):
  wpAny (model PG w) C.A t (LCg.CompEnd C.h₀ C.L m { s with heap:=h,toks:=tk } It oI Cc oC Da (LCg.lst ys) S J) E' { s with heap:=h,toks:=tk }:=by
 refine wpAny_mono (ev _ (LCg.CompEnd C.h₀ C.L m { s with heap:=h,toks:=tk } It oI Cc oC Da (LCg.lst ys) S J) (beside3 P F N off ne) fun y l' h' tk' k S'=>?_) (fun zq zq z=>z) (fun zq zq z=>z.elim)
 obtain ⟨l₀,hs,k1,k2⟩:=hS y l' k
 obtain ⟨N2,o2,P2⟩:=back3 S' hs
 exact LCg.CompEnd.intro S'.F N2 _ (fun zq h=>h) o2 k1 (k2 P2)
theorem comp_turn {D:Nat} {elt:X} {cvs:Vs} {W:X→Vs→Led→KV→Prop} {e:Expr} {x:Str} {scope:Scope} {cl:List (Str×Addr)} {env:Env} {m:Fm} (hE:ELT w C D elt cvs W e x scope cl env) {v:Value} {ys:List Value} {l:Led} {J':Value→Led→Prop} {s:Shared}
  (hW:W elt (some v::cvs) l J') {It:Addr} {oI:Obj} {Cc:Addr} {oC:Obj} {Da:Addr} {m₂:Fm} {h:Heap} {tk:Nat} {E':Value→Shared→Prop} (P:(l++C.hid).Pairwise fun p q=>p.1≠q.1) {S:Led→Prop} {J:Value→Led→Prop} (hS:∀ y l',J' y l'→∃ l₀,SubP l₀ l'∧S (l₀++C.hid)∧(((l₀++C.hid).Pairwise fun p q=>p.1≠q.1)→J y (l₀++C.hid)))
  (hC:LCg.NsObj oC m₂) (hx:m₂ x=some v) (F:Fr C.h₀ C.L h m) (N:News C.h₀ C.L h ((It,oI)::(Cc,oC)::(Da,LCg.lst ys)::(l++C.hid))) (off:LCg.Off3 It Cc Da (l++C.hid)) (ne:(@Ne Nat It Cc)∧(@Ne Nat It Da)∧(@Ne Nat Cc Da)):
  wpAny (model PG w) C.A (eval e (compEnvC scope cl Cc env)) (LCg.CompEnd C.h₀ C.L m { s with heap:=h,toks:=tk } It oI Cc oC Da (LCg.lst ys) S J) E' { s with heap:=h,toks:=tk }:=
 turn_end (hE _ m Cc oC m₂ v (.tail _ (.head _)) hC hx l _ hW) hS P F N off ne
variable {D:Nat} {elt:X} {cvs:Vs} {W:X→Vs→Led→KV→Prop} {l:Led} {K:KV}
noncomputable abbrev kDone (K:KV) (ys:List Value) (l:Led):Prop:=∀ a,(∀ p∈l,@Ne Nat p.1 a)→K (.ref a) ((a,LCg.lst ys)::l)
theorem CMP.list {ax:Addr} {xs:List Value} {k:Nat} (J:Nat→List Value→Led→Prop) (hz:xs.length≤16777216) (h0:∃ l₀,SubP l₀ l∧J 0 [] l₀) (hk:∀ i ys l,J i ys l→(ax,listOf xs.toArray k)∈l)
  (turn:∀ i v ys l,xs[i]? =some v→J i ys l→W elt (some v::cvs) l fun y l'=>∃ l₀,SubP l₀ l'∧J (i+1) (ys++[y]) l₀) (done:∀ ys l,J xs.length ys l→kDone K ys l):CMP w D elt cvs W (.ref ax) l K:=⟨fun C m e x scope cl env hD hE s Fin S fin=>by
 obtain ⟨l₀,hs,h0⟩:=h0
 replace S:=S.subP hs
 refine LG.src_list (its:=xs.toArray) (fun i=>JC C (J i)) rfl S.F S.N (.inr ⟨_,List.mem_append_left _ (hk _ _ _ h0),rfl,_,rfl⟩) (by rw [sizeLine_eq,List.size_toArray];exact hz) ⟨_,rfl,S.D,h0⟩ ?_ ?_
 ·rintro i v ys nx I oI C' oC D' m₂ h tk E' hi ⟨l,rfl,P,j⟩ hC hx F N off ne
  exact comp_turn hE (turn i v ys l (by simpa using hi) j) P (fun y l' ⟨l₀,hs,k⟩=>⟨l₀,hs,.inr ⟨_,List.mem_append_left _ (hk _ _ _ k),rfl,_,rfl⟩,fun P'=>⟨l₀,rfl,P',k⟩⟩) hC hx F N off ne
 ·rintro g ys nx ⟨l,rfl,P,j⟩
  exact fin g ys l P (done ys l (by simpa using j))⟩
theorem CMP.tuple {ax:Addr} {xs:List Value} {o:Obj} {k:Nat} (J:Nat→List Value→Led→Prop) (hz:xs.length≤16777216) (h0:∃ l₀,SubP l₀ l∧J 0 [] l₀) (ho:o.cls= .type "tuple") (hd:o.data= .seq xs.toArray k) (hk:∀ i ys l,J i ys l→(ax,o)∈l)
  (turn:∀ i v ys l,xs[i]? =some v→J i ys l→W elt (some v::cvs) l fun y l'=>∃ l₀,SubP l₀ l'∧J (i+1) (ys++[y]) l₀) (done:∀ ys l,J xs.length ys l→kDone K ys l):CMP w D elt cvs W (.ref ax) l K:=⟨fun C m e x scope cl env hD hE s Fin S fin=>by
 obtain ⟨l₀,hs,h0⟩:=h0
 replace S:=S.subP hs
 refine LG.src_tuple (its:=xs.toArray) (fun i=>JC C (J i)) rfl S.F S.N (.inr ⟨_,List.mem_append_left _ (hk _ _ _ h0),ho,_,hd⟩) (by rw [sizeLine_eq,List.size_toArray];exact hz) ⟨_,rfl,S.D,h0⟩ ?_ ?_
 ·rintro i v ys nx I oI C' oC D' m₂ h tk E' hi ⟨l,rfl,P,j⟩ hC hx F N off ne
  exact comp_turn hE (turn i v ys l (by simpa using hi) j) P (fun y l' ⟨l₀,hs,k⟩=>⟨l₀,hs,.inr ⟨_,List.mem_append_left _ (hk _ _ _ k),ho,_,hd⟩,fun P'=>⟨l₀,rfl,P',k⟩⟩) hC hx F N off ne
 ·rintro g ys nx ⟨l,rfl,P,j⟩
  exact fin g ys l P (done ys l (by simpa using j))⟩
theorem CMP.tupleK {ax:Addr} {xs:List Value} (J:Nat→List Value→Led→Prop) (hz:xs.length≤16777216) (h0:∃ l₀,SubP l₀ l∧J 0 [] l₀) (hT:∀ h:Heap,(hd.heap_39 w.params).In h→h.IsTuple ax xs.toArray)
  (turn:∀ i v ys l,xs[i]? =some v→J i ys l→W elt (some v::cvs) l fun y l'=>∃ l₀,SubP l₀ l'∧J (i+1) (ys++[y]) l₀) (done:∀ ys l,J xs.length ys l→kDone K ys l):CMP w D elt cvs W (.ref ax) l K:=⟨fun C m e x scope cl env hD hE s Fin S fin=>by
 obtain ⟨l₀,hs,h0⟩:=h0
 replace S:=S.subP hs
 refine LG.src_tuple (its:=xs.toArray) (fun i=>JC C (J i)) rfl S.F S.N (.inl (hT _ C.X)) (by rw [sizeLine_eq,List.size_toArray];exact hz) ⟨_,rfl,S.D,h0⟩ ?_ ?_
 ·rintro i v ys nx I oI C' oC D' m₂ h tk E' hi ⟨l,rfl,P,j⟩ hC hx F N off ne
  exact comp_turn hE (turn i v ys l (by simpa using hi) j) P (fun y l' ⟨l₀,hs,k⟩=>⟨l₀,hs,.inl (hT _ C.X),fun P'=>⟨l₀,rfl,P',k⟩⟩) hC hx F N off ne
 ·rintro g ys nx ⟨l,rfl,P,j⟩
  exact fin g ys l P (done ys l (by simpa using j))⟩
theorem CMP.str {z:Str} {t:Tok} (J:Nat→List Value→Led→Prop) (hz:z.cps.size≤16777216) (h0:∃ l₀,SubP l₀ l∧J 0 [] l₀)
  (turn:∀ i v ys l,i<z.cps.size→SignAt z i v→J i ys l→W elt (some v::cvs) l fun y l'=>∃ l₀,SubP l₀ l'∧J (i+1) (ys++[y]) l₀) (done:∀ ys l,J z.cps.size ys l→kDone K ys l):CMP w D elt cvs W (.str z t) l K:=⟨fun C m e x scope cl env hD hE s Fin S fin=>by
 obtain ⟨l₀,hs,h0⟩:=h0
 replace S:=S.subP hs
 refine LG.src_str (fun i=>JC C (J i)) rfl S.F S.N (by rw [sizeLine_eq];exact hz) ⟨_,rfl,S.D,h0⟩ ?_ ?_
 ·rintro i v ys nx I oI C' oC D' m₂ h tk E' hi hs ⟨l,rfl,P,j⟩ hC hx F N off ne
  exact comp_turn hE (turn i v ys l hi hs j) P (fun y l' ⟨l₀,hs,k⟩=>⟨l₀,hs,trivial,fun P'=>⟨l₀,rfl,P',k⟩⟩) hC hx F N off ne
 ·rintro g ys nx ⟨l,rfl,P,j⟩
  exact fin g ys l P (done ys l j)⟩
theorem CMP.bytes {b:Array UInt8} {t:Tok} (J:Nat→List Value→Led→Prop) (hz:b.size≤16777216) (h0:∃ l₀,SubP l₀ l∧J 0 [] l₀)
  (turn:∀ i (c:UInt8) tc ys l,b[i]? =some c→J i ys l→W elt (some (.int (c.toNat:Int) tc)::cvs) l fun y l'=>∃ l₀,SubP l₀ l'∧J (i+1) (ys++[y]) l₀) (done:∀ ys l,J b.size ys l→kDone K ys l):CMP w D elt cvs W (.bytes b t) l K:=⟨fun C m e x scope cl env hD hE s Fin S fin=>by
 obtain ⟨l₀,hs,h0⟩:=h0
 replace S:=S.subP hs
 refine LG.src_bytes (fun i=>JC C (J i)) rfl S.F S.N (by rw [sizeLine_eq];exact hz) ⟨_,rfl,S.D,h0⟩ ?_ ?_
 ·rintro i c tc ys nx I oI C' oC D' m₂ h tk E' hc ⟨l,rfl,P,j⟩ hC hx F N off ne
  exact comp_turn hE (turn i c tc ys l hc j) P (fun y l' ⟨l₀,hs,k⟩=>⟨l₀,hs,trivial,fun P'=>⟨l₀,rfl,P',k⟩⟩) hC hx F N off ne
 ·rintro g ys nx ⟨l,rfl,P,j⟩
  exact fin g ys l P (done ys l j)⟩
theorem CMP.range {r:Addr} {oR:Obj} {x y:Int} {t u v:Tok} {n:Nat} (J:Nat→List Value→Led→Prop) (hm:(r,oR)∈l) (hr:oR={ cls:=.type "range",data:=.fields #[.int x t,.int y u,.int 1 v] }) (hsm:Builtin.Range.small x y 1=true) (hn:Builtin.Range.rangeSize x y 1=((n:Nat):Int)) (hz:n≤16777216) (h0:∃ l₀,SubP l₀ l∧J 0 [] l₀)
  (turn:∀ i ti ys l,i<n→J i ys l→W elt (some (.int (x+(i:Int)) ti)::cvs) l fun y l'=>∃ l₀,SubP l₀ l'∧J (i+1) (ys++[y]) l₀) (done:∀ ys l,J n ys l→kDone K ys l):CMP w D elt cvs W (.ref r) l K:=⟨fun C m e x' scope cl env hD hE s Fin S fin=>by
 have hg:=S.N.get (List.mem_append_left _ hm)
 obtain ⟨l₀,hs,h0⟩:=h0
 replace S:=S.subP hs
 refine LG.src_range (n:=n) (fun i=>JC C (J i)) rfl S.F S.N (t:=t) (u:=u) (v:=v) (by rw [hr] at hg;exact hg) hsm hn (by rw [sizeLine_eq];exact hz) ⟨_,rfl,S.D,h0⟩ ?_ ?_
 ·rintro i ti ys nx I oI C' oC D' m₂ h tk E' hi ⟨l,rfl,P,j⟩ hC hx F N off ne
  exact comp_turn hE (turn i ti ys l hi j) P (fun y l' ⟨l₀,hs,k⟩=>⟨l₀,hs,trivial,fun P'=>⟨l₀,rfl,P',k⟩⟩) hC hx F N off ne
 ·rintro g ys nx ⟨l,rfl,P,j⟩
  exact fin g ys l P (done ys l j)⟩
theorem CMP4.list {ax:Addr} {xs:List Value} {k:Nat} (J:Nat→List Value→Led→Prop) (hz:xs.length≤16777216) (h0:∃ l₀,SubP l₀ l∧J 0 [] l₀) (hk:∀ i ys l,J i ys l→(ax,listOf xs.toArray k)∈l)
  (turn:∀ i v ys l,xs[i]? =some v→J i ys l→∃ v₁ v₂ v₃ v₄,TupL w v [v₁,v₂,v₃,v₄] l∧W elt ([v₁,v₂,v₃,v₄].map some++cvs) l fun y l'=>∃ l₀,SubP l₀ l'∧J (i+1) (ys++[y]) l₀) (done:∀ ys l,J xs.length ys l→kDone K ys l):CMP4 w D elt cvs W (.ref ax) l K:=⟨fun C m e x₁ x₂ x₃ x₄ scope cl env hD hE s Fin S fin=>by
 obtain ⟨l₀,hs,h0⟩:=h0
 replace S:=S.subP hs
 refine LQ.SrcQ.intro (its:=xs.toArray) (fun i=>JC C (J i)) rfl S.F S.N (List.mem_append_left _ (hk _ _ _ h0)) (by rw [sizeLine_eq,List.size_toArray];exact hz) ⟨_,rfl,S.D,h0⟩ ?_ ?_
 ·rintro i v ys nx hi ⟨l,rfl,P,j⟩
  obtain ⟨v₁,v₂,v₃,v₄,T,W4⟩:=turn i v ys l (by simpa using hi) j
  obtain ⟨t,rfl,hT⟩:=T
  refine ⟨t,v₁,v₂,v₃,v₄,rfl,fun h F N=>?_,fun I oI Cc oC Da m₂ h tk E' hC h1 h2 h3 h4 F N off ne=>?_⟩
  ·rcases hT with ⟨o,n,c1,c2,c3⟩|hT
   ·exact ⟨o,(N _ (List.mem_append_left _ c3)).1,c1,n,c2⟩
   ·exact (hT _ C.X).at fun o e=>F.keep _ _ e
  ·refine turn_end (hE _ m Cc oC m₂ [v₁,v₂,v₃,v₄] (.tail _ (.head _)) hC (fun i x hx=>?_) rfl l _ W4) (fun y l' ⟨l₀,hs,k⟩=>⟨l₀,hs,.inr ⟨_,List.mem_append_left _ (hk _ _ _ k),rfl,_,rfl⟩,fun P'=>⟨l₀,rfl,P',k⟩⟩) P F N off ne
   rcases i with _|_|_|_|i
   ·cases hx;exact ⟨_,rfl,h1⟩
   ·cases hx;exact ⟨_,rfl,h2⟩
   ·cases hx;exact ⟨_,rfl,h3⟩
   ·cases hx;exact ⟨_,rfl,h4⟩
   ·cases hx
 ·rintro g ys nx ⟨l,rfl,P,j⟩
  exact fin g ys l P (done ys l (by simpa using j))⟩
inductive JK (C:Cx w) (J:List (Str×Value)→Led→Prop) (ys:List (Str×Value)) (nx:Led):Prop
 |mk (l:Led) (en:nx=l++C.hid) (D:nx.Pairwise fun p q=>p.1≠q.1) (hj:J ys l)
theorem DCMP.dict {W:Bool→Vs→Led→KV→Prop} {d:Addr} {od:Obj} {src:List (Str×Value)} (J:Nat→List (Str×Value)→Led→Prop) (hd:od.IsDictOf (PySem.strKind PG w) src) (lo:(d==sysModules)=false) (hz:src.length≤16777216) (h0:∃ l₀,SubP l₀ l∧J 0 [] l₀) (hk:∀ i kvs l,J i kvs l→(d,od)∈l)
  (turn:∀ i k0 t0 v0 kvs l,src[i]? =some (k0,v0)→J i kvs l→W true (some (.str k0 t0)::cvs) l fun y l'=>∃ k t,y= .str k t∧W false (some (.str k0 t0)::cvs) l' fun z l''=>∃ l₀,SubP l₀ l''∧J (i+1) (stored kvs k z) l₀)
  (done:∀ kvs l,J src.length kvs l→∀ a o,o.IsDictOf (PySem.strKind PG w) kvs→(a==sysModules)=false→(∀ p∈l,@Ne Nat p.1 a)→K (.ref a) ((a,o)::l)):DCMP w D cvs W (.ref d) l K:=⟨fun C m ke ve x scope cl env hD h1 h2 s Fin S fin=>by
 obtain ⟨l₀,hs,h0⟩:=h0
 replace S:=S.subP hs
 obtain ⟨ep,hd'⟩:=KdkAt.of hd
 refine ⟨d,od,src,ep,_,fun i=>JK C (J i),rfl,rfl,S.F,S.N,List.mem_append_left _ (hk _ _ _ h0),hd',lo,by rw [sizeLine_eq];exact hz,⟨_,rfl,S.D,h0⟩,?_,?_⟩
 ·rintro i k0 t0 v0 kvs nx I oI Cc oC Da oD m₂ h tk E' hi ⟨l,rfl,P,j⟩ hda hdi hC hx F N off ne
  have ev:EV (C.beside [(I,oI),(Cc,oC),(Da,oD)]) (eval ke (compEnvC scope cl Cc env)) m l _:=h1 _ m Cc oC m₂ _ (.tail _ (.head _)) hC hx l _ (turn i k0 t0 v0 kvs l hi j)
  refine wpAny_mono (ev { s with heap:=h,toks:=tk } _ (beside3 P F N off ne) fun y l' h' tk' ⟨k,t,ey,kW⟩ S'=>?_) (fun zq zq z=>z) (fun zq zq z=>z.elim)
  have ev2:EV (C.beside [(I,oI),(Cc,oC),(Da,oD)]) (eval ve (compEnvC scope cl Cc env)) m l' _:=h2 _ m Cc oC m₂ _ (.tail _ (.head _)) hC hx l' _ kW
  refine wpAny_mono (ev2 _ _ S' fun z l'' h2 tk2 ⟨l₀,hs,jj⟩ S2=>?_) (fun zq zq z=>z) (fun zq zq z=>z.elim)
  obtain ⟨N3,o3,P3⟩:=back3 S2 hs
  rw [ey]
  exact LD.KVEnd.intro S2.F N3 _ (fun zq h=>h) o3 ⟨od,List.mem_append_left _ (hk _ _ _ jj),hd'⟩ ⟨l₀,rfl,P3,jj⟩
 ·rintro g kvs nx ⟨l,rfl,P,j⟩
  exact fin g kvs l P (done kvs l j)⟩
set_option tactic.hygienic true
end
end
section
section
variable {w:World} {D:Nat} {l:Led} {K:Value→Led→Prop} {α:Type}
set_option tactic.hygienic false
theorem St.new {C:Cx w} {m:Fm} {s:Shared} {Da:Addr} {o:Obj} {h':Heap} {tk:Nat} (S:St C m l s) (F':Fr C.h₀ C.L h' m) (N':News C.h₀ C.L h' ((Da,o)::(l++C.hid))) (l1:∀ p∈l++C.hid,p.1<Da):St C m ((Da,o)::l) { s with heap:=h',toks:=tk }:=
 ⟨F',N',List.pairwise_cons.mpr ⟨fun p hp=>Nat.ne_of_gt (l1 p hp),S.D⟩⟩
theorem OP.add_int {x y:Int} {tx ty:Tok} (k:∀ t,K (.int (x+y) t) l):OP w D (binaryOp .Add (.int x tx) (.int y ty)) l K:=⟨fun zq zq zq=>EV.add_int k⟩
theorem OP.sub_int {x y:Int} {tx ty:Tok} (k:∀ t,K (.int (x - y) t) l):OP w D (binaryOp .Sub (.int x tx) (.int y ty)) l K:=⟨fun zq zq zq=>EV.sub_int k⟩
theorem OP.add_str {x y:Str} {tx ty:Tok} (hz:x.length+y.length≤16777216) (k:∀ t,K (.str (x++y) t) l):OP w D (binaryOp .Add (.str x tx) (.str y ty)) l K:=⟨fun zq zq zq=>EV.add_str hz k⟩
theorem OP.eq_int {x y:Int} {tx ty:Tok} (k:K (.bool (decide (x=y))) l):OP w D (compareOp .Eq (.int x tx) (.int y ty)) l K:=⟨fun zq zq zq=>EV.eq_int k⟩
theorem OP.ne_int {x y:Int} {tx ty:Tok} (k:K (.bool (x != y)) l):OP w D (compareOp .NotEq (.int x tx) (.int y ty)) l K:=⟨fun zq zq zq=>EV.ne_int k⟩
theorem OP.lt_int {x y:Int} {tx ty:Tok} (k:K (.bool (decide (x<y))) l):OP w D (compareOp .Lt (.int x tx) (.int y ty)) l K:=⟨fun zq zq zq=>EV.lt_int k⟩
theorem OP.gt_int {x y:Int} {tx ty:Tok} (k:K (.bool (decide (x>y))) l):OP w D (compareOp .Gt (.int x tx) (.int y ty)) l K:=⟨fun zq zq zq=>EV.gt_int k⟩
theorem OP.le_int {x y:Int} {tx ty:Tok} (k:K (.bool (decide (x≤y))) l):OP w D (compareOp .LtE (.int x tx) (.int y ty)) l K:=⟨fun zq zq zq=>EV.le_int k⟩
theorem OP.ge_int {x y:Int} {tx ty:Tok} (k:K (.bool (decide (x≥y))) l):OP w D (compareOp .GtE (.int x tx) (.int y ty)) l K:=⟨fun zq zq zq=>EV.ge_int k⟩
theorem OP.eq_str {x y:Str} {tx ty:Tok} (k:K (.bool (x==y)) l):OP w D (compareOp .Eq (.str x tx) (.str y ty)) l K:=⟨fun zq zq zq=>EV.eq_str k⟩
theorem OP.ne_str {x y:Str} {tx ty:Tok} (k:K (.bool (x != y)) l):OP w D (compareOp .NotEq (.str x tx) (.str y ty)) l K:=⟨fun zq zq zq=>EV.ne_str k⟩
theorem OP.eq_bytesT {x:Array UInt8} {tx ty:Tok} (k:K (.bool true) l):OP w D (compareOp .Eq (.bytes x tx) (.bytes x ty)) l K:=⟨fun zq zq zq=>EV.eq_bytes (by rw [beq_self_eq_true];exact k)⟩
theorem OP.ne_bytesF {x:Array UInt8} {tx ty:Tok} (k:K (.bool false) l):OP w D (compareOp .NotEq (.bytes x tx) (.bytes x ty)) l K:=⟨fun zq zq zq=>EV.ne_bytes (by rw [bne_self_eq_false];exact k)⟩
theorem OP.is_none (k:K (.bool true) l):OP w D (compareOp .Is .none .none) l K:=⟨fun zq zq zq=>EV.is_none k⟩
theorem OP.is_int {x:Int} {t:Tok} (k:K (.bool false) l):OP w D (compareOp .Is (.int x t) .none) l K:=⟨fun zq zq zq=>EV.is_int k⟩
theorem OP.is_str {x:Str} {t:Tok} (k:K (.bool false) l):OP w D (compareOp .Is (.str x t) .none) l K:=⟨fun zq zq zq=>EV.is_str k⟩
theorem OP.is_bytes {x:Array UInt8} {t:Tok} (k:K (.bool false) l):OP w D (compareOp .Is (.bytes x t) .none) l K:=⟨fun zq zq zq=>EV.is_bytes k⟩
theorem OP.is_ref {x:Addr} (k:K (.bool false) l):OP w D (compareOp .Is (.ref x) .none) l K:=⟨fun zq zq zq=>EV.is_ref k⟩
theorem OP.isnot_none (k:K (.bool false) l):OP w D (compareOp .IsNot .none .none) l K:=⟨fun zq zq zq=>EV.isnot_none k⟩
theorem OP.isnot_int {x:Int} {t:Tok} (k:K (.bool true) l):OP w D (compareOp .IsNot (.int x t) .none) l K:=⟨fun zq zq zq=>EV.isnot_int k⟩
theorem OP.isnot_str {x:Str} {t:Tok} (k:K (.bool true) l):OP w D (compareOp .IsNot (.str x t) .none) l K:=⟨fun zq zq zq=>EV.isnot_str k⟩
theorem OP.isnot_bytes {x:Array UInt8} {t:Tok} (k:K (.bool true) l):OP w D (compareOp .IsNot (.bytes x t) .none) l K:=⟨fun zq zq zq=>EV.isnot_bytes k⟩
theorem OP.isnot_ref {x:Addr} (k:K (.bool true) l):OP w D (compareOp .IsNot (.ref x) .none) l K:=⟨fun zq zq zq=>EV.isnot_ref k⟩
theorem OP.add_bytes {x y:Array UInt8} {tx ty:Tok} (hz:x.size+y.size≤16777216) (k:∀ t,K (.bytes (x++y) t) l):OP w D (binaryOp .Add (.bytes x tx) (.bytes y ty)) l K:=
 ⟨fun zq zq zq s zq S q=>KBy.add_bytes (by simpa using hz) fun t tk=>q _ l s.heap tk (k t) ⟨S.F,S.N,S.D⟩⟩
theorem OP.truthy {b:Bool} {K:Bool→Led→Prop} (k:K b l):OP w D (truthy (.bool b)) l K:=⟨fun zq zq zq=>EV.truthy_bool k⟩
set_option tactic.hygienic true
theorem OP.range1 {n:Int} {t:Tok} (k:∀ r t1 t2 t3,(∀ p∈l,p.1<r)→K (.ref r) ((r,{ cls:=.type "range",data:=.fields #[.int 0 t1,.int n t2,.int 1 t3] })::l)):OP w D (call (.type "range") [.int n t]) l K:=by
 refine ⟨fun C m hD s Q S q=>?_⟩
 rcases C with ⟨mean,mg,mb,dp,un,gd,cn,cs,a,ccd,cl,outer,A₀,base,h₀,L,B,X,T,hk,D,hd,hu,hid⟩
 have S0:=S
 rcases S with ⟨F,N,P⟩
 dsimp only at F N P q
 show wpAny _ (ktrTop dp un gd cn cs L a ccd cl outer) _ _ _ _
 k_steps
 rename IsRange _ _ _ _ _ _ _ _=>hR
 rename Fr _ _ _ _=>F1
 rename News _ _ _ _=>N1
 exact q _ (_::l) _ _ (k _ _ _ _ fun p hp=>EV.fresh S0 hp) (St.new S0 F1 (fun p hp=>by
  rcases List.mem_cons.mp hp with rfl|hp
  ·exact ⟨hR,Nat.ne_of_gt S0.F.ns.lt,next_is_new S0.F⟩
  ·exact N1 p hp) fun p hp=>EV.fresh' S0 hp)
set_option tactic.hygienic false
theorem OP.len {a:Addr} {xs:List Value} {n:Nat} (hz:xs.length≤16777216) (hm:(a,listOf xs.toArray n)∈l) (k:∀ t,K (.int xs.length t) l):OP w D (call (.builtin "len") [.ref a]) l K:=
 ⟨fun C zq zq s zq S q=>len_list (lm_list S.N (List.mem_append_left C.hid hm)) (by rw [List.size_toArray];omega) (by rw [List.size_toArray];exact q _ _ s.heap _ (k _) ⟨S.F,S.N,S.D⟩)⟩
theorem OP.item {a:Addr} {xs:List Value} {n:Nat} {i:Int} {t:Tok} {x:Value} (hm:(a,listOf xs.toArray n)∈l) (h0:0≤i) (hx:xs[i.toNat]? =some x) (hz:xs.length≤16777216) (k:K x l):OP w D (subOp (.ref a) (.int i t)) l K:=
 ⟨fun C zq zq s zq S q=>item_list (lm_list S.N (List.mem_append_left C.hid hm)) h0 (by have:=(List.getElem?_eq_some_iff.mp hx).1;omega) (by simpa using hx) (q _ _ s.heap s.toks k S) (by with_unfolding_all rfl) (fun zq=>rfl)⟩
theorem OP.last {a:Addr} {xs:List Value} {n:Nat} {t:Tok} {x:Value} (hm:(a,listOf xs.toArray n)∈l) (hx:xs.getLast? =some x) (k:K x l):OP w D (subOp (.ref a) (.int (-1) t)) l K:=
 ⟨fun C zq zq s zq S q=>by
   have hl:0<xs.length:=by cases xs with|nil=>cases hx|cons=>simp
   refine kde_neg (lm_list S.N (List.mem_append_left C.hid hm)) (by decide) (by decide) (j:=xs.length - 1) (v:=x) ?_ ?_ (q _ _ s.heap s.toks k S) (by with_unfolding_all rfl)
   ·unfold seqIndex?;simp;omega
   ·rw [List.getLast?_eq_getElem?] at hx;exact hx⟩
theorem OP.tupItem {v:Value} {xs:List Value} {i:Int} {t:Tok} {x:Value} {j:Nat} (T:TupL w v xs l) (hlo: -(2 ^ 63)≤i) (hhi:i<2 ^ 63) (hj:seqIndex? i xs.length=some j) (hx:xs[j]? =some x) (k:K x l):OP w D (subOp v (.int i t)) l K:=
 ⟨fun C zq zq s zq S q=>by
   obtain ⟨a,rfl,hT⟩:=T.at S
   exact item_tupleT hT hlo hhi hj hx (q _ _ s.heap s.toks k S) (by with_unfolding_all rfl)⟩
theorem OP.append {pre post:Led} {a:Addr} {xs:List Value} {n:Nat} {v:Value} (hz:xs.length≤16777216) (k:K .none (pre++(a,listOf (xs++[v]).toArray (n+1))::post)):
  OP w D (call (.builtin "list.append") [.ref a,v]) (pre++(a,listOf xs.toArray n)::post) K:=
 ⟨fun C m zq s Q S q=>append_at (hsz:=by rw [sizeLine_eq,List.size_toArray];omega) ((S.split.1 (a,listOf xs.toArray n) (List.mem_append_right _ (.head _))).1) fun h' hs ho'=>q _ _ h' s.toks k (S.put hs (by rw [ho',List.push_toArray]))⟩
set_option tactic.hygienic true
theorem GM.append {a:Addr} {xs:Array Value} {n:Nat} {K:Value×List Value→Led→Prop} (hm:(a,listOf xs n)∈l) (k:K (.builtin "list.append",[.ref a]) l):GM w D (.ref a) (Str.ofString "append") l K:=by
 refine ⟨fun C m b zq s Q S q=>?_⟩
 rcases C with ⟨mean,mg,mb,dp,un,gd,cn,cs,a,ccd,cl,outer,A₀,base,h₀,L,B,X,T,hk,D,hd,hu,hid⟩
 rcases S with ⟨F,N,P⟩
 dsimp only at F N P q
 have hm2:=List.mem_append_left hid hm
 show wpAny _ (ktrTop dp un gd cn cs L a ccd cl outer) _ _ _ _
 k_steps
 exact q _ _ _ _ k ⟨F,N,P⟩
end
end
section
section
variable {w:World} {D:Nat}
set_option tactic.hygienic false
theorem OP.mono {α:Type} {t:Sem α} {l:Led} {K K':α→Led→Prop} (h:OP w D t l K) (k:∀ v l,K v l→K' v l):OP w D t l K':=⟨fun C m hD=>(h.go C m hD).mono k⟩
theorem GM.mono {ov:Value} {nm:Str} {l:Led} {K K':Value×List Value→Led→Prop} (h:GM w D ov nm l K) (k:∀ v l,K v l→K' v l):GM w D ov nm l K':=⟨fun C m b hD=>(h.go C m b hD).mono k⟩
theorem CMP4.mono {elt:X} {cvs:Vs} {W:X→Vs→Led→KV→Prop} {v:Value} {l:Led} {K K':KV} (h:CMP4 w D elt cvs W v l K) (k:∀ v l,K v l→K' v l):CMP4 w D elt cvs W v l K':=⟨fun C m e x₁ x₂ x₃ x₄ scope cl env hD hE s Fin S fin=>h.go C m e x₁ x₂ x₃ x₄ scope cl env hD hE s Fin S fun g ys l' P kk=>fin g ys l' P fun a ha=>k _ _ (kk a ha)⟩
theorem DCMP.mono {cvs:Vs} {W:Bool→Vs→Led→KV→Prop} {v:Value} {l:Led} {K K':KV} (h:DCMP w D cvs W v l K) (k:∀ v l,K v l→K' v l):DCMP w D cvs W v l K':=⟨fun C m ke ve x scope cl env hD h1 h2 s Fin S fin=>h.go C m ke ve x scope cl env hD h1 h2 s Fin S fun g kvs l' P kk=>fin g kvs l' P fun a o hd lo ha=>k _ _ (kk a o hd lo ha)⟩
theorem SLO.mono {o x y:Value} {l:Led} {K K':KV} (h:SLO w D o x y l K) (k:∀ v l,K v l→K' v l):SLO w D o x y l K':=⟨fun C m hD=>⟨fun s Q S q=>(h.go C m hD).go s Q S fun v l' h' tk' kv S'=>q v l' h' tk' (k v l' kv) S'⟩⟩
theorem RWX.mono {e:Expr} {l:Led} {K K':KV} (h:RWX w D e l K) (k:∀ v l,K v l→K' v l):RWX w D e l K':=⟨fun C m env hD=>(h.go C m env hD).mono k⟩
theorem STP.mono {o z:Value} {l:Led} {K K':KV} (h:STP w D o z l K) (k:∀ v l,K v l→K' v l):STP w D o z l K':=⟨fun C m hD=>⟨fun s Q S q=>(h.go C m hD).go s Q S fun v l' h' tk' kv S'=>q v l' h' tk' (k v l' kv) S'⟩⟩
theorem CMP.mono {elt:X} {cvs:Vs} {W:X→Vs→Led→KV→Prop} {v:Value} {l:Led} {K K':KV} (h:CMP w D elt cvs W v l K) (k:∀ v l,K v l→K' v l):CMP w D elt cvs W v l K':=⟨fun C m e x scope cl env hD hE s Fin S fin=>h.go C m e x scope cl env hD hE s Fin S fun g ys l' P kk=>fin g ys l' P fun a ha=>k _ _ (kk a ha)⟩
structure MnX (w:World) (D:Nat) (y:X):Prop where
 x:∀ {vs:Vs} {l:Led} {K K':KV},WX w D y vs l K→(∀ v l,K v l→K' v l)→WX w D y vs l K'
 t:∀ {vs:Vs} {l:Led} {K K':KB},WT w D y vs l K→(∀ v l,K v l→K' v l)→WT w D y vs l K'
structure MnXs (w:World) (D:Nat) (x:Xs):Prop where
 s:∀ {vs:Vs} {l:Led} {K K':List Value→Led→Prop},WXs w D x vs l K→(∀ v l,K v l→K' v l)→WXs w D x vs l K'
 a:∀ {vs:Vs} {l:Led} {K K':KB},WA w D x vs l K→(∀ v l,K v l→K' v l)→WA w D x vs l K'
 o:∀ {vs:Vs} {l:Led} {K K':KB},WO w D x vs l K→(∀ v l,K v l→K' v l)→WO w D x vs l K'
 av:∀ {vs:Vs} {l:Led} {K K':KV},WAV w D x vs l K→(∀ v l,K v l→K' v l)→WAV w D x vs l K'
 ov:∀ {vs:Vs} {l:Led} {K K':KV},WOV w D x vs l K→(∀ v l,K v l→K' v l)→WOV w D x vs l K'
theorem get_mono {vs:Vs} {i:Nat} {A B:Value→Prop} (h:(match vs[i]? with|some (some v)=>A v|_=>False)) (k:∀ v,A v→B v):(match vs[i]? with|some (some v)=>B v|_=>False):=by
 cases hv:vs[i]? with
 |none=>rw [hv] at h;exact h
 |some o=>
  rw [hv] at h
  cases o with
  |none=>exact h
  |some v=>exact k v h
theorem isFn_mono {A B:Prop}:∀ {b:Bool},(match b with|true=>A|false=>False)→(A→B)→(match b with|true=>B|false=>False)
 |true,h,k=>k h
 |false,h,_=>h
theorem kIf_mono {α:Type} {W₁ W₂:Led→α→Prop} {K K':α} (a:∀ l,W₁ l K→W₁ l K') (b:∀ l,W₂ l K→W₂ l K'):∀ (c:Bool) (l:Led),kIf W₁ W₂ K c l→kIf W₁ W₂ K' c l
 |true,l,h=>a l h
 |false,l,h=>b l h
theorem kAnd_mono {W:Led→KB→Prop} {K K':KB} (a:∀ l,W l K→W l K') (k:∀ v l,K v l→K' v l):∀ (c:Bool) (l:Led),kAnd W K c l→kAnd W K' c l
 |true,l,h=>a l h
 |false,l,h=>k _ l h
theorem kOr_mono {W:Led→KB→Prop} {K K':KB} (a:∀ l,W l K→W l K') (k:∀ v l,K v l→K' v l):∀ (c:Bool) (l:Led),kOr W K c l→kOr W K' c l
 |true,l,h=>k _ l h
 |false,l,h=>a l h
theorem kAndV2_mono {v:Value} {W:Led→KV→Prop} {K K':KV} (a:∀ l,W l K→W l K') (k:∀ v l,K v l→K' v l):∀ (c:Bool) (l:Led),kAndV2 v W K c l→kAndV2 v W K' c l
 |true,l,h=>a l h
 |false,l,h=>k _ l h
theorem kOrV2_mono {v:Value} {W:Led→KV→Prop} {K K':KV} (a:∀ l,W l K→W l K') (k:∀ v l,K v l→K' v l):∀ (c:Bool) (l:Led),kOrV2 v W K c l→kOrV2 v W K' c l
 |true,l,h=>k _ l h
 |false,l,h=>a l h
theorem kCall1_mono {xs:Xs} (ih:MnXs w D xs) {vs:Vs} {K K':KV} (k:∀ v l,K v l→K' v l) (f:Value) (l:Led) (h:kCall1 w D (WXs w D xs vs) K f l):kCall1 w D (WXs w D xs vs) K' f l:=by
 cases f with
 |ref a=>exact isFn_mono (b:=isFn a) h fun h=>ih.s h fun zq zq h=>h.mono k
 |builtin id=>exact ih.s h fun zq zq h=>h.mono k
 |type T=>exact ih.s h fun zq zq h=>h.mono k
 |_=>exact False.elim h
theorem kMeth2_mono {xs:Xs} (ih:MnXs w D xs) {vs:Vs} {K K':KV} (k:∀ v l,K v l→K' v l) (f:Value×List Value) (l:Led) (h:kMeth2 w D (WXs w D xs vs) K f l):kMeth2 w D (WXs w D xs vs) K' f l:=by
 obtain ⟨fv,first⟩:=f
 cases fv with
 |ref a=>exact isFn_mono (b:=isFn a) h fun h=>ih.s h fun zq zq h=>h.mono k
 |builtin id=>exact ih.s h fun zq zq h=>h.mono k
 |_=>exact False.elim h
theorem kTruth_mono {K K':KB} (k:∀ v l,K v l→K' v l) (v:Value) (l:Led) (h:kTruth w D K v l):kTruth w D K' v l:=OP.mono h k
set_option tactic.hygienic true
mutual
theorem mono_X:∀ x:X,MnX w D x
 | .k c=>⟨fun {vs l K K'} h k=>by
     cases c
     case int=>exact fun t=>k _ _ (h t)
     case str=>exact fun t=>k _ _ (h t)
     case bytes=>exact fun t=>k _ _ (h t)
     case none=>exact k _ _ h
     case bool=>exact k _ _ h
     all_goals exact False.elim h,fun h zq=>False.elim h⟩
 | .v i=>⟨fun {_ l K K'} h k=>get_mono (A:=fun v=>K v l) (B:=fun v=>K' v l) h fun v h=>k v _ h,fun {vs l K K'} h k=>get_mono (A:=fun v=>OP w D (truthy v) l K) (B:=fun v=>OP w D (truthy v) l K') h fun v h=>OP.mono h k⟩
 | .g v=>⟨fun h k=>k _ _ h,fun h zq=>False.elim h⟩
 | .bin op a b=>⟨fun h k=>(mono_X a).x h fun zq zq h=>(mono_X b).x h fun zq zq h=>OP.mono h k,fun h zq=>False.elim h⟩
 | .cmp op a b=>⟨fun h k=>(mono_X a).x h fun zq zq h=>(mono_X b).x h fun zq zq h=>OP.mono h k,fun h k=>(mono_X a).x h fun zq zq h=>(mono_X b).x h fun zq zq h=>OP.mono h (kTruth_mono k)⟩
 | .un op a=>⟨fun h k=>(mono_X a).x h fun zq zq h=>OP.mono h k,fun h k=>by
     cases op
     case Not=>exact (mono_X a).t h fun zq zq h=>k _ _ h
     all_goals exact False.elim h⟩
 | .ife t a b=>⟨fun h k=>(mono_X t).t h (kIf_mono (fun zq h=>(mono_X a).x h k) (fun zq h=>(mono_X b).x h k)),fun h zq=>False.elim h⟩
 | .bool op xs=>⟨fun h k=>by
     cases op
     ·exact (mono_Xs xs).av h k
     ·exact (mono_Xs xs).ov h k,fun h k=>by
     cases op
     ·exact (mono_Xs xs).a h k
     ·exact (mono_Xs xs).o h k⟩
 | .tup xs=>⟨fun h k=>(mono_Xs xs).s h fun zq zq h=>⟨h.1,fun a ha=>k _ _ (h.2 a ha)⟩,fun h zq=>False.elim h⟩
 | .lst xs=>⟨fun h k=>(mono_Xs xs).s h fun zq zq h=>⟨h.1,fun a ha=>k _ _ (h.2 a ha)⟩,fun h zq=>False.elim h⟩
 | .call f xs=>⟨fun h k=>(mono_X f).x h (kCall1_mono (mono_Xs xs) k),fun h k=>(mono_X f).x h (kCall1_mono (mono_Xs xs) (kTruth_mono k))⟩
 | .sub a b=>⟨fun h k=>(mono_X a).x h fun zq zq h=>(mono_X b).x h fun zq zq h=>OP.mono h k,fun h k=>(mono_X a).x h fun zq zq h=>(mono_X b).x h fun zq zq h=>OP.mono h (kTruth_mono k)⟩
 | .slc o a b=>⟨fun h k=>(mono_X o).x h fun zq zq h=>(mono_X a).x h fun zq zq h=>(mono_X b).x h fun zq zq h=>SLO.mono h k,fun h zq=>False.elim h⟩
 | .stp o c=>⟨fun h k=>(mono_X o).x h fun zq zq h=>(mono_X c).x h fun zq zq h=>STP.mono h k,fun h zq=>False.elim h⟩
 | .meth o nm xs=>⟨fun h k=>(mono_X o).x h fun zq zq h=>GM.mono h (kMeth2_mono (mono_Xs xs) k),fun h k=>(mono_X o).x h fun zq zq h=>GM.mono h (kMeth2_mono (mono_Xs xs) (kTruth_mono k))⟩
 | .attr o nm=>⟨fun h k=>(mono_X o).x h fun zq zq h=>OP.mono h k,fun h zq=>False.elim h⟩
 | .comp elt src caps=>⟨fun h k=>(mono_X src).x h fun zq zq h=>CMP.mono h k,fun h zq=>False.elim h⟩
 | .comp4 elt src caps=>⟨fun h k=>(mono_X src).x h fun zq zq h=>CMP4.mono h k,fun h zq=>False.elim h⟩
 | .dcomp kx vx src caps=>⟨fun h k=>(mono_X src).x h fun zq zq h=>DCMP.mono h k,fun h zq=>False.elim h⟩
 | .raw e=>⟨fun h k=>RWX.mono h k,fun h zq=>False.elim h⟩
 | .cmp2 o₁ o₂ a b c=>⟨fun h zq=>False.elim h,fun h k=>(mono_X a).x h fun zq zq h=>(mono_X b).x h fun zq zq h=>OP.mono h (kTruth_mono fun t l h=>by
     cases t
     ·exact k _ _ h
     ·exact (mono_X c).x h fun zq zq h=>OP.mono h (kTruth_mono k))⟩
 | .bad=>⟨fun h zq=>False.elim h,fun h zq=>False.elim h⟩
termination_by structural x=>x
theorem mono_Xs:∀ x:Xs,MnXs w D x
 | .nil=>⟨fun h k=>k _ _ h,fun h k=>k _ _ h,fun h k=>k _ _ h,fun h zq=>False.elim h,fun h zq=>False.elim h⟩
 | .cons x xs=>⟨fun h k=>(mono_X x).x h fun zq zq h=>(mono_Xs xs).s h fun zq zq h=>k _ _ h,
   fun h k=>(mono_X x).t h (kAnd_mono (fun zq h=>(mono_Xs xs).a h k) k),
   fun h k=>(mono_X x).t h (kOr_mono (fun zq h=>(mono_Xs xs).o h k) k),
   fun {vs l K K'} h k=>by
    have ih:=mono_Xs xs
    have ix:=mono_X x
    cases xs with
    |nil=>exact ix.x h k
    |cons y ys=>exact ix.x (K':=kAndV w D (WAV w D (.cons y ys) vs) K') h (fun zq zq h=>OP.mono h (kAndV2_mono (fun zq h=>ih.av h k) k)),
   fun {vs l K K'} h k=>by
    have ih:=mono_Xs xs
    have ix:=mono_X x
    cases xs with
    |nil=>exact ix.x h k
    |cons y ys=>exact ix.x (K':=kOrV w D (WOV w D (.cons y ys) vs) K') h (fun zq zq h=>OP.mono h (kOrV2_mono (fun zq h=>ih.ov h k) k))⟩
termination_by structural x=>x
end
set_option tactic.hygienic false
theorem WX.mono (x:X) {vs:Vs} {l:Led} {K K':KV} (h:WX w D x vs l K) (k:∀ v l,K v l→K' v l):WX w D x vs l K':=(mono_X x).x h k
theorem WT.mono (x:X) {vs:Vs} {l:Led} {K K':KB} (h:WT w D x vs l K) (k:∀ v l,K v l→K' v l):WT w D x vs l K':=(mono_X x).t h k
theorem WXs.mono (x:Xs) {vs:Vs} {l:Led} {K K':List Value→Led→Prop} (h:WXs w D x vs l K) (k:∀ v l,K v l→K' v l):WXs w D x vs l K':=(mono_Xs x).s h k
theorem WA.mono (x:Xs) {vs:Vs} {l:Led} {K K':KB} (h:WA w D x vs l K) (k:∀ v l,K v l→K' v l):WA w D x vs l K':=(mono_Xs x).a h k
theorem WO.mono (x:Xs) {vs:Vs} {l:Led} {K K':KB} (h:WO w D x vs l K) (k:∀ v l,K v l→K' v l):WO w D x vs l K':=(mono_Xs x).o h k
theorem WAV.mono (x:Xs) {vs:Vs} {l:Led} {K K':KV} (h:WAV w D x vs l K) (k:∀ v l,K v l→K' v l):WAV w D x vs l K':=(mono_Xs x).av h k
theorem WOV.mono (x:Xs) {vs:Vs} {l:Led} {K K':KV} (h:WOV w D x vs l K) (k:∀ v l,K v l→K' v l):WOV w D x vs l K':=(mono_Xs x).ov h k
set_option tactic.hygienic true
end
set_option tactic.hygienic false
inductive P where
 |int (i:Int)
 |str (s:Str)
 |bytes (b:Array UInt8)
 |none
 |bool (b:Bool)
 |tup (xs:List P)
 |lst (xs:List P)
 |rng (n:Int)
 |dct (ks:List Str) (xs:List P)
 |enm (e:Addr) (oI:Obj) (xs:List P)
 |val (v:Value)
set_option tactic.hygienic true
mutual
inductive RV (w:World) (F:Led):P→Value→Prop
 |int {i:Int} {t:Tok}:RV w F (.int i) (.int i t)
 |str {s:Str} {t:Tok}:RV w F (.str s) (.str s t)
 |bytes {b:Array UInt8} {t:Tok}:RV w F (.bytes b) (.bytes b t)
 |none:RV w F .none .none
 |bool {b:Bool}:RV w F (.bool b) (.bool b)
 |val {v:Value}:RV w F (.val v) v
 |tup {xs:List P} {vs:List Value} {t:Addr} {n:Nat}:RVs w F xs vs→(t,({ cls:=.type "tuple",data:=.seq vs.toArray n }:Obj))∈F→RV w F (.tup xs) (.ref t)
 |tupK {xs:List P} {vs:List Value} {t:Addr}:RVs w F xs vs→(∀ h:Heap,(hd.heap_39 w.params).In h→h.IsTuple t vs.toArray)→RV w F (.tup xs) (.ref t)
 |rng {n:Int} {r:Addr} {t1 t2 t3:Tok}:(r,({ cls:=.type "range",data:=.fields #[.int 0 t1,.int n t2,.int 1 t3] }:Obj))∈F→RV w F (.rng n) (.ref r)
 |dct {ks:List Str} {xs:List P} {vs:List Value} {t:Addr} {o:Obj}:RVs w F xs vs→(t,o)∈F→o.IsDictOf (PySem.strKind PG w) (ks.zip vs)→(t==sysModules)=false→RV w F (.dct ks xs) (.ref t)
 |enm {e ax:Addr} {oI:Obj} {xs:List P} {vs:List Value} {n:Nat}:RVs w F xs vs→(ax,listOf vs.toArray n)∈F→(oI.cls= .type "list_iterator"∧oI.data= .fields #[.ref ax,.int 0 0])→RV w F (.enm e oI xs) (.ref e)
 |lst {xs:List P} {vs:List Value} {t:Addr} {n:Nat}:RVs w F xs vs→(t,listOf vs.toArray n)∈F→RV w F (.lst xs) (.ref t)
inductive RVs (w:World) (F:Led):List P→List Value→Prop
 |nil:RVs w F [] []
 |cons {x:P} {v:Value} {xs:List P} {vs:List Value}:RV w F x v→RVs w F xs vs→RVs w F (x::xs) (v::vs)
end
section
variable {w:World} {F F':Led}
set_option tactic.hygienic false
theorem RV.up (hF:∀ x∈F,x∈F') {p:P} {v:Value} (h:RV w F p v):RV w F' p v:=
 RV.rec (motive_1:=fun p v zq=>RV w F' p v) (motive_2:=fun p v zq=>RVs w F' p v) .int .str .bytes .none .bool .val (fun zq m ih=>.tup ih (hF _ m)) (fun zq m ih=>.tupK ih m) (fun m=>.rng (hF _ m)) (fun zq m d o ih=>.dct ih (hF _ m) d o) (fun zq m i ih=>.enm ih (hF _ m) i) (fun zq m ih=>.lst ih (hF _ m)) .nil (fun zq zq a b=>.cons a b) h
theorem RVs.up (hF:∀ x∈F,x∈F') {p:List P} {v:List Value} (h:RVs w F p v):RVs w F' p v:=
 RVs.rec (motive_1:=fun p v zq=>RV w F' p v) (motive_2:=fun p v zq=>RVs w F' p v) .int .str .bytes .none .bool .val (fun zq m ih=>.tup ih (hF _ m)) (fun zq m ih=>.tupK ih m) (fun m=>.rng (hF _ m)) (fun zq m d o ih=>.dct ih (hF _ m) d o) (fun zq m i ih=>.enm ih (hF _ m) i) (fun zq m ih=>.lst ih (hF _ m)) .nil (fun zq zq a b=>.cons a b) h
theorem RV.intI {i:Int} {v:Value} (h:RV w F (.int i) v):∃ t,v= .int i t:=by cases h;exact ⟨_,rfl⟩
theorem RV.strI {i:Str} {v:Value} (h:RV w F (.str i) v):∃ t,v= .str i t:=by cases h;exact ⟨_,rfl⟩
theorem RV.bytesI {i:Array UInt8} {v:Value} (h:RV w F (.bytes i) v):∃ t,v= .bytes i t:=by cases h;exact ⟨_,rfl⟩
theorem RV.noneI {v:Value} (h:RV w F .none v):v= .none:=by cases h;rfl
theorem RV.boolI {i:Bool} {v:Value} (h:RV w F (.bool i) v):v= .bool i:=by cases h;rfl
theorem RV.valI {u v:Value} (h:RV w F (.val u) v):v=u:=by cases h;rfl
theorem RV.rngI {n:Int} {v:Value} (h:RV w F (.rng n) v):∃ r t1 t2 t3,v= .ref r∧(r,({ cls:=.type "range",data:=.fields #[.int 0 t1,.int n t2,.int 1 t3] }:Obj))∈F:=by cases h with|rng m=>exact ⟨_,_,_,_,rfl,m⟩
theorem RV.dctI {ks:List Str} {xs:List P} {v:Value} (h:RV w F (.dct ks xs) v):∃ t us o,v= .ref t∧RVs w F xs us∧(t,o)∈F∧o.IsDictOf (PySem.strKind PG w) (ks.zip us)∧(t==sysModules)=false:=by cases h with|dct h m d o=>exact ⟨_,_,_,rfl,h,m,d,o⟩
theorem RV.lstI {xs:List P} {v:Value} (h:RV w F (.lst xs) v):∃ t us n,v= .ref t∧RVs w F xs us∧(t,listOf us.toArray n)∈F:=by cases h with|lst h m=>exact ⟨_,_,_,rfl,h,m⟩
theorem RV.tupI {xs:List P} {v:Value} (h:RV w F (.tup xs) v):∃ t us,v= .ref t∧RVs w F xs us∧((∃ n,(t,({ cls:=.type "tuple",data:=.seq us.toArray n }:Obj))∈F)∨∀ h:Heap,(hd.heap_39 w.params).In h→h.IsTuple t us.toArray):=by
 cases h with
 |tup h m=>exact ⟨_,_,rfl,h,.inl ⟨_,m⟩⟩
 |tupK h m=>exact ⟨_,_,rfl,h,.inr m⟩
theorem RVs.cons_inv {p:P} {ps:List P} {us:List Value} (h:RVs w F (p::ps) us):∃ v vs,us=v::vs∧RV w F p v∧RVs w F ps vs:=by cases h with|cons a b=>exact ⟨_,_,rfl,a,b⟩
theorem RVs.nil_inv {us:List Value} (h:RVs w F [] us):us=[]:=by cases h;rfl
theorem RVs.one {p:P} {us:List Value} (h:RVs w F [p] us):∃ v,us=[v]∧RV w F p v:=by
 obtain ⟨v,vs,e,a,b⟩:=h.cons_inv
 rw [b.nil_inv] at e
 exact ⟨v,e,a⟩
theorem RVs.two {p q:P} {us:List Value} (h:RVs w F [p,q] us):∃ v u,us=[v,u]∧RV w F p v∧RV w F q u:=by
 obtain ⟨v,vs,e,a,b⟩:=h.cons_inv
 obtain ⟨u,e2,c⟩:=b.one
 rw [e2] at e
 exact ⟨v,u,e,a,c⟩
theorem RVs.three {p q r:P} {us:List Value} (h:RVs w F [p,q,r] us):∃ v u x,us=[v,u,x]∧RV w F p v∧RV w F q u∧RV w F r x:=by
 obtain ⟨v,vs,e,a,b⟩:=h.cons_inv
 obtain ⟨u,x,e2,c⟩:=b.two
 rw [e2] at e
 exact ⟨v,u,x,e,a,c⟩
theorem RVs.four {p q r s:P} {us:List Value} (h:RVs w F [p,q,r,s] us):∃ v u x y,us=[v,u,x,y]∧RV w F p v∧RV w F q u∧RV w F r x∧RV w F s y:=by
 obtain ⟨v,vs,e,a,b⟩:=h.cons_inv
 obtain ⟨u,x,y,e2,c⟩:=b.three
 rw [e2] at e
 exact ⟨v,u,x,y,e,a,c⟩
theorem RVs.len {p:List P}:∀ {v:List Value},RVs w F p v→v.length=p.length:=by
 induction p with
 |nil=>intro v h;rw [h.nil_inv];rfl
 |cons x p ih=>intro v h;obtain ⟨u,us,rfl,_,k⟩:=h.cons_inv;exact congrArg (· +1) (ih k)
theorem RVs.get {p:List P}:∀ {v:List Value},RVs w F p v→∀ {i:Nat} {x:P},p[i]? =some x→∃ u,v[i]? =some u∧RV w F x u:=by
 induction p with
 |nil=>intro v _ i x e;cases e
 |cons y p ih=>
  intro v h i x e
  obtain ⟨u,us,rfl,k0,k⟩:=h.cons_inv
  cases i with
  |zero=>exact ⟨u,rfl,Option.some.inj e▸k0⟩
  |succ i=>exact ih k (i:=i) e
theorem RVs.tog {p:List P}:∀ {v:List Value},RVs w F p v→∀ {i:Nat} {u:Value},v[i]? =some u→∃ x,p[i]? =some x∧RV w F x u:=by
 induction p with
 |nil=>intro v h i u e;rw [h.nil_inv] at e;cases e
 |cons y p ih=>
  intro v h i u e
  obtain ⟨z,us,rfl,k0,k⟩:=h.cons_inv
  cases i with
  |zero=>exact ⟨y,rfl,Option.some.inj e▸k0⟩
  |succ i=>exact ih k (i:=i) e
theorem RVs.app {p q:List P} {v u:List Value} (h:RVs w F p v) (k2:RVs w F q u):RVs w F (p++q) (v++u):=by
 induction p generalizing v with
 |nil=>rw [h.nil_inv];exact k2
 |cons y p ih=>obtain ⟨z,us,rfl,k0,k⟩:=h.cons_inv;exact .cons k0 (ih k)
theorem RVs.take {p:List P}:∀ {v:List Value},RVs w F p v→∀ i,RVs w F (p.take i) (v.take i):=by
 induction p with
 |nil=>intro v h i;rw [h.nil_inv,List.take_nil,List.take_nil];exact .nil
 |cons y p ih=>
  intro v h i
  obtain ⟨z,us,rfl,k0,k⟩:=h.cons_inv
  cases i with
  |zero=>exact .nil
  |succ i=>exact .cons k0 (ih k i)
theorem RVs.drop {p:List P}:∀ {v:List Value},RVs w F p v→∀ i,RVs w F (p.drop i) (v.drop i):=by
 induction p with
 |nil=>intro v h i;rw [h.nil_inv,List.drop_nil,List.drop_nil];exact .nil
 |cons y p ih=>
  intro v h i
  cases i with
  |zero=>exact h
  |succ i=>obtain ⟨z,us,rfl,k0,k⟩:=h.cons_inv;exact ih k i
set_option tactic.hygienic true
end
set_option tactic.hygienic false
inductive PO where
 |list (xs:List P)
 |raw (o:Obj)
noncomputable abbrev PL:=List (Addr×PO)
noncomputable abbrev PVs:=List (Option P)
inductive RL (w:World) (F:Led):PL→Led→Prop
 |nil:RL w F [] []
 |list {a:Addr} {xs:List P} {vs:List Value} {n:Nat} {r:PL} {l:Led}:RVs w F xs vs→RL w F r l→RL w F ((a,.list xs)::r) ((a,listOf vs.toArray n)::l)
 |raw {a:Addr} {o:Obj} {r:PL} {l:Led}:RL w F r l→RL w F ((a,.raw o)::r) ((a,o)::l)
inductive RVo (w:World) (F:Led):PVs→Vs→Prop
 |nil:RVo w F [] []
 |hole {o:Option Value} {ps:PVs} {vs:Vs}:RVo w F ps vs→RVo w F (none::ps) (o::vs)
 |full {p:P} {v:Value} {ps:PVs} {vs:Vs}:RV w F p v→RVo w F ps vs→RVo w F (some p::ps) (some v::vs)
set_option tactic.hygienic true
section
variable {w:World} {F F':Led}
set_option tactic.hygienic false
theorem RL.up (hF:∀ x∈F,x∈F') {p:PL} {l:Led} (h:RL w F p l):RL w F' p l:=by
 induction h with
 |nil=>exact .nil
 |list h _ ih=>exact .list (h.up hF) ih
 |raw _ ih=>exact .raw ih
theorem RVo.up (hF:∀ x∈F,x∈F') {p:PVs} {v:Vs} (h:RVo w F p v):RVo w F' p v:=by
 induction h with
 |nil=>exact .nil
 |hole _ ih=>exact .hole ih
 |full h _ ih=>exact .full (h.up hF) ih
theorem RVo.get {p:PVs} {v:Vs} (h:RVo w F p v):∀ {i:Nat} {x:P},p[i]? =some (some x)→∃ u,v[i]? =some (some u)∧RV w F x u:=by
 induction h with
 |nil=>intro i x e;cases e
 |hole _ ih=>
  intro i x e
  cases i with
  |zero=>cases e
  |succ i=>exact ih (i:=i) e
 |full g _ ih=>
  intro i x e
  cases i with
  |zero=>exact ⟨_,rfl,Option.some.inj (Option.some.inj e)▸g⟩
  |succ i=>exact ih (i:=i) e
theorem RVo.has {p:PVs} {v:Vs} (h:RVo w F p v):∀ {i:Nat} {x:Option P},p[i]? =some x→∃ u,v[i]? =some u:=by
 induction h with
 |nil=>intro i x e;cases e
 |hole _ ih=>
  intro i x e
  cases i with
  |zero=>exact ⟨_,rfl⟩
  |succ i=>exact ih (i:=i) e
 |full g _ ih=>
  intro i x e
  cases i with
  |zero=>exact ⟨_,rfl⟩
  |succ i=>exact ih (i:=i) e
theorem RVo.set {p:PVs} {v:Vs} (h:RVo w F p v):∀ (i:Nat) {x:P} {u:Value},RV w F x u→RVo w F (p.set i (some x)) (v.set i (some u)):=by
 induction h with
 |nil=>intro i x u _;exact .nil
 |hole k ih=>
  intro i x u g
  cases i with
  |zero=>exact .full g k
  |succ i=>exact .hole (ih i g)
 |full g0 k ih=>
  intro i x u g
  cases i with
  |zero=>exact .full g k
  |succ i=>exact .full g0 (ih i g)
inductive RLM (w:World) (F:Led) (pre post:PL) (a:Addr) (xs:List P) (l:Led):Prop
 |mk (p q:Led) (vs:List Value) (n:Nat) (el:l=p++(a,listOf vs.toArray n)::q) (h1:RVs w F xs vs) (h2:∀ F' ys us m,(∀ x∈F,x∈F')→RVs w F' ys us→RL w F' (pre++(a,.list ys)::post) (p++(a,listOf us.toArray m)::q)) (h3:RL w F (pre++post) (p++q))
theorem RL.mid {pre post:PL} {a:Addr} {xs:List P} {l:Led} (h:RL w F (pre++(a,.list xs)::post) l):RLM w F pre post a xs l:=by
 generalize e:pre++(a,PO.list xs)::post=pl at h
 induction h generalizing pre with
 |nil=>cases pre<;>cases e
 |@list b ys vs n r l h k ih=>
  cases pre with
  |nil=>cases e;exact ⟨[],_,vs,n,rfl,h,fun zq zq zq zq hF hy=>.list hy (k.up hF),k⟩
  |cons x pre=>
   cases e
   obtain ⟨p,q,vs,n,rfl,h1,h2,h3⟩:=ih rfl
   exact ⟨_::p,q,vs,n,rfl,h1,fun zq zq zq zq hF hy=>.list (h.up hF) (h2 _ _ _ _ hF hy),.list h h3⟩
 |@raw b o r l k ih=>
  cases pre with
  |nil=>cases e
  |cons x pre=>
   cases e
   obtain ⟨p,q,vs,n,rfl,h1,h2,h3⟩:=ih rfl
   exact ⟨_::p,q,vs,n,rfl,h1,fun zq zq zq zq hF hy=>.raw (h2 _ _ _ _ hF hy),.raw h3⟩
theorem RL.app {p q:PL} {l m:Led} (h:RL w F p l) (k:RL w F q m):RL w F (p++q) (l++m):=by
 induction h with
 |nil=>exact k
 |list h _ ih=>exact .list h ih
 |raw _ ih=>exact .raw ih
theorem RL.split {p q:PL} {l:Led} (h:RL w F (p++q) l):∃ a b,l=a++b∧RL w F p a∧RL w F q b:=by
 generalize e:p++q=pl at h
 induction h generalizing p with
 |nil=>obtain ⟨rfl,rfl⟩:=List.append_eq_nil_iff.mp e;exact ⟨[],[],rfl,.nil,.nil⟩
 |list h k ih=>
  cases p with
  |nil=>cases e;exact ⟨[],_,rfl,.nil,.list h k⟩
  |cons x p=>cases e;obtain ⟨a,b,rfl,h1,h2⟩:=ih rfl;exact ⟨_::a,b,rfl,.list h h1,h2⟩
 |raw k ih=>
  cases p with
  |nil=>cases e;exact ⟨[],_,rfl,.nil,.raw k⟩
  |cons x p=>cases e;obtain ⟨a,b,rfl,h1,h2⟩:=ih rfl;exact ⟨_::a,b,rfl,.raw h1,h2⟩
theorem RL.perm {p q:PL} (h:List.Perm p q):∀ {l:Led},RL w F p l→∃ m,RL w F q m∧List.Perm l m:=by
 induction h with
 |nil=>intro l k;exact ⟨l,k,.refl _⟩
 |cons x _ ih=>
  intro l k
  cases k with
  |list h k=>obtain ⟨m,h1,h2⟩:=ih k;exact ⟨_,.list h h1,h2.cons _⟩
  |raw k=>obtain ⟨m,h1,h2⟩:=ih k;exact ⟨_,.raw h1,h2.cons _⟩
 |swap x y l'=>
  intro l k
  have e1:y::x::l'=[y]++([x]++l'):=rfl
  rw [e1] at k
  obtain ⟨a,b,rfl,h1,h2⟩:=k.split
  obtain ⟨c,d,rfl,h3,h4⟩:=h2.split
  refine ⟨c++(a++d),h3.app (h1.app h4),?_⟩
  rw [←List.append_assoc,←List.append_assoc]
  exact List.perm_append_comm.append_right _
 |trans _ _ ih1 ih2=>
  intro l k
  obtain ⟨m,h1,h2⟩:=ih1 k
  obtain ⟨m',h3,h4⟩:=ih2 h1
  exact ⟨m',h3,h2.trans h4⟩
inductive RS (w:World) (F:Led) (pl:PL) (l:Led):Prop
 |of (core:Led) (k:RL w F pl core) (p:List.Perm l (core++F))
theorem RS.sub {pl:PL} {l:Led} (h:RS w F pl l):∀ x∈F,x∈l:=fun x hx=>by
 obtain ⟨core,_,p⟩:=h
 exact p.mem_iff.mpr (List.mem_append_right _ hx)
theorem RS.more {pl:PL} {l:Led} {x:Addr×Obj} (h:RS w F pl l):RS w (x::F) pl (x::l):=by
 obtain ⟨core,k,p⟩:=h
 exact ⟨core,k.up fun zq h=>.tail _ h,(p.cons x).trans List.perm_middle.symm⟩
theorem RS.list {pl:PL} {l:Led} {a:Addr} {xs:List P} {vs:List Value} {n:Nat} (h:RS w F pl l) (hv:RVs w F xs vs):RS w F ((a,.list xs)::pl) ((a,listOf vs.toArray n)::l):=by
 obtain ⟨core,k,p⟩:=h
 exact ⟨_,.list hv k,p.cons _⟩
theorem RS.raw {pl:PL} {l:Led} {a:Addr} {o:Obj} (h:RS w F pl l):RS w F ((a,.raw o)::pl) ((a,o)::l):=by
 obtain ⟨core,k,p⟩:=h
 exact ⟨_,.raw k,p.cons _⟩
theorem RS.perm {pl pl':PL} {l:Led} (h:RS w F pl l) (hp:List.Perm pl pl'):RS w F pl' l:=by
 obtain ⟨core,k,p⟩:=h
 obtain ⟨m,k2,p2⟩:=k.perm hp
 exact ⟨m,k2,p.trans (p2.append_right F)⟩
set_option tactic.hygienic true
end
end
section
set_option tactic.hygienic false
noncomputable abbrev KP:=P→PL→Prop
noncomputable abbrev KPB:=Bool→PL→Prop
noncomputable abbrev KPs:=List P→PL→Prop
inductive liftK (w:World) (F₀:Led) (K:KP) (v:Value) (l:Led):Prop
 |of (p:P) (pl:PL) (F:Led) (a:RV w F p v) (b:RS w F pl l) (u:∀ x∈F₀,x∈F) (k:K p pl)
inductive liftB (w:World) (F₀:Led) (K:KPB) (c:Bool) (l:Led):Prop
 |of (pl:PL) (F:Led) (b:RS w F pl l) (u:∀ x∈F₀,x∈F) (k:K c pl)
inductive liftL (w:World) (F₀:Led) (K:KPs) (us:List Value) (l:Led):Prop
 |of (ps:List P) (pl:PL) (F:Led) (a:RVs w F ps us) (b:RS w F pl l) (u:∀ x∈F₀,x∈F) (k:K ps pl)
theorem liftK.up {w:World} {F₀ F₁:Led} {K:KP} {v:Value} {l:Led} (h:∀ x∈F₀,x∈F₁) (k:liftK w F₁ K v l):liftK w F₀ K v l:=by
 obtain ⟨p,pl,F,a,b,d,e⟩:=k
 exact ⟨p,pl,F,a,b,fun x hx=>d x (h x hx),e⟩
theorem liftB.up {w:World} {F₀ F₁:Led} {K:KPB} {v:Bool} {l:Led} (h:∀ x∈F₀,x∈F₁) (k:liftB w F₁ K v l):liftB w F₀ K v l:=by
 obtain ⟨pl,F,b,d,e⟩:=k
 exact ⟨pl,F,b,fun x hx=>d x (h x hx),e⟩
theorem liftK.mk {w:World} {F:Led} {K:KP} {v:Value} {l:Led} {p:P} {pl:PL} (a:RV w F p v) (b:RS w F pl l) (k:K p pl):liftK w F K v l:=⟨p,pl,F,a,b,fun zq h=>h,k⟩
structure PB (w:World) (D:Nat) (op:Operator) (p q:P) (pl:PL) (K:KP):Prop where
 go:∀ F l x y,RV w F p x→RV w F q y→RS w F pl l→OP w D (binaryOp op x y) l (liftK w F K)
structure PC (w:World) (D:Nat) (op:CmpOp) (p q:P) (pl:PL) (K:KP):Prop where
 go:∀ F l x y,RV w F p x→RV w F q y→RS w F pl l→OP w D (compareOp op x y) l (liftK w F K)
structure PU (w:World) (D:Nat) (op:UnaryOp) (p:P) (pl:PL) (K:KP):Prop where
 go:∀ F l x,RV w F p x→RS w F pl l→OP w D (unaryOp op x) l (liftK w F K)
structure PTr (w:World) (D:Nat) (p:P) (pl:PL) (K:KPB):Prop where
 go:∀ F l x,RV w F p x→RS w F pl l→OP w D (truthy x) l (liftB w F K)
structure PCall (w:World) (D:Nat) (f:Value) (ps:List P) (pl:PL) (K:KP):Prop where
 go:∀ F l us,RVs w F ps us→RS w F pl l→OP w D (call f us) l (liftK w F K)
structure PSb (w:World) (D:Nat) (p q:P) (pl:PL) (K:KP):Prop where
 go:∀ F l x y,RV w F p x→RV w F q y→RS w F pl l→OP w D (subOp x y) l (liftK w F K)
structure PSl (w:World) (D:Nat) (p q r:P) (pl:PL) (K:KP):Prop where
 go:∀ F l x y z,RV w F p x→RV w F q y→RV w F r z→RS w F pl l→SLO w D x y z l (liftK w F K)
structure PRv (w:World) (D:Nat) (p q:P) (pl:PL) (K:KP):Prop where
 go:∀ F l x z,RV w F p x→RV w F q z→RS w F pl l→STP w D x z l (liftK w F K)
structure PRw (w:World) (D:Nat) (e:Expr) (pl:PL) (K:KP):Prop where
 go:∀ F l,RS w F pl l→RWX w D e l (liftK w F K)
structure PAt (w:World) (D:Nat) (p:P) (nm:Str) (pl:PL) (K:KP):Prop where
 go:∀ F l x,RV w F p x→RS w F pl l→OP w D (getAttr x nm true) l (liftK w F K)
noncomputable def okF:Value→Prop
 | .ref a=>isFn a=true
 | .builtin _=>True
 |_=>False
structure PMe (w:World) (D:Nat) (p:P) (nm:Str) (W:PL→KPs→Prop) (pl:PL) (K:KP):Prop where
 go:∃ f,okF f∧(∀ F l x,RV w F p x→RS w F pl l→GM w D x nm l fun r l'=>r=(f,[x])∧l'=l)∧W pl fun ps pl=>PCall w D f (p::ps) pl K
structure PCp (w:World) (D:Nat) (elt:X) (cvs:PVs) (p:P) (pl:PL) (K:KP):Prop where
 go:∀ F l x rcs,RV w F p x→RVo w F cvs rcs→RS w F pl l→CMP w D elt rcs (fun zq vs l K=>WX w D elt vs l K) x l (liftK w F K)
structure PCp4 (w:World) (D:Nat) (elt:X) (cvs:PVs) (p:P) (pl:PL) (K:KP):Prop where
 go:∀ F l x rcs,RV w F p x→RVo w F cvs rcs→RS w F pl l→CMP4 w D elt rcs (fun zq vs l K=>WX w D elt vs l K) x l (liftK w F K)
structure PDc (w:World) (D:Nat) (kx vx:X) (cvs:PVs) (p:P) (pl:PL) (K:KP):Prop where
 go:∀ F l x rcs,RV w F p x→RVo w F cvs rcs→RS w F pl l→DCMP w D rcs (fun b vs l K=>match b with|true=>WX w D kx vs l K|false=>WX w D vx vs l K) x l (liftK w F K)
noncomputable def pBin (w:World) (D:Nat) (op:Operator) (p q:P) (pl:PL) (K:KP):Prop:=match op with
 | .Add=>match p with
   | .int x=>match q with
     | .int y=>K (.int (x+y)) pl
     |q=>PB w D .Add (.int x) q pl K
   |p=>PB w D .Add p q pl K
 | .Sub=>match p with
   | .int x=>match q with
     | .int y=>K (.int (x - y)) pl
     |q=>PB w D .Sub (.int x) q pl K
   |p=>PB w D .Sub p q pl K
 |op=>PB w D op p q pl K
noncomputable def pIs (p:P):Option Bool:=match p with
 | .none=>some true
 | .int _=>some false
 | .str _=>some false
 | .bytes _=>some false
 | .tup _=>some false
 | .lst _=>some false
 | .rng _=>some false
 | .dct _ _=>some false
 | .enm _ _ _=>none
 | .val v=>(match v with
   | .ref _=>some false
   |_=>none)
 | .bool _=>none
noncomputable def pCmp (w:World) (D:Nat) (op:CmpOp) (p q:P) (pl:PL) (K:KP):Prop:=match op with
 | .Is=>match q with
   | .none=>match pIs p with
     |some b=>K (.bool b) pl
     |none=>PC w D .Is p .none pl K
   |q=>PC w D .Is p q pl K
 | .IsNot=>match q with
   | .none=>match pIs p with
     |some b=>K (.bool (!b)) pl
     |none=>PC w D .IsNot p .none pl K
   |q=>PC w D .IsNot p q pl K
 | .Eq=>match p with
   | .int x=>match q with
     | .int y=>K (.bool (decide (x=y))) pl
     |q=>PC w D .Eq (.int x) q pl K
   | .str x=>match q with
     | .str y=>K (.bool (x==y)) pl
     |q=>PC w D .Eq (.str x) q pl K
   |p=>PC w D .Eq p q pl K
 | .NotEq=>match p with
   | .int x=>match q with
     | .int y=>K (.bool (x != y)) pl
     |q=>PC w D .NotEq (.int x) q pl K
   | .str x=>match q with
     | .str y=>K (.bool (x != y)) pl
     |q=>PC w D .NotEq (.str x) q pl K
   |p=>PC w D .NotEq p q pl K
 | .Lt=>match p with
   | .int x=>match q with
     | .int y=>K (.bool (decide (x<y))) pl
     |q=>PC w D .Lt (.int x) q pl K
   |p=>PC w D .Lt p q pl K
 | .Gt=>match p with
   | .int x=>match q with
     | .int y=>K (.bool (decide (x>y))) pl
     |q=>PC w D .Gt (.int x) q pl K
   |p=>PC w D .Gt p q pl K
 | .LtE=>match p with
   | .int x=>match q with
     | .int y=>K (.bool (decide (x≤y))) pl
     |q=>PC w D .LtE (.int x) q pl K
   |p=>PC w D .LtE p q pl K
 | .GtE=>match p with
   | .int x=>match q with
     | .int y=>K (.bool (decide (x≥y))) pl
     |q=>PC w D .GtE (.int x) q pl K
   |p=>PC w D .GtE p q pl K
 |op=>PC w D op p q pl K
noncomputable def pUn (w:World) (D:Nat) (op:UnaryOp) (p:P) (pl:PL) (K:KP):Prop:=match op with
 | .USub=>match p with
   | .int x=>K (.int (-x)) pl
   |p=>PU w D .USub p pl K
 |op=>PU w D op p pl K
noncomputable def pTruth (w:World) (D:Nat) (K:KPB):KP:=fun p pl=>match p with
 | .bool b=>K b pl
 |p=>PTr w D p pl K
noncomputable def pSub (w:World) (D:Nat) (p q:P) (pl:PL) (K:KP):Prop:=match p with
 | .tup xs=>match q with
   | .int i=>(match (decide (-(2 ^ 63)≤i)&&decide (i<2 ^ 63)) with
     |true=>(match seqIndex? i xs.length with
      |some j=>(match xs[j]? with
       |some x=>K x pl
       |none=>False)
      |none=>False)
     |false=>False)
   |q=>PSb w D (.tup xs) q pl K
 |p=>PSb w D p q pl K
noncomputable def pIf {α:Type} (W₁ W₂:PL→α→Prop) (K:α):KPB:=fun c pl=>match c with
 |true=>W₁ pl K
 |false=>W₂ pl K
noncomputable def pAnd (W:PL→KPB→Prop) (K:KPB):KPB:=fun c pl=>match c with
 |true=>W pl K
 |false=>K false pl
noncomputable def pOr (W:PL→KPB→Prop) (K:KPB):KPB:=fun c pl=>match c with
 |true=>K true pl
 |false=>W pl K
noncomputable def pAndV2 (p:P) (W:PL→KP→Prop) (K:KP):KPB:=fun c pl=>match c with
 |true=>W pl K
 |false=>K p pl
noncomputable def pOrV2 (p:P) (W:PL→KP→Prop) (K:KP):KPB:=fun c pl=>match c with
 |false=>W pl K
 |true=>K p pl
noncomputable def pTup (K:KP):KPs:=fun ps pl=>match Nat.ble ps.length 16777216 with
 |true=>K (.tup ps) pl
 |false=>False
noncomputable def pLst (K:KP):KPs:=fun ps pl=>match Nat.ble ps.length 16777216 with
 |true=>∀ a,K (.val (.ref a)) ((a,.list ps)::pl)
 |false=>False
noncomputable def pCall1 (w:World) (D:Nat) (W:PL→KPs→Prop) (K:KP):KP:=fun f pl=>match f with
 | .val v=>(match v with
   | .ref a=>(match isFn a with
     |true=>W pl fun ps pl=>PCall w D (.ref a) ps pl K
     |false=>False)
   | .builtin id=>W pl fun ps pl=>PCall w D (.builtin id) ps pl K
   | .type T=>W pl fun ps pl=>PCall w D (.type T) ps pl K
   |_=>False)
 |_=>False
noncomputable def gpv (v:Value):P:=match v with
 | .int i _=>.int i
 | .str s _=>.str s
 | .bytes b _=>.bytes b
 |v=>.val v
noncomputable def capP (vs:PVs) (caps:List Nat):PVs:=caps.map fun i=>match vs[i]? with
 |some v=>v
 |none=>none
set_option tactic.hygienic true
mutual
noncomputable def PX (w:World) (D:Nat):X→PVs→PL→KP→Prop
 | .k (.int i),_,l,K=>K (.int i) l
 | .k (.str s),_,l,K=>K (.str s) l
 | .k (.bytes b),_,l,K=>K (.bytes b.toArray) l
 | .k .none,_,l,K=>K .none l
 | .k (.bool b),_,l,K=>K (.bool b) l
 | .k _,_,_,_=>False
 | .v i,vs,l,K=>match vs[i]? with
   |some (some v)=>K v l
   |_=>False
 | .g v,_,l,K=>K (gpv v) l
 | .bin op a b,vs,l,K=>PX w D a vs l fun x l=>PX w D b vs l fun y l=>pBin w D op x y l K
 | .cmp op a b,vs,l,K=>PX w D a vs l fun x l=>PX w D b vs l fun y l=>pCmp w D op x y l K
 | .un op a,vs,l,K=>PX w D a vs l fun x l=>pUn w D op x l K
 | .ife t a b,vs,l,K=>PT w D t vs l (pIf (PX w D a vs) (PX w D b vs) K)
 | .bool .And xs,vs,l,K=>PAV w D xs vs l K
 | .bool .Or xs,vs,l,K=>POV w D xs vs l K
 | .tup xs,vs,l,K=>PXs w D xs vs l (pTup K)
 | .lst xs,vs,l,K=>PXs w D xs vs l (pLst K)
 | .call f xs,vs,l,K=>PX w D f vs l (pCall1 w D (PXs w D xs vs) K)
 | .sub a b,vs,l,K=>PX w D a vs l fun x l=>PX w D b vs l fun y l=>pSub w D x y l K
 | .slc o a b,vs,l,K=>PX w D o vs l fun x l=>PX w D a vs l fun y l=>PX w D b vs l fun z l=>PSl w D x y z l K
 | .stp o c,vs,l,K=>PX w D o vs l fun x l=>PX w D c vs l fun z l=>PRv w D x z l K
 | .meth o nm xs,vs,l,K=>PX w D o vs l fun x l=>PMe w D x nm (PXs w D xs vs) l K
 | .attr o nm,vs,l,K=>PX w D o vs l fun x l=>PAt w D x nm l K
 | .comp elt src caps,vs,l,K=>PX w D src vs l fun x l=>PCp w D elt (capP vs caps) x l K
 | .comp4 elt src caps,vs,l,K=>PX w D src vs l fun x l=>PCp4 w D elt (capP vs caps) x l K
 | .dcomp kx vx src caps,vs,l,K=>PX w D src vs l fun x l=>PDc w D kx vx (capP vs caps) x l K
 | .raw e,_,l,K=>PRw w D e l K
 | .cmp2 _ _ _ _ _,_,_,_=>False
 | .bad,_,_,_=>False
noncomputable def PT (w:World) (D:Nat):X→PVs→PL→KPB→Prop
 | .un .Not a,vs,l,K=>PT w D a vs l fun b l=>K (!b) l
 | .bool .And xs,vs,l,K=>PA w D xs vs l K
 | .bool .Or xs,vs,l,K=>PO_ w D xs vs l K
 | .cmp op a b,vs,l,K=>PX w D a vs l fun x l=>PX w D b vs l fun y l=>pCmp w D op x y l (pTruth w D K)
 | .cmp2 o₁ o₂ a b c,vs,l,K=>PX w D a vs l fun x l=>PX w D b vs l fun y l=>pCmp w D o₁ x y l (pTruth w D (pAnd (fun l K=>PX w D c vs l fun z l=>pCmp w D o₂ y z l (pTruth w D K)) K))
 | .v i,vs,l,K=>match vs[i]? with
   |some (some v)=>pTruth w D K v l
   |_=>False
 | .call f xs,vs,l,K=>PX w D f vs l (pCall1 w D (PXs w D xs vs) (pTruth w D K))
 | .sub a b,vs,l,K=>PX w D a vs l fun x l=>PX w D b vs l fun y l=>pSub w D x y l (pTruth w D K)
 | .meth o nm xs,vs,l,K=>PX w D o vs l fun x l=>PMe w D x nm (PXs w D xs vs) l (pTruth w D K)
 |_,_,_,_=>False
noncomputable def PXs (w:World) (D:Nat):Xs→PVs→PL→KPs→Prop
 | .nil,_,l,K=>K [] l
 | .cons x xs,vs,l,K=>PX w D x vs l fun u l=>PXs w D xs vs l fun us l=>K (u::us) l
noncomputable def PA (w:World) (D:Nat):Xs→PVs→PL→KPB→Prop
 | .nil,_,l,K=>K true l
 | .cons x xs,vs,l,K=>PT w D x vs l (pAnd (PA w D xs vs) K)
noncomputable def PO_ (w:World) (D:Nat):Xs→PVs→PL→KPB→Prop
 | .nil,_,l,K=>K false l
 | .cons x xs,vs,l,K=>PT w D x vs l (pOr (PO_ w D xs vs) K)
noncomputable def PAV (w:World) (D:Nat):Xs→PVs→PL→KP→Prop
 | .nil,_,_,_=>False
 | .cons x xs,vs,l,K=>match xs with
   | .nil=>PX w D x vs l K
   | .cons y ys=>PX w D x vs l fun p l=>pTruth w D (pAndV2 p (PAV w D (.cons y ys) vs) K) p l
noncomputable def POV (w:World) (D:Nat):Xs→PVs→PL→KP→Prop
 | .nil,_,_,_=>False
 | .cons x xs,vs,l,K=>match xs with
   | .nil=>PX w D x vs l K
   | .cons y ys=>PX w D x vs l fun p l=>pTruth w D (pOrV2 p (POV w D (.cons y ys) vs) K) p l
end
end
section
section
variable {w:World} {D:Nat}
set_option tactic.hygienic false
theorem pBin_ok {op:Operator} {p q:P} {pl:PL} {K:KP} (h:pBin w D op p q pl K) {F l:Led} {x y:Value} (hx:RV w F p x) (hy:RV w F q y) (hl:RS w F pl l):OP w D (binaryOp op x y) l (liftK w F K):=by
 cases op
 case Add=>cases p<;>first|exact h.go _ _ _ _ hx hy hl|(cases q<;>first|exact h.go _ _ _ _ hx hy hl|(obtain ⟨_,rfl⟩:=hx.intI;obtain ⟨_,rfl⟩:=hy.intI;exact OP.add_int fun t=>liftK.mk .int hl h))
 case Sub=>cases p<;>first|exact h.go _ _ _ _ hx hy hl|(cases q<;>first|exact h.go _ _ _ _ hx hy hl|(obtain ⟨_,rfl⟩:=hx.intI;obtain ⟨_,rfl⟩:=hy.intI;exact OP.sub_int fun t=>liftK.mk .int hl h))
 all_goals exact h.go _ _ _ _ hx hy hl
structure NoneOP (w:World) (D:Nat) (l:Led) (x:Value) (b:Bool):Prop where
 is:∀ {K:KV},K (.bool b) l→OP w D (compareOp .Is x .none) l K
 isnot:∀ {K:KV},K (.bool (!b)) l→OP w D (compareOp .IsNot x .none) l K
theorem NoneOP.ref {a:Addr} {l:Led}:NoneOP w D l (.ref a) false:=⟨OP.is_ref,OP.isnot_ref⟩
theorem pIs_ok {p:P} {b:Bool} (h:pIs p=some b) {F l:Led} {x:Value} (hx:RV w F p x):NoneOP w D l x b:=by
 cases p with
 |none=>cases h;rw [hx.noneI];exact ⟨OP.is_none,OP.isnot_none⟩
 |int=>cases h;obtain ⟨_,rfl⟩:=hx.intI;exact ⟨OP.is_int,OP.isnot_int⟩
 |str=>cases h;obtain ⟨_,rfl⟩:=hx.strI;exact ⟨OP.is_str,OP.isnot_str⟩
 |bytes=>cases h;obtain ⟨_,rfl⟩:=hx.bytesI;exact ⟨OP.is_bytes,OP.isnot_bytes⟩
 |tup=>cases h;obtain ⟨_,_,rfl,_⟩:=hx.tupI;exact .ref
 |lst=>cases h;obtain ⟨_,_,_,rfl,_⟩:=hx.lstI;exact .ref
 |rng=>cases h;obtain ⟨_,_,_,_,rfl,_⟩:=hx.rngI;exact .ref
 |dct=>cases h;obtain ⟨_,_,_,rfl,_⟩:=hx.dctI;exact .ref
 |val v=>
  rw [hx.valI]
  clear hx
  cases v
  case ref=>cases h;exact .ref
  all_goals cases h
 |bool=>cases h
 |enm=>cases h
theorem pCmp_ok {op:CmpOp} {p q:P} {pl:PL} {K:KP} (h:pCmp w D op p q pl K) {F l:Led} {x y:Value} (hx:RV w F p x) (hy:RV w F q y) (hl:RS w F pl l):OP w D (compareOp op x y) l (liftK w F K):=by
 cases op
 case Is=>
  cases q
  case none=>
   replace h:(match pIs p with|some b=>K (.bool b) pl|none=>PC w D .Is p .none pl K):=h
   cases hp:pIs p with
   |none=>rw [hp] at h;exact h.go _ _ _ _ hx hy hl
   |some b=>rw [hp] at h;rw [hy.noneI];exact (pIs_ok hp hx).1 (liftK.mk .bool hl h)
  all_goals exact h.go _ _ _ _ hx hy hl
 case IsNot=>
  cases q
  case none=>
   replace h:(match pIs p with|some b=>K (.bool (!b)) pl|none=>PC w D .IsNot p .none pl K):=h
   cases hp:pIs p with
   |none=>rw [hp] at h;exact h.go _ _ _ _ hx hy hl
   |some b=>rw [hp] at h;rw [hy.noneI];exact (pIs_ok hp hx).2 (liftK.mk .bool hl h)
  all_goals exact h.go _ _ _ _ hx hy hl
 case Eq=>
  cases p
  case int=>
   cases q
   case int=>obtain ⟨_,rfl⟩:=hx.intI;obtain ⟨_,rfl⟩:=hy.intI;exact OP.eq_int (liftK.mk .bool hl h)
   all_goals exact h.go _ _ _ _ hx hy hl
  case str=>
   cases q
   case str=>obtain ⟨_,rfl⟩:=hx.strI;obtain ⟨_,rfl⟩:=hy.strI;exact OP.eq_str (liftK.mk .bool hl h)
   all_goals exact h.go _ _ _ _ hx hy hl
  all_goals exact h.go _ _ _ _ hx hy hl
 case NotEq=>
  cases p
  case int=>
   cases q
   case int=>obtain ⟨_,rfl⟩:=hx.intI;obtain ⟨_,rfl⟩:=hy.intI;exact OP.ne_int (liftK.mk .bool hl h)
   all_goals exact h.go _ _ _ _ hx hy hl
  case str=>
   cases q
   case str=>obtain ⟨_,rfl⟩:=hx.strI;obtain ⟨_,rfl⟩:=hy.strI;exact OP.ne_str (liftK.mk .bool hl h)
   all_goals exact h.go _ _ _ _ hx hy hl
  all_goals exact h.go _ _ _ _ hx hy hl
 case Lt=>
  cases p
  case int=>
   cases q
   case int=>obtain ⟨_,rfl⟩:=hx.intI;obtain ⟨_,rfl⟩:=hy.intI;exact OP.lt_int (liftK.mk .bool hl h)
   all_goals exact h.go _ _ _ _ hx hy hl
  all_goals exact h.go _ _ _ _ hx hy hl
 case Gt=>
  cases p
  case int=>
   cases q
   case int=>obtain ⟨_,rfl⟩:=hx.intI;obtain ⟨_,rfl⟩:=hy.intI;exact OP.gt_int (liftK.mk .bool hl h)
   all_goals exact h.go _ _ _ _ hx hy hl
  all_goals exact h.go _ _ _ _ hx hy hl
 case LtE=>
  cases p
  case int=>
   cases q
   case int=>obtain ⟨_,rfl⟩:=hx.intI;obtain ⟨_,rfl⟩:=hy.intI;exact OP.le_int (liftK.mk .bool hl h)
   all_goals exact h.go _ _ _ _ hx hy hl
  all_goals exact h.go _ _ _ _ hx hy hl
 case GtE=>
  cases p
  case int=>
   cases q
   case int=>obtain ⟨_,rfl⟩:=hx.intI;obtain ⟨_,rfl⟩:=hy.intI;exact OP.ge_int (liftK.mk .bool hl h)
   all_goals exact h.go _ _ _ _ hx hy hl
  all_goals exact h.go _ _ _ _ hx hy hl
 all_goals exact h.go _ _ _ _ hx hy hl
theorem pUn_ok {op:UnaryOp} {p:P} {pl:PL} {K:KP} (h:pUn w D op p pl K) {F l:Led} {x:Value} (hx:RV w F p x) (hl:RS w F pl l):OP w D (unaryOp op x) l (liftK w F K):=by
 cases op
 case USub=>cases p<;>first|exact h.go _ _ _ hx hl|(obtain ⟨_,rfl⟩:=hx.intI;exact ⟨fun zq zq zq=>EV.neg fun t=>liftK.mk .int hl h⟩)
 all_goals exact h.go _ _ _ hx hl
theorem pTruth_ok {p:P} {pl:PL} {K:KPB} (h:pTruth w D K p pl) {F l:Led} {x:Value} (hx:RV w F p x) (hl:RS w F pl l):OP w D (truthy x) l (liftB w F K):=by
 cases p with
 |bool b=>rw [hx.boolI];exact OP.truthy ⟨pl,F,hl,fun zq h=>h,h⟩
 |_=>exact h.go _ _ _ hx hl
theorem pSub_ok {p q:P} {pl:PL} {K:KP} (h:pSub w D p q pl K) {F l:Led} {x y:Value} (hx:RV w F p x) (hy:RV w F q y) (hl:RS w F pl l):OP w D (subOp x y) l (liftK w F K):=by
 cases p with
 |tup xs=>
  cases q with
  |int i=>
   obtain ⟨_,rfl⟩:=hy.intI
   replace h:(match (decide (-(2 ^ 63)≤i)&&decide (i<2 ^ 63)) with
    |true=>(match seqIndex? i xs.length with
     |some j=>(match xs[j]? with
      |some x=>K x pl
      |none=>False)
     |none=>False)
    |false=>False):=h
   cases h1:(decide (-(2 ^ 63)≤i)&&decide (i<2 ^ 63)) with
   |false=>rw [h1] at h;exact h.elim
   |true=>
    rw [h1] at h
    simp only [Bool.and_eq_true,decide_eq_true_eq] at h1
    cases h2:seqIndex? i xs.length with
    |none=>rw [h2] at h;exact h.elim
    |some j=>
     rw [h2] at h
     replace h:(match xs[j]? with|some x=>K x pl|none=>False):=h
     cases h3:xs[j]? with
     |none=>rw [h3] at h;exact h.elim
     |some z=>
      rw [h3] at h
      obtain ⟨t,us,rfl,hv,hm⟩:=hx.tupI
      obtain ⟨u,e1,e2⟩:=hv.get h3
      have T:TupL w (.ref t) us l:=by
       rcases hm with ⟨n,hm⟩|hm
       ·exact TupL.mem (hl.sub _ hm)
       ·exact TupL.top hm
      exact OP.tupItem T h1.1 h1.2 (by rw [hv.len];exact h2) e1 (liftK.mk e2 hl h)
  |_=>exact h.go _ _ _ _ hx hy hl
 |_=>exact h.go _ _ _ _ hx hy hl
theorem RS.tup {F l:Led} {pl:PL} {ps:List P} {us:List Value} {a:Addr} (h:RS w F pl l) (hp:RVs w F ps us):RV w ((a,({ cls:=.type "tuple",data:=.seq us.toArray }:Obj))::F) (.tup ps) (.ref a)∧RS w ((a,{ cls:=.type "tuple",data:=.seq us.toArray })::F) pl ((a,{ cls:=.type "tuple",data:=.seq us.toArray })::l):=
 ⟨.tup (hp.up fun zq h=>.tail _ h) (.head _),h.more⟩
theorem pTup_ok {ps:List P} {pl:PL} {K:KP} (h:pTup K ps pl) {F l:Led} {us:List Value} (hp:RVs w F ps us) (hl:RS w F pl l):kTup (liftK w F K) us l:=by
 replace h:(match Nat.ble ps.length 16777216 with|true=>K (.tup ps) pl|false=>False):=h
 cases hb:Nat.ble ps.length 16777216 with
 |false=>rw [hb] at h;exact h.elim
 |true=>
  rw [hb] at h
  refine ⟨by rw [hp.len];exact Nat.le_of_ble_eq_true hb,fun a zq=>?_⟩
  obtain ⟨h1,h2⟩:=hl.tup (a:=a) hp
  exact ⟨_,_,_,h1,h2,fun zq h=>.tail _ h,h⟩
theorem pLst_ok {ps:List P} {pl:PL} {K:KP} (h:pLst K ps pl) {F l:Led} {us:List Value} (hp:RVs w F ps us) (hl:RS w F pl l):kLst (liftK w F K) us l:=by
 replace h:(match Nat.ble ps.length 16777216 with|true=>∀ a,K (.val (.ref a)) ((a,.list ps)::pl)|false=>False):=h
 cases hb:Nat.ble ps.length 16777216 with
 |false=>rw [hb] at h;exact h.elim
 |true=>
  rw [hb] at h
  exact ⟨by rw [hp.len];exact Nat.le_of_ble_eq_true hb,fun a zq=>liftK.mk .val (hl.list hp) (h a)⟩
theorem gpv_ok {F:Led} {v:Value}:RV w F (gpv v) v:=by cases v<;>first|exact .val|exact .int|exact .str|exact .bytes
theorem capP_ok {F:Led} {vs:PVs} {rvs:Vs} (h:RVo w F vs rvs):∀ caps,RVo w F (capP vs caps) (capV rvs caps)
 |[]=>.nil
 |i::r=>by
  have ih:=capP_ok h r
  unfold capP capV at ih ⊢
  rw [List.map_cons,List.map_cons]
  cases hv:vs[i]? with
  |none=>exact .hole ih
  |some o=>
   cases o with
   |none=>exact .hole ih
   |some p=>
    obtain ⟨u,e1,e2⟩:=h.get hv
    rw [e1]
    exact .full e2 ih
theorem up2 {F F1 F2:Led} (a:∀ x∈F,x∈F1) (b:∀ x∈F1,x∈F2):∀ x∈F,x∈F2:=fun x hx=>b x (a x hx)
structure PXo (w:World) (D:Nat) (y:X):Prop where
 x:∀ {vs:PVs} {pl:PL} {K:KP},PX w D y vs pl K→∀ {F l:Led} {rvs:Vs},RVo w F vs rvs→RS w F pl l→WX w D y rvs l (liftK w F K)
 t:∀ {vs:PVs} {pl:PL} {K:KPB},PT w D y vs pl K→∀ {F l:Led} {rvs:Vs},RVo w F vs rvs→RS w F pl l→WT w D y rvs l (liftB w F K)
structure PXso (w:World) (D:Nat) (y:Xs):Prop where
 s:∀ {vs:PVs} {pl:PL} {K:KPs},PXs w D y vs pl K→∀ {F l:Led} {rvs:Vs},RVo w F vs rvs→RS w F pl l→WXs w D y rvs l (liftL w F K)
 a:∀ {vs:PVs} {pl:PL} {K:KPB},PA w D y vs pl K→∀ {F l:Led} {rvs:Vs},RVo w F vs rvs→RS w F pl l→WA w D y rvs l (liftB w F K)
 o:∀ {vs:PVs} {pl:PL} {K:KPB},PO_ w D y vs pl K→∀ {F l:Led} {rvs:Vs},RVo w F vs rvs→RS w F pl l→WO w D y rvs l (liftB w F K)
 av:∀ {vs:PVs} {pl:PL} {K:KP},PAV w D y vs pl K→∀ {F l:Led} {rvs:Vs},RVo w F vs rvs→RS w F pl l→WAV w D y rvs l (liftK w F K)
 ov:∀ {vs:PVs} {pl:PL} {K:KP},POV w D y vs pl K→∀ {F l:Led} {rvs:Vs},RVo w F vs rvs→RS w F pl l→WOV w D y rvs l (liftK w F K)
theorem p_at {F:Led} {vs:PVs} {rvs:Vs} (hv:RVo w F vs rvs) {i:Nat} {A:P→Prop} {B:Value→Prop} (h:(match vs[i]? with|some (some v)=>A v|_=>False)) (k:∀ p v,RV w F p v→A p→B v):(match rvs[i]? with|some (some v)=>B v|_=>False):=by
 cases he:vs[i]? with
 |none=>rw [he] at h;exact h.elim
 |some o=>
  rw [he] at h
  cases o with
  |none=>exact h.elim
  |some p=>
   obtain ⟨u,e1,e2⟩:=hv.get he
   rw [e1]
   exact k p u e2 h
theorem pTruthK_ok {K:KPB} {F:Led} (v:Value) (l:Led) (h:liftK w F (pTruth w D K) v l):kTruth w D (liftB w F K) v l:=by
 obtain ⟨p,pl,F1,r1,s1,u1,h⟩:=h
 exact (pTruth_ok h r1 s1).mono fun zq zq k=>k.up u1
theorem pCall1_ok {xs:Xs} (ih:PXso w D xs) {vs:PVs} {rvs:Vs} {F:Led} (hv:RVo w F vs rvs) {K:KP} (v:Value) (l:Led) (h:liftK w F (pCall1 w D (PXs w D xs vs) K) v l):kCall1 w D (WXs w D xs rvs) (liftK w F K) v l:=by
 obtain ⟨p,pl,F1,r1,s1,u1,h⟩:=h
 cases p with
 |val u=>
  rw [r1.valI]
  have fin:∀ {f:Value},(PXs w D xs vs pl fun ps pl=>PCall w D f ps pl K)→WXs w D xs rvs l (kCall2 w D f (liftK w F K)):=fun h=>WXs.mono xs (ih.s h (hv.up u1) s1) fun _ _ ⟨ps,pl,F2,r2,s2,u2,h⟩=>(h.go _ _ _ r2 s2).mono fun zq zq k=>k.up (up2 u1 u2)
  cases u with
  |ref a=>exact isFn_mono (b:=isFn a) h fin
  |builtin id=>exact fin h
  |type T=>exact fin h
  |_=>exact False.elim h
 |_=>exact False.elim h
theorem pMeth_ok {xs:Xs} (ih:PXso w D xs) {vs:PVs} {rvs:Vs} {F:Led} (hv:RVo w F vs rvs) {nm:Str} {K:KP} (v:Value) (l:Led) (h:liftK w F (fun x l=>PMe w D x nm (PXs w D xs vs) l K) v l):kMeth1 w D nm (WXs w D xs rvs) (liftK w F K) v l:=by
 obtain ⟨p,pl,F1,r1,s1,u1,h⟩:=h
 obtain ⟨f,hf,g,h⟩:=h.go
 refine (g _ _ _ r1 s1).mono fun fr l' e=>?_
 obtain ⟨rfl,rfl⟩:=e
 have fin:=WXs.mono xs (K':=kMeth3 w D f [v] (liftK w F K)) (ih.s h (hv.up u1) s1) fun _ _ ⟨ps,pl,F2,r2,s2,u2,h⟩=>(h.go _ _ _ (.cons (r1.up u2) r2) s2).mono fun zq zq k=>k.up (up2 u1 u2)
 cases f with
 |ref a=>
  show (match isFn a with|true=>WXs w D xs _ _ _|false=>False)
  rw [show isFn a=true from hf]
  exact fin
 |builtin id=>exact fin
 |_=>exact False.elim hf
theorem pIf_ok {α β:Type} {W₁ W₂:PL→α→Prop} {K:α} {R₁ R₂:Led→β→Prop} {K':β} {F:Led} (a:∀ F1 l pl,(∀ x∈F,x∈F1)→RS w F1 pl l→W₁ pl K→R₁ l K') (b:∀ F1 l pl,(∀ x∈F,x∈F1)→RS w F1 pl l→W₂ pl K→R₂ l K'):∀ (c:Bool) (l:Led),liftB w F (pIf W₁ W₂ K) c l→kIf R₁ R₂ K' c l
 |true,l,⟨pl,F1,s1,u1,h⟩=>a F1 l pl u1 s1 h
 |false,l,⟨pl,F1,s1,u1,h⟩=>b F1 l pl u1 s1 h
set_option tactic.hygienic true
mutual
theorem px_X:∀ x:X,PXo w D x
 | .k c=>⟨fun h zq zq zq zq hl=>by
     cases c
     case int=>exact fun t=>liftK.mk .int hl h
     case str=>exact fun t=>liftK.mk .str hl h
     case bytes=>exact fun t=>liftK.mk .bytes hl h
     case none=>exact liftK.mk .none hl h
     case bool=>exact liftK.mk .bool hl h
     all_goals exact False.elim h,fun h=>False.elim h⟩
 | .v i=>⟨fun {_ pl K} h {F l _} hv hl=>p_at hv (A:=fun p=>K p pl) (B:=fun v=>liftK w F K v l) h fun p v e h=>liftK.mk e hl h,fun {_ pl K} h {F l _} hv hl=>p_at hv (A:=fun p=>pTruth w D K p pl) (B:=fun v=>OP w D (truthy v) l (liftB w F K)) h fun p v e h=>pTruth_ok h e hl⟩
 | .g v=>⟨fun h zq zq zq zq hl=>liftK.mk gpv_ok hl h,fun h=>False.elim h⟩
 | .bin op a b=>⟨fun h zq zq zq hv hl=>WX.mono a ((px_X a).x h hv hl) fun _ _ ⟨p,pl,F1,r1,s1,u1,h⟩=>WX.mono b ((px_X b).x h (hv.up u1) s1) fun _ _ ⟨q,pl,F2,r2,s2,u2,h⟩=>(pBin_ok h (r1.up u2) r2 s2).mono fun zq zq k=>k.up (up2 u1 u2),fun h=>False.elim h⟩
 | .cmp op a b=>⟨fun h zq zq zq hv hl=>WX.mono a ((px_X a).x h hv hl) fun _ _ ⟨p,pl,F1,r1,s1,u1,h⟩=>WX.mono b ((px_X b).x h (hv.up u1) s1) fun _ _ ⟨q,pl,F2,r2,s2,u2,h⟩=>(pCmp_ok h (r1.up u2) r2 s2).mono fun zq zq k=>k.up (up2 u1 u2),
     fun h zq zq zq hv hl=>WX.mono a ((px_X a).x h hv hl) fun _ _ ⟨p,pl,F1,r1,s1,u1,h⟩=>WX.mono b ((px_X b).x h (hv.up u1) s1) fun _ _ ⟨q,pl,F2,r2,s2,u2,h⟩=>(pCmp_ok h (r1.up u2) r2 s2).mono fun v l k=>pTruthK_ok v l (k.up (up2 u1 u2))⟩
 | .un op a=>⟨fun h zq zq zq hv hl=>WX.mono a ((px_X a).x h hv hl) fun _ _ ⟨p,pl,F1,r1,s1,u1,h⟩=>(pUn_ok h r1 s1).mono fun zq zq k=>k.up u1,fun h zq zq zq hv hl=>by
     cases op
     case Not=>exact WT.mono a ((px_X a).t h hv hl) fun _ _ ⟨pl,F1,s1,u1,h⟩=>⟨pl,F1,s1,u1,h⟩
     all_goals exact False.elim h⟩
 | .ife t a b=>⟨fun h zq zq zq hv hl=>WT.mono t ((px_X t).t h hv hl) (pIf_ok (fun F1 l pl u1 s1 h=>WX.mono a ((px_X a).x h (hv.up u1) s1) fun zq zq k=>k.up u1) (fun F1 l pl u1 s1 h=>WX.mono b ((px_X b).x h (hv.up u1) s1) fun zq zq k=>k.up u1)),fun h=>False.elim h⟩
 | .bool op xs=>⟨fun h zq zq zq hv hl=>by
     cases op
     ·exact (px_Xs xs).av h hv hl
     ·exact (px_Xs xs).ov h hv hl,fun h zq zq zq hv hl=>by
     cases op
     ·exact (px_Xs xs).a h hv hl
     ·exact (px_Xs xs).o h hv hl⟩
 | .tup xs=>⟨fun h zq zq zq hv hl=>WXs.mono xs ((px_Xs xs).s h hv hl) fun _ _ ⟨p,pl,F1,r1,s1,u1,h⟩=>⟨(pTup_ok h r1 s1).1,fun a ha=>((pTup_ok h r1 s1).2 a ha).up u1⟩,fun h=>False.elim h⟩
 | .lst xs=>⟨fun h zq zq zq hv hl=>WXs.mono xs ((px_Xs xs).s h hv hl) fun _ _ ⟨p,pl,F1,r1,s1,u1,h⟩=>⟨(pLst_ok h r1 s1).1,fun a ha=>((pLst_ok h r1 s1).2 a ha).up u1⟩,fun h=>False.elim h⟩
 | .call f xs=>⟨fun h zq zq zq hv hl=>WX.mono f ((px_X f).x h hv hl) (pCall1_ok (px_Xs xs) hv),fun {vs pl K} h F l rvs hv hl=>WX.mono f ((px_X f).x h hv hl) fun v l h=>kCall1_mono (mono_Xs xs) (K':=kTruth w D (liftB w F K)) (pTruthK_ok (K:=K)) v l (pCall1_ok (px_Xs xs) hv v l h)⟩
 | .sub a b=>⟨fun h zq zq zq hv hl=>WX.mono a ((px_X a).x h hv hl) fun _ _ ⟨p,pl,F1,r1,s1,u1,h⟩=>WX.mono b ((px_X b).x h (hv.up u1) s1) fun _ _ ⟨q,pl,F2,r2,s2,u2,h⟩=>(pSub_ok h (r1.up u2) r2 s2).mono fun zq zq k=>k.up (up2 u1 u2),
     fun h zq zq zq hv hl=>WX.mono a ((px_X a).x h hv hl) fun _ _ ⟨p,pl,F1,r1,s1,u1,h⟩=>WX.mono b ((px_X b).x h (hv.up u1) s1) fun _ _ ⟨q,pl,F2,r2,s2,u2,h⟩=>(pSub_ok h (r1.up u2) r2 s2).mono fun v l k=>pTruthK_ok v l (k.up (up2 u1 u2))⟩
 | .slc o a b=>⟨fun h zq zq zq hv hl=>WX.mono o ((px_X o).x h hv hl) fun _ _ ⟨p,pl,F1,r1,s1,u1,h⟩=>WX.mono a ((px_X a).x h (hv.up u1) s1) fun _ _ ⟨q,pl,F2,r2,s2,u2,h⟩=>WX.mono b ((px_X b).x h ((hv.up u1).up u2) s2) fun _ _ ⟨r,pl,F3,r3,s3,u3,h⟩=>
   (h.go _ _ _ _ _ ((r1.up u2).up u3) (r2.up u3) r3 s3).mono fun zq zq k=>k.up (up2 u1 (up2 u2 u3)),fun h=>False.elim h⟩
 | .stp o c=>⟨fun h zq zq zq hv hl=>WX.mono o ((px_X o).x h hv hl) fun _ _ ⟨p,pl,F1,r1,s1,u1,h⟩=>WX.mono c ((px_X c).x h (hv.up u1) s1) fun _ _ ⟨q,pl,F2,r2,s2,u2,h⟩=>STP.mono (h.go _ _ _ _ (r1.up u2) r2 s2) fun zq zq k=>k.up (up2 u1 u2),fun h=>False.elim h⟩
 | .meth o nm xs=>⟨fun h zq zq zq hv hl=>WX.mono o ((px_X o).x h hv hl) (pMeth_ok (px_Xs xs) hv),fun {vs pl K} h F l rvs hv hl=>WX.mono o ((px_X o).x h hv hl) fun v l h=>GM.mono (pMeth_ok (px_Xs xs) hv v l h) (kMeth2_mono (mono_Xs xs) (K':=kTruth w D (liftB w F K)) (pTruthK_ok (K:=K)))⟩
 | .attr o nm=>⟨fun h zq zq zq hv hl=>WX.mono o ((px_X o).x h hv hl) fun _ _ ⟨p,pl,F1,r1,s1,u1,h⟩=>(h.go _ _ _ r1 s1).mono fun zq zq k=>k.up u1,fun h=>False.elim h⟩
 | .comp elt src caps=>⟨fun h zq zq zq hv hl=>WX.mono src ((px_X src).x h hv hl) fun _ _ ⟨p,pl,F1,r1,s1,u1,h⟩=>(h.go _ _ _ _ r1 (capP_ok (hv.up u1) caps) s1).mono fun zq zq k=>k.up u1,fun h=>False.elim h⟩
 | .comp4 elt src caps=>⟨fun h zq zq zq hv hl=>WX.mono src ((px_X src).x h hv hl) fun _ _ ⟨p,pl,F1,r1,s1,u1,h⟩=>(h.go _ _ _ _ r1 (capP_ok (hv.up u1) caps) s1).mono fun zq zq k=>k.up u1,fun h=>False.elim h⟩
 | .dcomp kx vx src caps=>⟨fun h zq zq zq hv hl=>WX.mono src ((px_X src).x h hv hl) fun _ _ ⟨p,pl,F1,r1,s1,u1,h⟩=>(h.go _ _ _ _ r1 (capP_ok (hv.up u1) caps) s1).mono fun zq zq k=>k.up u1,fun h=>False.elim h⟩
 | .raw e=>⟨fun h zq zq zq zq hl=>h.go _ _ hl,fun h=>False.elim h⟩
 | .cmp2 o₁ o₂ a b c=>⟨fun h=>False.elim h,fun h zq zq zq hv hl=>WX.mono a ((px_X a).x h hv hl) fun _ _ ⟨p,pl,F1,r1,s1,u1,h⟩=>WX.mono b ((px_X b).x h (hv.up u1) s1) fun _ _ ⟨q,pl,F2,r2,s2,u2,h⟩=>(pCmp_ok h (r1.up u2) r2 s2).mono fun v l k=>
     (pTruthK_ok v l k).mono fun t l ⟨pl,F3,s3,u3,h⟩=>by
       cases t
       ·exact ⟨pl,F3,s3,up2 u1 (up2 u2 u3),h⟩
       ·exact WX.mono c ((px_X c).x h (hv.up (up2 u1 (up2 u2 u3))) s3) fun _ _ ⟨r,pl,F4,r4,s4,u4,h⟩=>(pCmp_ok h (r2.up (up2 u3 u4)) r4 s4).mono fun v l k=>pTruthK_ok v l (k.up (up2 u1 (up2 u2 (up2 u3 u4))))⟩
 | .bad=>⟨fun h=>False.elim h,fun h=>False.elim h⟩
termination_by structural x=>x
theorem px_Xs:∀ x:Xs,PXso w D x
 | .nil=>⟨fun h zq zq zq zq hl=>⟨[],_,_,.nil,hl,fun zq h=>h,h⟩,fun h zq zq zq zq hl=>⟨_,_,hl,fun zq h=>h,h⟩,fun h zq zq zq zq hl=>⟨_,_,hl,fun zq h=>h,h⟩,fun h=>False.elim h,fun h=>False.elim h⟩
 | .cons x xs=>⟨fun h zq zq zq hv hl=>WX.mono x ((px_X x).x h hv hl) fun _ _ ⟨p,pl,F1,r1,s1,u1,h⟩=>WXs.mono xs ((px_Xs xs).s h (hv.up u1) s1) fun _ _ ⟨ps,pl,F2,r2,s2,u2,h⟩=>⟨p::ps,pl,F2,.cons (r1.up u2) r2,s2,up2 u1 u2,h⟩,
   fun h zq zq zq hv hl=>WT.mono x ((px_X x).t h hv hl) fun c _ ⟨pl,F1,s1,u1,h⟩=>by
    cases c
    ·exact ⟨pl,F1,s1,u1,h⟩
    ·exact WA.mono xs ((px_Xs xs).a h (hv.up u1) s1) fun zq zq k=>k.up u1,
   fun h zq zq zq hv hl=>WT.mono x ((px_X x).t h hv hl) fun c _ ⟨pl,F1,s1,u1,h⟩=>by
    cases c
    ·exact WO.mono xs ((px_Xs xs).o h (hv.up u1) s1) fun zq zq k=>k.up u1
    ·exact ⟨pl,F1,s1,u1,h⟩,
   fun {vs pl K} h F l rvs hv hl=>by
    have ih:=px_Xs xs
    have ix:=px_X x
    cases xs with
    |nil=>exact ix.x h hv hl
    |cons y ys=>
     refine WX.mono x (K':=kAndV w D (WAV w D (.cons y ys) rvs) (liftK w F K)) (ix.x h hv hl) fun v l ⟨p,pl,F1,r1,s1,u1,h⟩=>(pTruth_ok h r1 s1).mono fun c _ ⟨pl,F2,s2,u2,h⟩=>?_
     cases c
     ·exact ⟨p,pl,F2,r1.up u2,s2,up2 u1 u2,h⟩
     ·exact WAV.mono (.cons y ys) (ih.av h ((hv.up u1).up u2) s2) fun zq zq k=>k.up (up2 u1 u2),
   fun {vs pl K} h F l rvs hv hl=>by
    have ih:=px_Xs xs
    have ix:=px_X x
    cases xs with
    |nil=>exact ix.x h hv hl
    |cons y ys=>
     refine WX.mono x (K':=kOrV w D (WOV w D (.cons y ys) rvs) (liftK w F K)) (ix.x h hv hl) fun v l ⟨p,pl,F1,r1,s1,u1,h⟩=>(pTruth_ok h r1 s1).mono fun c _ ⟨pl,F2,s2,u2,h⟩=>?_
     cases c
     ·exact WOV.mono (.cons y ys) (ih.ov h ((hv.up u1).up u2) s2) fun zq zq k=>k.up (up2 u1 u2)
     ·exact ⟨p,pl,F2,r1.up u2,s2,up2 u1 u2,h⟩⟩
termination_by structural x=>x
end
set_option tactic.hygienic false
theorem px_ok (x:X) {vs:PVs} {pl:PL} {K:KP} (h:PX w D x vs pl K) {F l:Led} {rvs:Vs} (hv:RVo w F vs rvs) (hl:RS w F pl l):WX w D x rvs l (liftK w F K):=(px_X x).x h hv hl
theorem pt_ok (x:X) {vs:PVs} {pl:PL} {K:KPB} (h:PT w D x vs pl K) {F l:Led} {rvs:Vs} (hv:RVo w F vs rvs) (hl:RS w F pl l):WT w D x rvs l (liftB w F K):=(px_X x).t h hv hl
set_option tactic.hygienic true
end
end
section
inductive PF where
 |next
 |brk
 |cont
 |ret (p:P)
inductive RFl (w:World) (F:Led):PF→Flow→Prop
 |next:RFl w F .next .next
 |brk:RFl w F .brk .brk
 |cont:RFl w F .cont .cont
 |ret {p:P} {v:Value}:RV w F p v→RFl w F (.ret p) (.ret v)
set_option tactic.hygienic false
noncomputable abbrev KPF:=PF→PVs→PL→Prop
inductive liftF (w:World) (F₀:Led) (K:KPF) (f:Flow) (rvs:Vs) (l:Led):Prop
 |of (pf:PF) (vs:PVs) (pl:PL) (F:Led) (a:RFl w F pf f) (v:RVo w F vs rvs) (b:RS w F pl l) (u:∀ x∈F₀,x∈F) (k:K pf vs pl)
theorem liftF.up {w:World} {F₀ F₁:Led} {K:KPF} {f:Flow} {rvs:Vs} {l:Led} (h:∀ x∈F₀,x∈F₁) (k:liftF w F₁ K f rvs l):liftF w F₀ K f rvs l:=by
 obtain ⟨pf,vs,pl,F,a,b,c,d,e⟩:=k
 exact ⟨pf,vs,pl,F,a,b,c,fun x hx=>d x (h x hx),e⟩
noncomputable def pSetAll:List Nat→List P→PVs→(PVs→Prop)→Prop
 |[],[],vs,K=>K vs
 |i::is,v::r,vs,K=>match vs[i]? with
  |some _=>pSetAll is r (vs.set i (some v)) K
  |none=>False
 |_,_,_,_=>False
noncomputable def pTg:Tg→P→PVs→(PVs→Prop)→Prop
 | .n i,p,vs,K=>match vs[i]? with
   |some _=>K (vs.set i (some p))
   |none=>False
 | .t is,p,vs,K=>match p with
   | .tup ps=>pSetAll is ps vs K
   |_=>False
structure PUn (w:World) (D:Nat) (p:P) (n:Nat) (pl:PL) (K:KPs):Prop where
 go:∀ F l x,RV w F p x→RS w F pl l→UNP w D x n l (liftL w F K)
inductive liftP (w:World) (F:Led) (K:PL→Prop) (l:Led):Prop
 |mk (pl:PL) (F':Led) (a:RS w F' pl l) (u:∀ x∈F,x∈F') (k:K pl)
structure PPut (w:World) (D:Nat) (o i v:P) (pl:PL) (K:PL→Prop):Prop where
 go:∀ F l x y z,RV w F o x→RV w F i y→RV w F v z→RS w F pl l→OP w D (setItem x y z) l fun zq l'=>liftP w F K l'
structure PSt (w:World) (D:Nat) (o:P) (nm:Str) (v:P) (pl:PL) (K:PL→Prop):Prop where
 go:∀ F l x z,RV w F o x→RV w F v z→RS w F pl l→OP w D (setAttr x nm z) l fun zq l'=>liftP w F K l'
structure PFr (w:World) (I:Fi) (tg:Tg) (body:Ss) (p:P) (vs:PVs) (pl:PL) (K:KPF):Prop where
 go:∀ F l x rvs,RV w F p x→RVo w F vs rvs→RS w F pl l→FORs w I tg body x rvs l (liftF w F K)
structure PWh (w:World) (I:Fi) (t:X) (body:Ss) (vs:PVs) (pl:PL) (K:KPF):Prop where
 go:∀ F l rvs,RVo w F vs rvs→RS w F pl l→WHLs w I t body rvs l (liftF w F K)
noncomputable def pAsg (i:Nat) (vs:PVs) (K:KPF):KP:=fun p pl=>match vs[i]? with
 |some _=>K .next (vs.set i (some p)) pl
 |none=>False
noncomputable def pAsgT (w:World) (D:Nat) (is:List Nat) (vs:PVs) (K:KPF):KP:=fun p pl=>match p with
 | .tup ps=>pSetAll is ps vs fun vs=>K .next vs pl
 |p=>PUn w D p is.length pl fun ps pl=>pSetAll is ps vs fun vs=>K .next vs pl
noncomputable def pAsgS (is:List Nat) (vs:PVs) (K:KPF):KP:=fun p pl=>match p with
 | .tup ps=>(match Nat.beq ps.length is.length with
   |true=>pSetAll is.reverse ps.reverse vs fun vs=>K .next vs pl
   |false=>False)
 |_=>False
set_option tactic.hygienic true
noncomputable def pSeq (W:PVs→PL→KPF→Prop) (K:KPF):KPF:=fun f vs pl=>match f with
 | .next=>W vs pl K
 |f=>K f vs pl
mutual
noncomputable def PS (w:World) (I:Fi):S→PVs→PL→KPF→Prop
 | .ret x,vs,l,K=>PX w I.D x vs l fun p l=>K (.ret p) vs l
 | .retN,vs,l,K=>K (.ret .none) vs l
 | .asg i x,vs,l,K=>PX w I.D x vs l (pAsg i vs K)
 | .asgT is x,vs,l,K=>PX w I.D x vs l (pAsgT w I.D is vs K)
 | .asgS is x,vs,l,K=>PX w I.D x vs l (pAsgS is vs K)
 | .asgC i elt src caps,vs,l,K=>PX w I.D (.comp elt src caps) vs l (pAsg i vs K)
 | .asgI o i x,vs,l,K=>PX w I.D x vs l fun v l=>PX w I.D o vs l fun o l=>PX w I.D i vs l fun i l=>PPut w I.D o i v l fun l=>K .next vs l
 | .asgA o nm x,vs,l,K=>PX w I.D x vs l fun v l=>PX w I.D o vs l fun o l=>PSt w I.D o nm v l fun l=>K .next vs l
 | .ife t a b,vs,l,K=>PT w I.D t vs l (pIf (PSs w I a vs) (PSs w I b vs) K)
 | .for_ tg it body,vs,l,K=>PX w I.D it vs l fun p l=>PFr w I tg body p vs l K
 | .whl t body,vs,l,K=>PWh w I t body vs l K
 | .try_ body,vs,l,K=>PSs w I body vs l K
 | .ex x,vs,l,K=>PX w I.D x vs l fun zq l=>K .next vs l
 | .bad,_,_,_=>False
noncomputable def PSs (w:World) (I:Fi):Ss→PVs→PL→KPF→Prop
 | .nil,vs,l,K=>K .next vs l
 | .cons s r,vs,l,K=>PS w I s vs l (pSeq (PSs w I r) K)
end
section
variable {w:World} {I:Fi}
set_option tactic.hygienic false
theorem FORs.mono {tg:Tg} {b:Ss} {v:Value} {vs:Vs} {l:Led} {K K':KF} (h:FORs w I tg b v vs l K) (k:∀ f vs l,K f vs l→K' f vs l):FORs w I tg b v vs l K':=⟨fun C F tgt body n a e s Q S q=>h.go C F tgt body n a e s Q S fun f vs' l' h' tk' kv S'=>q f vs' l' h' tk' (k _ _ _ kv) S'⟩
theorem WHLs.mono {t:X} {b:Ss} {vs:Vs} {l:Led} {K K':KF} (h:WHLs w I t b vs l K) (k:∀ f vs l,K f vs l→K' f vs l):WHLs w I t b vs l K':=⟨fun C F test body n p a e s Q S q=>h.go C F test body n p a e s Q S fun f vs' l' h' tk' kv S'=>q f vs' l' h' tk' (k _ _ _ kv) S'⟩
theorem UNP.mono {D n:Nat} {v:Value} {l:Led} {K K':List Value→Led→Prop} (h:UNP w D v n l K) (k:∀ us l,K us l→K' us l):UNP w D v n l K':=⟨fun C m hD elts kk pos env s Q S a b q=>h.go C m hD elts kk pos env s Q S a b fun us l' h' ku e S'=>q us l' h' (k _ _ ku) e S'⟩
theorem setAll_mono:∀ {is:List Nat} {us:List Value} {vs:Vs} {P P':Vs→Prop},setAll is us vs P→(∀ vs,P vs→P' vs)→setAll is us vs P'
 |[],[],_,_,_,h,k=>k _ h
 |[],_::_,_,_,_,h,_=>h.elim
 |_::_,[],_,_,_,h,_=>h.elim
 |i::is,u::us,vs,P,P',h,k=>by
  show (match vs[i]? with|some _=>setAll is us (vs.set i (some u)) P'|none=>False)
  replace h:(match vs[i]? with|some _=>setAll is us (vs.set i (some u)) P|none=>False):=h
  cases ho:vs[i]? with
  |none=>rw [ho] at h;exact h.elim
  |some o=>rw [ho] at h;exact setAll_mono h k
set_option tactic.hygienic true
theorem kAsg_mono {i:Nat} {vs:Vs} {K K':KF} (k:∀ f vs l,K f vs l→K' f vs l) (v:Value) (l:Led) (h:kAsg i vs K v l):kAsg i vs K' v l:=by
 show (match vs[i]? with|some _=>K' .next (vs.set i (some v)) l|none=>False)
 replace h:(match vs[i]? with|some _=>K .next (vs.set i (some v)) l|none=>False):=h
 cases ho:vs[i]? with
 |none=>rw [ho] at h;exact h.elim
 |some o=>rw [ho] at h;exact k _ _ _ h
mutual
theorem WS.mono:∀ (s:S) {vs:Vs} {l:Led} {K K':KF},WS w I s vs l K→(∀ f vs l,K f vs l→K' f vs l)→WS w I s vs l K'
 | .ret x,_,_,_,_,h,k=>WX.mono x h fun zq zq h=>k _ _ _ h
 | .retN,_,_,_,_,h,k=>k _ _ _ h
 | .asg i x,_,_,_,_,h,k=>WX.mono x h (kAsg_mono k)
 | .asgT is x,_,_,_,_,h,k=>WX.mono x h fun zq zq h=>UNP.mono h fun zq zq h=>setAll_mono h fun zq h=>k _ _ _ h
 | .asgS is x,_,_,_,_,h,k=>WX.mono x h fun _ _ ⟨items,T,e,h⟩=>⟨items,T,e,setAll_mono h fun zq h=>k _ _ _ h⟩
 | .asgC i elt src caps,_,_,_,_,h,k=>WX.mono (.comp elt src caps) h (kAsg_mono k)
 | .asgI o i x,_,_,_,_,h,k=>WX.mono x h fun zq zq h=>WX.mono o h fun zq zq h=>WX.mono i h fun zq zq h=>OP.mono h fun zq zq h=>k _ _ _ h
 | .asgA o nm x,_,_,_,_,h,k=>WX.mono x h fun zq zq h=>WX.mono o h fun zq zq h=>OP.mono h fun zq zq h=>k _ _ _ h
 | .ife t a b,_,_,_,_,h,k=>WT.mono t h fun c zq h=>by
   cases c
   ·exact WSs.mono b h k
   ·exact WSs.mono a h k
 | .for_ tg it body,_,_,_,_,h,k=>WX.mono it h fun zq zq h=>FORs.mono h k
 | .whl t body,_,_,_,_,h,k=>WHLs.mono h k
 | .try_ body,_,_,_,_,h,k=>WSs.mono body h k
 | .ex x,_,_,_,_,h,k=>WX.mono x h fun zq zq h=>k _ _ _ h
 | .bad,_,_,_,_,h,_=>h.elim
theorem WSs.mono:∀ (s:Ss) {vs:Vs} {l:Led} {K K':KF},WSs w I s vs l K→(∀ f vs l,K f vs l→K' f vs l)→WSs w I s vs l K'
 | .nil,_,_,_,_,h,k=>k _ _ _ h
 | .cons s r,_,_,_,_,h,k=>WS.mono s h fun f zq zq h=>by
   cases f
   ·exact WSs.mono r h k
   all_goals exact k _ _ _ h
end
set_option tactic.hygienic false
theorem pSetAll_ok {F:Led}:∀ {is:List Nat} {ps:List P} {vs:PVs} {K:PVs→Prop},pSetAll is ps vs K→∀ {us:List Value} {rvs:Vs},RVs w F ps us→RVo w F vs rvs→setAll is us rvs fun rvs'=>∃ vs',RVo w F vs' rvs'∧K vs'
 |[],[],vs,K,h,_,_,.nil,hv=>⟨vs,hv,h⟩
 |[],_::_,_,_,h,_,_,_,_=>h.elim
 |_::_,[],_,_,h,_,_,_,_=>h.elim
 |i::is,p::ps,vs,K,h,_,rvs,.cons (v:=u) (vs:=us) hu hus,hv=>by
  show (match rvs[i]? with|some _=>setAll is us (rvs.set i (some u)) _|none=>False)
  replace h:(match vs[i]? with|some _=>pSetAll is ps (vs.set i (some p)) K|none=>False):=h
  cases ho:vs[i]? with
  |none=>rw [ho] at h;exact h.elim
  |some o=>
   rw [ho] at h
   obtain ⟨z,hz⟩:=hv.has ho
   rw [hz]
   exact pSetAll_ok h hus (hv.set i hu)
theorem pSetAll_len:∀ {is:List Nat} {ps:List P} {vs:PVs} {K:PVs→Prop},pSetAll is ps vs K→ps.length=is.length
 |[],[],_,_,_=>rfl
 |[],_::_,_,_,h=>h.elim
 |_::_,[],_,_,h=>h.elim
 |i::is,p::ps,vs,K,h=>by
  replace h:(match vs[i]? with|some _=>pSetAll is ps (vs.set i (some p)) K|none=>False):=h
  cases ho:vs[i]? with
  |none=>rw [ho] at h;exact h.elim
  |some o=>rw [ho] at h;rw [List.length_cons,List.length_cons,pSetAll_len h]
theorem RVs.rev {F:Led} {p:List P}:∀ {v:List Value},RVs w F p v→RVs w F p.reverse v.reverse:=by
 induction p with
 |nil=>intro v h;rw [h.nil_inv];exact .nil
 |cons x p ih=>intro v h;obtain ⟨u,us,rfl,k0,k⟩:=h.cons_inv;rw [List.reverse_cons,List.reverse_cons];exact (ih k).app (.cons k0 .nil)
theorem RV.tupL {F l:Led} {ps:List P} {v:Value} (h:RV w F (.tup ps) v) (hF:∀ x∈F,x∈l):∃ us,TupL w v us l∧RVs w F ps us:=by
 obtain ⟨t,us,rfl,r,m⟩:=h.tupI
 rcases m with ⟨n,m⟩|m
 ·exact ⟨us,TupL.mem (hF _ m),r⟩
 ·exact ⟨us,TupL.top m,r⟩
set_option tactic.hygienic true
theorem pAsg_ok {i:Nat} {vs:PVs} {K:KPF} {F₀ F:Led} {p:P} {pl:PL} (h:pAsg i vs K p pl) {v:Value} {l:Led} {rvs:Vs} (hp:RV w F p v) (hv:RVo w F vs rvs) (hl:RS w F pl l) (u:∀ x∈F₀,x∈F):kAsg i rvs (liftF w F₀ K) v l:=by
 show (match rvs[i]? with|some _=>liftF w F₀ K .next (rvs.set i (some v)) l|none=>False)
 replace h:(match vs[i]? with|some _=>K .next (vs.set i (some p)) pl|none=>False):=h
 cases ho:vs[i]? with
 |none=>rw [ho] at h;exact h.elim
 |some o=>
  rw [ho] at h
  obtain ⟨z,hz⟩:=hv.has ho
  rw [hz]
  exact ⟨.next,_,pl,F,.next,hv.set i hp,hl,u,h⟩
mutual
theorem ps_ok:∀ (s:S) {vs:PVs} {pl:PL} {K:KPF},PS w I s vs pl K→∀ {F l:Led} {rvs:Vs},RVo w F vs rvs→RS w F pl l→WS w I s rvs l (liftF w F K)
 | .ret x,_,_,_,h,_,_,_,hv,hl=>WX.mono x (px_ok x h hv hl) fun _ _ ⟨p,pl,F1,r1,s1,u1,h⟩=>⟨.ret p,_,pl,F1,.ret r1,hv.up u1,s1,u1,h⟩
 | .retN,_,pl,_,h,F,_,_,hv,hl=>⟨.ret .none,_,pl,F,.ret .none,hv,hl,fun zq h=>h,h⟩
 | .asg i x,_,_,_,h,_,_,_,hv,hl=>WX.mono x (px_ok x h hv hl) fun _ _ ⟨p,pl,F1,r1,s1,u1,h⟩=>pAsg_ok h r1 (hv.up u1) s1 u1
 | .asgT is x,vs,_,K,h,_,_,_,hv,hl=>WX.mono x (px_ok x h hv hl) fun _ _ ⟨p,pl,F1,r1,s1,u1,h⟩=>by
   cases p with
   |tup ps=>
    obtain ⟨us,T,hu⟩:=r1.tupL s1.sub
    replace h:pSetAll is ps vs fun vs=>K .next vs pl:=h
    exact UNP.tuple T (by rw [hu.len];exact pSetAll_len h) (setAll_mono (pSetAll_ok h hu (hv.up u1)) fun rvs' ⟨vs',k1,k2⟩=>⟨.next,vs',pl,F1,.next,k1,s1,u1,k2⟩)
   |_=>exact (PUn.go h _ _ _ r1 s1).mono fun us l' ⟨ps,pl,F2,r2,s2,u2,h⟩=>setAll_mono (pSetAll_ok h r2 (hv.up (up2 u1 u2))) fun rvs' ⟨vs',k1,k2⟩=>⟨.next,vs',pl,F2,.next,k1,s2,up2 u1 u2,k2⟩
 | .asgS is x,vs,_,K,h,_,_,_,hv,hl=>WX.mono x (px_ok x h hv hl) fun _ _ ⟨p,pl,F1,r1,s1,u1,h⟩=>by
   cases p with
   |tup ps=>
    obtain ⟨us,T,hu⟩:=r1.tupL s1.sub
    replace h:(match Nat.beq ps.length is.length with|true=>pSetAll is.reverse ps.reverse vs fun vs=>K .next vs pl|false=>False):=h
    cases hb:Nat.beq ps.length is.length with
    |false=>rw [hb] at h;exact h.elim
    |true=>
     rw [hb] at h
     exact ⟨us,T,by rw [hu.len];exact Nat.eq_of_beq_eq_true hb,setAll_mono (pSetAll_ok h hu.rev (hv.up u1)) fun rvs' ⟨vs',k1,k2⟩=>⟨.next,vs',pl,F1,.next,k1,s1,u1,k2⟩⟩
   |_=>exact False.elim h
 | .asgC i elt src caps,_,_,_,h,_,_,_,hv,hl=>WX.mono (.comp elt src caps) (px_ok (.comp elt src caps) h hv hl) fun _ _ ⟨p,pl,F1,r1,s1,u1,h⟩=>pAsg_ok h r1 (hv.up u1) s1 u1
 | .asgI o i x,_,_,_,h,_,_,_,hv,hl=>WX.mono x (px_ok x h hv hl) fun _ _ ⟨p,pl,F1,r1,s1,u1,h⟩=>WX.mono o (px_ok o h (hv.up u1) s1) fun _ _ ⟨q,pl,F2,r2,s2,u2,h⟩=>WX.mono i (px_ok i h (hv.up (up2 u1 u2)) s2) fun _ _ ⟨r,pl,F3,r3,s3,u3,h⟩=>
   (h.go _ _ _ _ _ (r2.up u3) r3 (r1.up (up2 u2 u3)) s3).mono fun _ _ ⟨pl,F4,s4,u4,h⟩=>⟨.next,_,pl,F4,.next,hv.up (up2 u1 (up2 u2 (up2 u3 u4))),s4,up2 u1 (up2 u2 (up2 u3 u4)),h⟩
 | .asgA o nm x,_,_,_,h,_,_,_,hv,hl=>WX.mono x (px_ok x h hv hl) fun _ _ ⟨p,pl,F1,r1,s1,u1,h⟩=>WX.mono o (px_ok o h (hv.up u1) s1) fun _ _ ⟨q,pl,F2,r2,s2,u2,h⟩=>
   (h.go _ _ _ _ r2 (r1.up u2) s2).mono fun _ _ ⟨pl,F4,s4,u4,h⟩=>⟨.next,_,pl,F4,.next,hv.up (up2 u1 (up2 u2 u4)),s4,up2 u1 (up2 u2 u4),h⟩
 | .ife t a b,_,_,_,h,_,_,_,hv,hl=>WT.mono t (pt_ok t h hv hl) fun c _ ⟨pl,F1,s1,u1,h⟩=>by
   cases c
   ·exact WSs.mono b (pss_ok b h (hv.up u1) s1) fun zq zq zq k=>k.up u1
   ·exact WSs.mono a (pss_ok a h (hv.up u1) s1) fun zq zq zq k=>k.up u1
 | .for_ tg it body,_,_,_,h,_,_,_,hv,hl=>WX.mono it (px_ok it h hv hl) fun _ _ ⟨p,pl,F1,r1,s1,u1,h⟩=>(h.go _ _ _ _ r1 (hv.up u1) s1).mono fun zq zq zq k=>k.up u1
 | .whl t body,_,_,_,h,_,_,_,hv,hl=>h.go _ _ _ hv hl
 | .try_ body,_,_,_,h,_,_,_,hv,hl=>pss_ok body h hv hl
 | .ex x,_,_,_,h,_,_,_,hv,hl=>WX.mono x (px_ok x h hv hl) fun _ _ ⟨p,pl,F1,r1,s1,u1,h⟩=>⟨.next,_,pl,F1,.next,hv.up u1,s1,u1,h⟩
 | .bad,_,_,_,h,_,_,_,_,_=>h.elim
theorem pss_ok:∀ (s:Ss) {vs:PVs} {pl:PL} {K:KPF},PSs w I s vs pl K→∀ {F l:Led} {rvs:Vs},RVo w F vs rvs→RS w F pl l→WSs w I s rvs l (liftF w F K)
 | .nil,_,pl,_,h,F,_,_,hv,hl=>⟨.next,_,pl,F,.next,hv,hl,fun zq h=>h,h⟩
 | .cons s r,_,_,_,h,_,_,_,hv,hl=>WS.mono s (ps_ok s h hv hl) fun f _ _ ⟨pf,vs,pl,F1,rf,rv,s1,u1,h⟩=>by
   cases rf with
   |next=>exact WSs.mono r (pss_ok r h rv s1) fun zq zq zq k=>k.up u1
   |brk=>exact ⟨_,vs,pl,F1,.brk,rv,s1,u1,h⟩
   |cont=>exact ⟨_,vs,pl,F1,.cont,rv,s1,u1,h⟩
   |ret e=>exact ⟨_,vs,pl,F1,.ret e,rv,s1,u1,h⟩
end
end
end
section
set_option tactic.hygienic false
noncomputable def PSubP (a l:PL):Prop:=∃ r,List.Perm (a++r) l
theorem PSubP.refl {l:PL}:PSubP l l:=⟨[],by rw [List.append_nil]⟩
theorem PSubP.nil {l:PL}:PSubP [] l:=⟨l,.refl _⟩
inductive SbI (J:PL→Prop) (pl:PL):Prop
 |mk (pl₀:PL) (s:PSubP pl₀ pl) (k:J pl₀)
theorem PSubP.right {a r:PL}:PSubP a (r++a):=⟨r,List.perm_append_comm⟩
theorem PSubP.take {a:Addr×PO} {l pre post:PL} (h:PSubP l (pre++post)):PSubP (a::l) (pre++a::post):=by obtain ⟨r,h⟩:=h;exact ⟨r,(List.Perm.cons a h).trans List.perm_middle.symm⟩
set_option tactic.hygienic true
section
variable {w:World} {I:Fi} {D:Nat}
set_option tactic.hygienic false
theorem RS.cut {F:Led} {a pl:PL} {l:Led} (h:RS w F pl l) (p:PSubP a pl):∃ l₀,SubP l₀ l∧RS w F a l₀:=by
 obtain ⟨r,p⟩:=p
 obtain ⟨core,k,q⟩:=h.perm p.symm
 obtain ⟨m1,m2,rfl,k1,k2⟩:=k.split
 refine ⟨m1++F,⟨m2,?_⟩,m1,k1,.refl _⟩
 refine List.Perm.trans ?_ q.symm
 rw [List.append_assoc,List.append_assoc]
 exact List.Perm.append_left m1 List.perm_append_comm
structure RF (w:World) (vs:PVs) (pl:PL) (vs':PVs) (pl':PL):Prop where
 go:∀ F l rvs,RVo w F vs rvs→RS w F pl l→∃ F' l',SubP l' l∧(∀ x∈F,x∈F')∧RVo w F' vs' rvs∧RS w F' pl' l'
inductive LpI (w:World) (J:PVs→PL→Prop) (vs:PVs) (pl:PL):Prop
 |mk (vs':PVs) (pl':PL) (a:RF w vs pl vs' pl') (b:J vs' pl')
theorem RF.refl {vs:PVs} {pl:PL}:RF w vs pl vs pl:=⟨fun F l rvs hv hl=>⟨F,l,.refl,fun zq h=>h,hv,hl⟩⟩
theorem RF.sub {vs:PVs} {pl pl':PL} (h:PSubP pl' pl):RF w vs pl vs pl':=⟨fun F l rvs hv hl=>by
 obtain ⟨l₀,h1,h2⟩:=hl.cut h
 exact ⟨F,l₀,h1,fun zq h=>h,hv,h2⟩⟩
theorem RS.freeze {F:Led} {pre post:PL} {a:Addr} {xs:List P} {l:Led} (h:RS w F (pre++(a,.list xs)::post) l):∃ vs n,RVs w F xs vs∧RS w ((a,listOf vs.toArray n)::F) (pre++post) l:=by
 obtain ⟨core,k,q⟩:=h
 obtain ⟨p1,p2,vs,n,rfl,h1,_,h3⟩:=k.mid
 refine ⟨vs,n,h1,p1++p2,h3.up fun zq h=>.tail _ h,q.trans ?_⟩
 rw [List.append_assoc,List.append_assoc]
 refine List.Perm.append_left p1 ?_
 rw [List.cons_append]
 exact List.perm_middle.symm
theorem RVo.freeze {F:Led} {xs:List P} {us:List Value} {a:Addr} {n:Nat} (hm:(a,listOf us.toArray n)∈F) (hx:RVs w F xs us) {vs:PVs} {rvs:Vs} (h:RVo w F vs rvs):∀ {i:Nat},vs[i]? =some (some (.val (.ref a)))→RVo w F (vs.set i (some (.lst xs))) rvs:=by
 induction h with
 |nil=>intro i e;cases e
 |hole k ih=>
  intro i e
  cases i with
  |zero=>cases e
  |succ i=>exact .hole (ih (i:=i) e)
 |full g k ih=>
  intro i e
  cases i with
  |zero=>
   rw [Option.some.inj (Option.some.inj e)] at g
   rw [g.valI]
   exact .full (.lst hx hm) k
  |succ i=>exact .full g (ih (i:=i) e)
structure RE (w:World) (vs:PVs) (pl:PL) (vs':PVs) (pl':PL):Prop where
 go:∀ F l rvs,RVo w F vs rvs→RS w F pl l→∃ F',(∀ x∈F,x∈F')∧RVo w F' vs' rvs∧RS w F' pl' l
theorem RE.refl {vs:PVs} {pl:PL}:RE w vs pl vs pl:=⟨fun F l rvs hv hl=>⟨F,fun zq h=>h,hv,hl⟩⟩
theorem RE.perm {vs:PVs} {pl pl':PL} (h:List.Perm pl pl'):RE w vs pl vs pl':=⟨fun F l rvs hv hl=>⟨F,fun zq h=>h,hv,hl.perm h⟩⟩
theorem RE.freeze {pre post:PL} {a:Addr} {xs:List P} {vs:PVs} (i:Nat) (h:vs[i]? =some (some (.val (.ref a)))):RE w vs (pre++(a,.list xs)::post) (vs.set i (some (.lst xs))) (pre++post):=⟨fun F l rvs hv hl=>by
 obtain ⟨us,n,h1,h2⟩:=hl.freeze
 exact ⟨_,fun zq h=>.tail _ h,RVo.freeze (.head _) (h1.up fun zq h=>.tail _ h) (hv.up fun zq h=>.tail _ h) h,h2⟩⟩
inductive EnI (w:World) (K:PVs→PL→Prop) (vs:PVs) (pl:PL):Prop
 |mk (vs':PVs) (pl':PL) (a:RE w vs pl vs' pl') (k:K vs' pl')
theorem RE.to {vs vs':PVs} {pl pl':PL} (h:RE w vs pl vs' pl'):RF w vs pl vs' pl':=⟨fun F l rvs hv hl=>by
 obtain ⟨F',u,a,b⟩:=h.go F l rvs hv hl
 exact ⟨F',l,.refl,u,a,b⟩⟩
noncomputable def pTurn (w:World) (J:PVs→PL→Prop) (K:KPF):KPF:=fun f vs pl=>match f with
 | .ret p=>K (.ret p) vs pl
 | .brk=>K .next vs pl
 |_=>LpI w J vs pl
theorem pTg_ok {F:Led} {tg:Tg} {p:P} {vs:PVs} {K:PVs→Prop} (h:pTg tg p vs K) {v:Value} {l:Led} {rvs:Vs} (hp:RV w F p v) (hv:RVo w F vs rvs) (hF:∀ x∈F,x∈l):WTg w tg v rvs l fun rvs'=>∃ vs',RVo w F vs' rvs'∧K vs':=by
 cases tg with
 |n i=>
  show (match rvs[i]? with|some _=>_|none=>False)
  replace h:(match vs[i]? with|some _=>K (vs.set i (some p))|none=>False):=h
  cases ho:vs[i]? with
  |none=>rw [ho] at h;exact h.elim
  |some o=>
   rw [ho] at h
   obtain ⟨z,hz⟩:=hv.has ho
   rw [hz]
   exact ⟨_,hv.set i hp,h⟩
 |t is=>
  cases p with
  |tup ps=>
   obtain ⟨us,T,hu⟩:=hp.tupL hF
   exact ⟨us,T,pSetAll_ok h hu hv⟩
  |_=>exact False.elim h
inductive JP (w:World) (F₀:Led) (J:PVs→PL→Prop) (rvs:Vs) (l:Led):Prop
 |mk (vs:PVs) (pl:PL) (F:Led) (u:∀ x∈F₀,x∈F) (hv:RVo w F vs rvs) (hl:RS w F pl l) (hj:J vs pl)
theorem JP.of {F₀ F:Led} {J:PVs→PL→Prop} {vs:PVs} {pl:PL} {rvs:Vs} {l:Led} (u:∀ x∈F₀,x∈F) (hv:RVo w F vs rvs) (hl:RS w F pl l) (h:LpI w J vs pl):∃ l₀,SubP l₀ l∧JP w F₀ J rvs l₀:=by
 obtain ⟨vs',pl',r,j⟩:=h
 obtain ⟨F',l',s,u2,a,b⟩:=r.go F l rvs hv hl
 exact ⟨l',s,vs',pl',F',up2 u u2,a,b,j⟩
set_option tactic.hygienic true
theorem pbody_ok {F₀ F:Led} {b:Ss} {J:PVs→PL→Prop} {K:KPF} {vs:PVs} {pl:PL} (h:PSs w I b vs pl (pTurn w J K)) {l:Led} {rvs:Vs} (u:∀ x∈F₀,x∈F) (hv:RVo w F vs rvs) (hl:RS w F pl l):WSs w I b rvs l (kTurn (JP w F₀ J) (liftF w F₀ K)):=
 WSs.mono b (pss_ok b h hv hl) fun f rvs l ⟨pf,vs,pl,F1,rf,rv,s1,u1,h⟩=>by
  cases rf with
  |next=>exact JP.of (up2 u u1) rv s1 h
  |brk=>exact ⟨.next,vs,pl,F1,.next,rv,s1,up2 u u1,h⟩
  |cont=>exact JP.of (up2 u u1) rv s1 h
  |ret e=>exact ⟨_,vs,pl,F1,.ret e,rv,s1,up2 u u1,h⟩
set_option tactic.hygienic false
theorem pturn_ok {F₀ F:Led} {tg:Tg} {b:Ss} {J:PVs→PL→Prop} {K:KPF} {p:P} {vs:PVs} {pl:PL} (h:pTg tg p vs fun vs=>PSs w I b vs pl (pTurn w J K)) {v:Value} {l:Led} {rvs:Vs} (u:∀ x∈F₀,x∈F) (hp:RV w F p v) (hv:RVo w F vs rvs) (hl:RS w F pl l):TURN w I tg b (JP w F₀ J) (liftF w F₀ K) v rvs l:=by
 have h:=pTg_ok h hp hv hl.sub
 cases tg with
 |n i=>
  show (match rvs[i]? with|some _=>_|none=>False)
  replace h:(match rvs[i]? with|some _=>_|none=>False):=h
  cases ho:rvs[i]? with
  |none=>rw [ho] at h;exact h.elim
  |some o=>
   rw [ho] at h
   obtain ⟨vs',hv',h⟩:=h
   exact pbody_ok h u hv' hl
 |t is=>
  obtain ⟨us,T,h⟩:=h
  exact ⟨us,T,setAll_mono h fun rvs' ⟨vs',hv',h⟩=>pbody_ok h u hv' hl⟩
theorem pdone_ok {F₀ F:Led} {K:KPF} {vs:PVs} {pl:PL} (h:EnI w (K .next) vs pl) {l:Led} {rvs:Vs} (u:∀ x∈F₀,x∈F) (hv:RVo w F vs rvs) (hl:RS w F pl l):liftF w F₀ K .next rvs l:=by
 obtain ⟨vs',pl',r,h⟩:=h
 obtain ⟨F',u2,a,b⟩:=r.go F l rvs hv hl
 exact ⟨.next,vs',pl',F',.next,a,b,up2 u u2,h⟩
set_option tactic.hygienic true
theorem PFr.lst {tg:Tg} {b:Ss} {xs:List P} {vs:PVs} {pl:PL} {K:KPF} (J:Nat→PVs→PL→Prop) (h0:LpI w (J 0) vs pl)
  (turn:∀ i p vs pl,xs[i]? =some p→J i vs pl→pTg tg p vs fun vs=>PSs w I b vs pl (pTurn w (J (i+1)) K)) (done:∀ vs pl,J xs.length vs pl→EnI w (K .next) vs pl):PFr w I tg b (.lst xs) vs pl K:=⟨fun F l x rvs hp hv hl=>by
 cases hp with
 |@lst _ us t n hu hm=>
  refine FORs.list (xs:=us) (k:=n) (fun i=>JP w F (J i)) (JP.of (fun zq h=>h) hv hl h0) (fun i rvs l ⟨_,_,F1,u1,_,s1,_⟩=>s1.sub _ (u1 _ hm)) (fun i v rvs l hvi ⟨vs,pl,F1,u1,v1,s1,j⟩=>?_) (fun rvs l ⟨vs,pl,F1,u1,v1,s1,j⟩=>pdone_ok (done vs pl (by rw [←hu.len];exact j)) u1 v1 s1)
  obtain ⟨p,e1,e2⟩:=hu.tog hvi
  exact pturn_ok (turn i p vs pl e1 j) u1 (e2.up u1) v1 s1⟩
theorem PFr.tup {tg:Tg} {b:Ss} {xs:List P} {vs:PVs} {pl:PL} {K:KPF} (J:Nat→PVs→PL→Prop) (h0:LpI w (J 0) vs pl)
  (turn:∀ i p vs pl,xs[i]? =some p→J i vs pl→pTg tg p vs fun vs=>PSs w I b vs pl (pTurn w (J (i+1)) K)) (done:∀ vs pl,J xs.length vs pl→EnI w (K .next) vs pl):PFr w I tg b (.tup xs) vs pl K:=⟨fun F l x rvs hp hv hl=>by
 obtain ⟨t,us,rfl,hu,hm⟩:=hp.tupI
 refine FORs.tuple (xs:=us) (fun i=>JP w F (J i)) (JP.of (fun zq h=>h) hv hl h0) ?_ (fun i v rvs l hvi ⟨vs,pl,F1,u1,v1,s1,j⟩=>?_) (fun rvs l ⟨vs,pl,F1,u1,v1,s1,j⟩=>pdone_ok (done vs pl (by rw [←hu.len];exact j)) u1 v1 s1)
 ·rcases hm with ⟨n,hm⟩|hm
  ·exact .inl ⟨n,fun i rvs l ⟨_,_,F1,u1,_,s1,_⟩=>s1.sub _ (u1 _ hm)⟩
  ·exact .inr hm
 ·obtain ⟨p,e1,e2⟩:=hu.tog hvi
  exact pturn_ok (turn i p vs pl e1 j) u1 (e2.up u1) v1 s1⟩
noncomputable def pTurnW (w:World) (J:PVs→PL→Prop):KPF:=fun f vs pl=>match f with
 | .next=>LpI w J vs pl
 |_=>False
set_option tactic.hygienic false
noncomputable def pWhl (W E:PL→Prop):KPB:=fun c pl=>match c with
 |true=>W pl
 |false=>E pl
set_option tactic.hygienic true
theorem PWh.inv {t:X} {b:Ss} {vs:PVs} {pl:PL} {K:KPF} (J:Nat→PVs→PL→Prop) (h0:∃ n,J n vs pl)
  (turn:∀ n vs pl,J n vs pl→PT w I.D t vs pl (pWhl (fun pl=>PSs w I b vs pl (pTurnW w fun vs pl=>∃ m,m<n∧J m vs pl)) fun pl=>K .next vs pl)):PWh w I t b vs pl K:=⟨fun F l rvs hv hl=>by
 obtain ⟨n,h0⟩:=h0
 refine WHLs.inv (fun n=>JP w F (J n)) ⟨n,l,.refl,vs,pl,F,fun zq h=>h,hv,hl,h0⟩ fun n rvs l ⟨vs,pl,F1,u1,v1,s1,j⟩=>WT.mono t (pt_ok t (turn n vs pl j) v1 s1) fun c l' ⟨pl',F2,s2,u2,h⟩=>?_
 cases c with
 |false=>exact ⟨.next,vs,pl',F2,.next,v1.up u2,s2,fun x hx=>u2 x (u1 x hx),h⟩
 |true=>
  refine WSs.mono b (pss_ok b h (v1.up u2) s2) fun f rvs' l3 ⟨pf,vs3,pl3,F3,rf,rv3,s3,u3,h3⟩=>?_
  cases rf with
  |next=>
   obtain ⟨vs4,pl4,rf4,m,hm,j4⟩:=h3
   obtain ⟨l0,q1,q2⟩:=JP.of (F₀:=F) (J:=J m) (fun x hx=>u3 x (u2 x (u1 x hx))) rv3 s3 ⟨vs4,pl4,rf4,j4⟩
   exact ⟨l0,q1,m,hm,q2⟩
  |_=>exact h3.elim⟩
set_option tactic.hygienic false
theorem PFr.freeze {tg:Tg} {b:Ss} {pre post:PL} {a:Addr} {xs:List P} {vs:PVs} {K:KPF} (h:PFr w I tg b (.lst xs) vs (pre++post) K):PFr w I tg b (.val (.ref a)) vs (pre++(a,.list xs)::post) K:=⟨fun F l x rvs hp hv hl=>by
 cases hp
 obtain ⟨us,n,h1,h2⟩:=hl.freeze
 exact (h.go _ _ _ _ (.lst (h1.up fun zq h=>.tail _ h) (.head _)) (hv.up fun zq h=>.tail _ h) h2).mono fun zq zq zq k=>k.up fun zq h=>.tail _ h⟩
set_option tactic.hygienic true
theorem PFr.rng {j0:Nat} {b:Ss} {y:Int} {n:Nat} {vs:PVs} {pl:PL} {K:KPF} (J:Nat→PVs→PL→Prop) (hsm:Builtin.Range.small 0 y 1=true) (hn:Builtin.Range.rangeSize 0 y 1=((n:Nat):Int)) (h0:LpI w (J 0) vs pl)
  (turn:∀ i vs pl,i<n→J i vs pl→pTg (.n j0) (.int (0+(i:Int))) vs fun vs=>PSs w I b vs pl (pTurn w (J (i+1)) K)) (done:∀ vs pl,J n vs pl→EnI w (K .next) vs pl):PFr w I (.n j0) b (.rng y) vs pl K:=⟨fun F l x rvs hp hv hl=>by
 cases hp with
 |@rng _ r t1 t2 t3 hm=>
  exact FORs.range (n:=n) (fun i=>JP w F (J i)) (hl.sub _ hm) rfl hsm hn (JP.of (fun zq h=>h) hv hl h0) (fun i ti rvs l hi ⟨vs,pl,F1,u1,v1,s1,j⟩=>pturn_ok (turn i vs pl hi j) u1 .int v1 s1) (fun rvs l ⟨vs,pl,F1,u1,v1,s1,j⟩=>pdone_ok (done vs pl j) u1 v1 s1)⟩
set_option tactic.hygienic false
theorem FORs.perm {tg:Tg} {b:Ss} {v:Value} {vs:Vs} {l l':Led} {K:KF} (p:List.Perm l l') (h:FORs w I tg b v vs l' K):FORs w I tg b v vs l K:=⟨fun C F tgt body n ht hb s Q S q=>by
 obtain ⟨ps,hR,S⟩:=S
 exact h.go C F tgt body n ht hb s Q ⟨ps,hR,S.subP (SubP.app ⟨[],by rw [List.append_nil];exact p.symm⟩ ps)⟩ q⟩
set_option tactic.hygienic true
theorem PFr.enum {is:List Nat} {b:Ss} {e it:Addr} {oI:Obj} {xs:List P} {vs:PVs} {pl:PL} {K:KPF} (J:Nat→PVs→PL→Prop) (h0:J 0 vs pl)
  (turn:∀ (i:Nat) p vs pl,xs[i]? =some p→J i vs pl→pSetAll is [.int (i:Int),p] vs fun vs=>PSs w I b vs pl (pTurn w (J (i+1)) K)) (done:∀ vs pl,J xs.length vs pl→EnI w (K .next) vs pl):PFr w I (.t is) b (.enm e oI xs) vs ((e,.raw (enumO it))::(it,.raw oI)::pl) K:=⟨fun F l x rvs hp hv hl=>by
 cases hp with
 |@enm _ ax _ _ us n hu hm hI=>
  obtain ⟨core,k,q⟩:=hl
  cases k with
  |raw k=>
  cases k with
  |raw k=>
  rename_i c
  have s0:RS w F pl (c++F):=⟨c,k,.refl _⟩
  refine FORs.perm q (FORs.enum (xs:=us) (k:=n) (fun i=>JP w F (J i)) hI ⟨vs,pl,F,fun zq h=>h,hv,s0,h0⟩ (fun i rvs l ⟨_,_,F1,u1,_,s1,_⟩=>s1.sub _ (u1 _ hm)) (fun i t v rvs l hvi ⟨vs,pl,F1,u1,v1,s1,j⟩=>?_) (fun rvs l ⟨vs,pl,F1,u1,v1,s1,j⟩=>pdone_ok (done vs pl (by rw [←hu.len];exact j)) u1 v1 s1))
  obtain ⟨p,e1,e2⟩:=hu.tog hvi
  exact setAll_mono (pSetAll_ok (turn i p vs pl e1 j) (.cons .int (.cons (e2.up u1) .nil)) v1) fun rvs' ⟨vs',hv',h⟩=>pbody_ok h u1 hv' s1⟩
set_option tactic.hygienic false
inductive JQ (w:World) (F₀:Led) (J:List P→PL→Prop) (rys:List Value) (l:Led):Prop
 |mk (ys:List P) (pl:PL) (F:Led) (u:∀ x∈F₀,x∈F) (hv:RVs w F ys rys) (hl:RS w F pl l) (hj:J ys pl)
variable {elt:X} {cvs:PVs} {pl:PL} {K:KP}
noncomputable def pEnd (J:List P→PL→Prop) (ys:List P):KP:=fun q pl'=>SbI (J (ys++[q])) pl'
theorem pelt_ok {F₀ F:Led} {J:List P→PL→Prop} {ys:List P} {p:P} (h:PX w D elt (some p::cvs) pl (pEnd J ys)) {v:Value} {l:Led} {rcs:Vs} {rys:List Value} (u:∀ x∈F₀,x∈F) (hp:RV w F p v) (hc:RVo w F cvs rcs) (hy:RVs w F ys rys) (hl:RS w F pl l):
  WX w D elt (some v::rcs) l fun y l'=>∃ l₀,SubP l₀ l'∧JQ w F₀ J (rys++[y]) l₀:=WX.mono elt (px_ok elt h (.full hp hc) hl) fun y l' ⟨q,pl',F1,r1,s1,u1,pl₀,hs,j⟩=>by
 obtain ⟨l₀,k1,k2⟩:=s1.cut hs
 exact ⟨l₀,k1,_,pl₀,F1,up2 u u1,(hy.up u1).app (.cons r1 .nil),k2,j⟩
noncomputable def doneF (K:KP) (ys:List P) (pl:PL):Prop:=K (.lst ys) pl
noncomputable def doneM (K:KP) (ys:List P) (pl:PL):Prop:=∀ a,K (.val (.ref a)) ((a,.list ys)::pl)
theorem pmade_ok {F₀ F:Led} {ys:List P} (h:doneF K ys pl∨doneM K ys pl) {l:Led} {rys:List Value} (u:∀ x∈F₀,x∈F) (hy:RVs w F ys rys) (hl:RS w F pl l):kDone (liftK w F₀ K) rys l:=fun a zq=>by
 rcases h with h|h
 ·exact ⟨_,_,_,.lst (hy.up fun zq h=>.tail _ h) (.head _),hl.more,fun x hx=>.tail _ (u x hx),h⟩
 ·exact ⟨_,_,F,.val,hl.list hy,u,h a⟩
theorem PCp.lst {xs:List P} (J:Nat→List P→PL→Prop) (hz:xs.length≤16777216) (h0:SbI (J 0 []) pl)
  (turn:∀ i p ys pl,xs[i]? =some p→J i ys pl→PX w D elt (some p::cvs) pl (pEnd (J (i+1)) ys)) (done:∀ ys pl,J xs.length ys pl→doneF K ys pl∨doneM K ys pl):PCp w D elt cvs (.lst xs) pl K:=⟨fun F l x rcs hp hc hl=>by
 cases hp with
 |@lst _ us t n hu hm=>
  obtain ⟨pl₀,hs,j⟩:=h0
  obtain ⟨l₀,k1,k2⟩:=hl.cut hs
  refine CMP.list (xs:=us) (k:=n) (fun i=>JQ w F (J i)) (by rw [hu.len];exact hz) ⟨l₀,k1,[],pl₀,F,fun zq h=>h,.nil,k2,j⟩ (fun i ys l ⟨_,_,F1,u1,_,s1,_⟩=>s1.sub _ (u1 _ hm)) (fun i v ys l hvi ⟨ys',pl,F1,u1,v1,s1,j⟩=>?_) (fun ys l ⟨ys',pl,F1,u1,v1,s1,j⟩=>pmade_ok (done ys' pl (by rw [←hu.len];exact j)) u1 v1 s1)
  obtain ⟨p,e1,e2⟩:=hu.tog hvi
  exact pelt_ok (turn i p ys' pl e1 j) u1 (e2.up u1) (hc.up u1) v1 s1⟩
theorem PCp.tup {xs:List P} (J:Nat→List P→PL→Prop) (hz:xs.length≤16777216) (h0:SbI (J 0 []) pl)
  (turn:∀ i p ys pl,xs[i]? =some p→J i ys pl→PX w D elt (some p::cvs) pl (pEnd (J (i+1)) ys)) (done:∀ ys pl,J xs.length ys pl→doneF K ys pl∨doneM K ys pl):PCp w D elt cvs (.tup xs) pl K:=⟨fun F l x rcs hp hc hl=>by
 obtain ⟨pl₀,hs,j⟩:=h0
 obtain ⟨l₀,k1,k2⟩:=hl.cut hs
 cases hp with
 |@tup _ us t n hu hm=>
  refine CMP.tuple (xs:=us) (k:=n) (fun i=>JQ w F (J i)) (by rw [hu.len];exact hz) ⟨l₀,k1,[],pl₀,F,fun zq h=>h,.nil,k2,j⟩ rfl rfl (fun i ys l ⟨_,_,F1,u1,_,s1,_⟩=>s1.sub _ (u1 _ hm)) (fun i v ys l hvi ⟨ys',pl,F1,u1,v1,s1,j⟩=>?_) (fun ys l ⟨ys',pl,F1,u1,v1,s1,j⟩=>pmade_ok (done ys' pl (by rw [←hu.len];exact j)) u1 v1 s1)
  obtain ⟨p,e1,e2⟩:=hu.tog hvi
  exact pelt_ok (turn i p ys' pl e1 j) u1 (e2.up u1) (hc.up u1) v1 s1
 |@tupK _ us t hu hm=>
  refine CMP.tupleK (xs:=us) (fun i=>JQ w F (J i)) (by rw [hu.len];exact hz) ⟨l₀,k1,[],pl₀,F,fun zq h=>h,.nil,k2,j⟩ hm (fun i v ys l hvi ⟨ys',pl,F1,u1,v1,s1,j⟩=>?_) (fun ys l ⟨ys',pl,F1,u1,v1,s1,j⟩=>pmade_ok (done ys' pl (by rw [←hu.len];exact j)) u1 v1 s1)
  obtain ⟨p,e1,e2⟩:=hu.tog hvi
  exact pelt_ok (turn i p ys' pl e1 j) u1 (e2.up u1) (hc.up u1) v1 s1⟩
theorem PCp.rng {y:Int} {n:Nat} (J:Nat→List P→PL→Prop) (hsm:Builtin.Range.small 0 y 1=true) (hn:Builtin.Range.rangeSize 0 y 1=((n:Nat):Int)) (hz:n≤16777216) (h0:SbI (J 0 []) pl)
  (turn:∀ i ys pl,i<n→J i ys pl→PX w D elt (some (.int (0+(i:Int)))::cvs) pl (pEnd (J (i+1)) ys)) (done:∀ ys pl,J n ys pl→doneF K ys pl∨doneM K ys pl):PCp w D elt cvs (.rng y) pl K:=⟨fun F l x rcs hp hc hl=>by
 obtain ⟨pl₀,hs,j⟩:=h0
 obtain ⟨l₀,k1,k2⟩:=hl.cut hs
 cases hp with
 |@rng _ r t1 t2 t3 hm=>
  exact CMP.range (n:=n) (fun i=>JQ w F (J i)) (hl.sub _ hm) rfl hsm hn hz ⟨l₀,k1,[],pl₀,F,fun zq h=>h,.nil,k2,j⟩ (fun i ti ys l hi ⟨ys',pl,F1,u1,v1,s1,j⟩=>pelt_ok (turn i ys' pl hi j) u1 .int (hc.up u1) v1 s1) (fun ys l ⟨ys',pl,F1,u1,v1,s1,j⟩=>pmade_ok (done ys' pl j) u1 v1 s1)⟩
theorem PCp.bytes {b:Array UInt8} (J:Nat→List P→PL→Prop) (hz:b.size≤16777216) (h0:SbI (J 0 []) pl)
  (turn:∀ i (c:UInt8) ys pl,b[i]? =some c→J i ys pl→PX w D elt (some (.int (c.toNat:Int))::cvs) pl (pEnd (J (i+1)) ys)) (done:∀ ys pl,J b.size ys pl→doneF K ys pl∨doneM K ys pl):PCp w D elt cvs (.bytes b) pl K:=⟨fun F l x rcs hp hc hl=>by
 obtain ⟨pl₀,hs,j⟩:=h0
 obtain ⟨l₀,k1,k2⟩:=hl.cut hs
 cases hp with
 |bytes=>exact CMP.bytes (fun i=>JQ w F (J i)) hz ⟨l₀,k1,[],pl₀,F,fun zq h=>h,.nil,k2,j⟩ (fun i c tc ys l hi ⟨ys',pl,F1,u1,v1,s1,j⟩=>pelt_ok (turn i c ys' pl hi j) u1 .int (hc.up u1) v1 s1) (fun ys l ⟨ys',pl,F1,u1,v1,s1,j⟩=>pmade_ok (done ys' pl j) u1 v1 s1)⟩
theorem PCp.freeze {pre post:PL} {a:Addr} {xs:List P} (h:PCp w D elt cvs (.lst xs) (pre++post) K):PCp w D elt cvs (.val (.ref a)) (pre++(a,.list xs)::post) K:=⟨fun F l x rcs hp hc hl=>by
 cases hp
 obtain ⟨us,n,h1,h2⟩:=hl.freeze
 exact (h.go _ _ _ _ (.lst (h1.up fun zq h=>.tail _ h) (.head _)) (hc.up fun zq h=>.tail _ h) h2).mono fun zq zq k=>k.up fun zq h=>.tail _ h⟩
theorem PCp4.each {xs ys:List P} (hl:ys.length=xs.length) (hz:xs.length≤16777216) (turn:∀ (i:Nat) x y,xs[i]? =some x→ys[i]? =some y→∃ a b c d,x= .tup [a,b,c,d]∧∀ K':KP,K' y pl→PX w D elt ([a,b,c,d].map some++cvs) pl K') (k:doneF K ys pl∨doneM K ys pl):PCp4 w D elt cvs (.lst xs) pl K:=⟨fun F l x rcs hp hc hs=>by
 obtain ⟨t,us,n,rfl,hu,hm⟩:=hp.lstI
 refine CMP4.list (xs:=us) (k:=n) (fun i=>JQ w F fun zs pl'=>pl'=pl∧zs=ys.take i) (by rw [hu.len];exact hz) ⟨l,.refl,[],pl,F,fun zq h=>h,.nil,hs,rfl,rfl⟩ (fun i ys l ⟨_,_,F1,u1,_,s1,_⟩=>s1.sub _ (u1 _ hm)) (fun i v rys l hvi ⟨ys',pl',F1,u1,v1,s1,e1,e2⟩=>?_) (fun rys l ⟨ys',pl',F1,u1,v1,s1,e1,e2⟩=>?_)
 ·obtain ⟨x,g1,g2⟩:=hu.tog hvi
  have hi:i<ys.length:=by rw [hl];exact (List.getElem?_eq_some_iff.mp g1).1
  have hy:=List.getElem?_eq_getElem hi
  obtain ⟨a,b,c,d,ex,W⟩:=turn i x _ g1 hy
  rw [ex] at g2
  obtain ⟨zs,T,hz⟩:=(g2.up u1).tupL s1.sub
  obtain ⟨v₁,v₂,v₃,v₄,rfl,a1,a2,a3,a4⟩:=hz.four
  refine ⟨v₁,v₂,v₃,v₄,T,?_⟩
  cases e1
  refine WX.mono elt (px_ok elt (W (fun q pl'=>q=ys[i]∧pl'=pl) ⟨rfl,rfl⟩) (.full a1 (.full a2 (.full a3 (.full a4 (hc.up u1))))) s1) fun y l' ⟨q,pl2,F2,r1,s2,u2,e3,e4⟩=>?_
  rw [e3] at r1
  rw [e4] at s2
  exact ⟨l',.refl,_,_,F2,up2 u1 u2,(v1.up u2).app (.cons r1 .nil),s2,rfl,by rw [e2,List.take_add_one,hy];rfl⟩
 ·rw [hu.len,←hl,List.take_length] at e2
  rw [e2] at v1
  rw [e1] at s1
  exact pmade_ok k u1 v1 s1⟩
theorem stored_snoc {z:Value} {k:Str}:∀ {ks:List Str} {us:List Value},k∉ks→us.length=ks.length→stored (ks.zip us) k z=(ks++[k]).zip (us++[z]):=by
 intro ks us hk hl
 have h:((ks.zip us).any fun kv=>decide (kv.1=k))=false:=by
  rw [List.any_eq_false]
  intro p hp
  simp only [decide_eq_true_eq]
  intro e
  exact hk (e▸(List.of_mem_zip hp).1)
 unfold stored
 rw [if_neg (by rw [h];exact Bool.false_ne_true),List.zip_append hl.symm]
 rfl
theorem PDc.each {ks ks':List Str} {xs ys:List P} {kx vx:X} (hx:xs.length=ks.length) (hk:ks'.length=ks.length) (hy:ys.length=ks.length) (nd:ks'.Nodup) (hz:ks.length≤16777216)
  (turn:∀ (i:Nat) k k' y,ks[i]? =some k→ks'[i]? =some k'→ys[i]? =some y→∀ K':KP,(K' (.str k') pl→PX w D kx (some (.str k)::cvs) pl K')∧(K' y pl→PX w D vx (some (.str k)::cvs) pl K')) (k:K (.dct ks' ys) pl):PDc w D kx vx cvs (.dct ks xs) pl K:=⟨fun F l x rcs hp hc hs=>by
 obtain ⟨t,us,o,rfl,hu,hm,hd,lo⟩:=hp.dctI
 have el:(ks.zip us).length=ks.length:=by rw [List.length_zip,hu.len,hx,Nat.min_self]
 refine DCMP.dict (src:=ks.zip us) (fun i kvs l=>∃ us' F',(∀ x∈F,x∈F')∧kvs=(ks'.take i).zip us'∧RVs w F' (ys.take i) us'∧RS w F' pl l) hd lo (by rw [el];exact hz) ⟨l,.refl,[],F,fun zq h=>h,rfl,.nil,hs⟩ (fun i kvs l ⟨_,F1,u1,_,_,s1⟩=>s1.sub _ (u1 _ hm)) (fun i k0 t0 v0 kvs l hi ⟨us',F1,u1,e1,r1,s1⟩=>?_) (fun kvs l ⟨us',F1,u1,e1,r1,s1⟩ a o' hd' lo' _=>?_)
 ·have h0:=(List.getElem?_zip_eq_some.mp hi).1
  have hlt:i<ks.length:=(List.getElem?_eq_some_iff.mp h0).1
  have h1:=List.getElem?_eq_getElem (l:=ks') (i:=i) (by rw [hk];exact hlt)
  have h2:=List.getElem?_eq_getElem (l:=ys) (i:=i) (by rw [hy];exact hlt)
  refine WX.mono kx (px_ok kx ((turn i _ _ _ h0 h1 h2 fun q pl'=>q= .str ks'[i]∧pl'=pl).1 ⟨rfl,rfl⟩) (.full .str (hc.up u1)) s1) fun y l' ⟨q,pl2,F2,r2,s2,u2,e3,e4⟩=>?_
  rw [e3] at r2
  rw [e4] at s2
  obtain ⟨t',rfl⟩:=r2.strI
  refine ⟨_,_,rfl,WX.mono vx (px_ok vx ((turn i _ _ _ h0 h1 h2 fun q pl'=>q=ys[i]∧pl'=pl).2 ⟨rfl,rfl⟩) (.full .str (hc.up (up2 u1 u2))) s2) fun z l'' ⟨q,pl3,F3,r3,s3,u3,e5,e6⟩=>?_⟩
  rw [e5] at r3
  rw [e6] at s3
  have el2:us'.length=(ks'.take i).length:=by rw [r1.len,List.length_take,List.length_take,hk,hy]
  refine ⟨l'',.refl,us'++[z],F3,up2 (up2 u1 u2) u3,?_,?_,s3⟩
  ·rw [e1,stored_snoc ?_ el2,List.take_add_one,h1]
   ·rfl
   ·intro hmem
    obtain ⟨j,hj⟩:=List.mem_iff_getElem?.mp hmem
    have hj2:j<i:=by have:=(List.getElem?_eq_some_iff.mp hj).1;rw [List.length_take] at this;omega
    rw [List.getElem?_take,if_pos hj2] at hj
    exact absurd ((List.getElem?_inj (by rw [hk];omega) nd).mp (hj.trans h1.symm)) (Nat.ne_of_lt hj2)
  ·rw [List.take_add_one,h2]
   exact (r1.up (up2 u2 u3)).app (.cons r3 .nil)
 ·have ek:ks'.take (ks.zip us).length=ks':=by rw [el,←hk,List.take_length]
  have ey:ys.take (ks.zip us).length=ys:=by rw [el,←hy,List.take_length]
  rw [ey] at r1
  rw [ek] at e1
  rw [e1] at hd'
  exact ⟨_,pl,(a,o')::F1,.dct (r1.up fun zq h=>.tail _ h) (.head _) hd' lo',s1.more,fun x hx=>.tail _ (u1 x hx),k⟩⟩
noncomputable def PN (w:World) (f:Addr) (ps:List P) (D:Nat) (pl:PL) (R:KP):Prop:=∀ F l us,RVs w F ps us→RS w F pl l→CN w f us D l (liftK w F R)
noncomputable def PNc (w:World) (f:Addr) (ps:List P) (D:Nat) (pl:PL) (R:KP):Prop:=∀ F l us,RVs w F ps us→RS w F pl l→CNc w f us D l (liftK w F R)
set_option tactic.hygienic true
noncomputable def pRet (R:KP):KPF:=fun f zq pl=>match f with
 | .ret p=>SbI (R p) pl
 | .next=>SbI (R .none) pl
 |_=>False
theorem PN.body {R:KP} {F l:Led} {c:Ss} {vs:PVs} {rvs:Vs} {K:KF} (hv:RVo w F vs rvs) (hl:RS w F pl l) (ret:∀ v vs l' l₀,SubP l₀ l'→liftK w F R v l₀→K (.ret v) vs l') (nxt:∀ vs l' l₀,SubP l₀ l'→liftK w F R .none l₀→K .next vs l') (h:PSs w I c vs pl (pRet R)):WSs w I c rvs l K:=
 WSs.mono c (pss_ok c h hv hl) fun f rvs l' ⟨pf,vs',pl',F1,rf,rv,s1,u1,h⟩=>by
  cases rf with
  |next=>
   obtain ⟨pl₀,hs,r⟩:=h
   obtain ⟨l₀,k1,k2⟩:=s1.cut hs
   exact nxt _ _ l₀ k1 ⟨_,pl₀,F1,.none,k2,u1,r⟩
  |ret e=>
   obtain ⟨pl₀,hs,r⟩:=h
   obtain ⟨l₀,k1,k2⟩:=s1.cut hs
   exact ret _ _ _ l₀ k1 ⟨_,pl₀,F1,e,k2,u1,r⟩
  |brk=>exact h.elim
  |cont=>exact h.elim
set_option tactic.hygienic false
theorem PN.call {f:Addr} {ps:List P} {D':Nat} {a r pl:PL} {R:KP} (c:PN w f ps D' a R) (hD:D'≤D) (hp:List.Perm (a++r) pl) (k:∀ p pl',R p pl'→K p (pl'++r)):PCall w D (.ref f) ps pl K:=⟨fun F l us hps hl=>by
 obtain ⟨core,k1,q⟩:=hl.perm hp.symm
 obtain ⟨m1,m2,rfl,k2,k3⟩:=k1.split
 have e:List.Perm ((m1++F)++m2) l:=by
  refine List.Perm.trans ?_ q.symm
  rw [List.append_assoc,List.append_assoc]
  exact List.Perm.append_left m1 List.perm_append_comm
 refine CN.frame (c F (m1++F) us hps ⟨m1,k2,.refl _⟩) hD e fun v l' ⟨p,pl',F1,r1,⟨core',k4,q4⟩,u1,h⟩=>?_
 refine ⟨p,_,F1,r1,⟨core'++m2,k4.app (k3.up u1),?_⟩,u1,k p pl' h⟩
 refine (q4.append_right m2).trans ?_
 rw [List.append_assoc,List.append_assoc]
 exact List.Perm.append_left core' List.perm_append_comm⟩
set_option tactic.hygienic true
end
end
section
section
variable {w:World}
set_option tactic.hygienic false
noncomputable def fnRec (w:World) (f:Addr):FuncData:=match (hd.heap_39 w.params).lookup f with
 |some ⟨_,_,.func fd,_⟩=>fd
 |_=>default
noncomputable def fnBody (fd:FuncData):List Stmt:=match fd.body with
 | .stmts b=>b
 |_=>[]
noncomputable def fnX' (fd:FuncData):FuncData:=fnX fd.name fd.qualname fd.params (fnBody fd) fd.scope [] fd.defaults fd.kwdefaults fd.doc fd.pyModule fd.annotations fd.code fd.closureTuple
noncomputable def fnAt (w:World) (f:Addr):Obj:=((hd.heap_39 w.params).lookup f).getD default
noncomputable def fnObj (w:World) (f:Addr):Obj:=⟨(fnAt w f).cls,(fnAt w f).dict,.func (fnX' (fnRec w f)),(fnAt w f).slots⟩
noncomputable def isLocal (s:Scope) (p:Str×Value):Bool:=decide (s.names.lookup p.1=some .local)
noncomputable def fnChk (w:World) (f:Addr) (cn:List Str):Bool:=
 codeIn (hd.heap_39 w.params) (fnRec w f).code (fnRec w f).qualname&&(decide ((cellsFrom 0 (fnRec w f).scope.names []).map Prod.fst=cn)&&(decide cn.Nodup&&(!(fnRec w f).scope.isCoroutine&&(!(fnRec w f).scope.isGenerator&&decide ((fnRec w f).scope.kind= .function)))))
noncomputable def fnTxt (w:World) (f:Addr) (ns cn:List Str):Bool×Ss:=
 (fnChk w f cn,trSs (fnRec w f).scope ns cn 40 (fnBody (fnRec w f)))
structure FnOK (w:World) (f:Addr) (ns cn:List Str) (c:Ss):Prop where
 o:(hd.heap_39 w.params).lookup f=some (fnObj w f)
 t:fnTxt w f ns cn=(true,c)
noncomputable def argsR (fd:FuncData) (us:List Value):List (Str×Value):=(fd.params.posonlyargs.map (·.arg)++fd.params.args.map (·.arg)).zip us
noncomputable def locR (fd:FuncData) (us:List Value):List (Str×Value):=((argsR fd us).filter (isLocal fd.scope)).reverse
noncomputable def envR (fd:FuncData) (ns cn:List Str) (us:List Value):List Str×Vs×Bool:=
 let l:=locR fd us
 (l.map Prod.fst++ns.drop l.length,(l.map fun p=>some p.2)++((ns.drop l.length).map fun zq=>none)++cn.map (bindC (fun x=>fd.scope.names.lookup x) (argsR fd us) fun zq=>none),
   (argsR fd us).all fun x=>isLocal fd.scope x||(decide (fd.scope.names.lookup x.1=some .cell)&&cn.elem x.1))
noncomputable def pick {α:Type} (us:List α) (sp:List (Option Nat)):List (Option α):=sp.map fun o=>o.bind fun i=>us[i]?
structure BndR (w:World) (f:Addr) (ns cn:List Str) (sp:List (Option Nat)) (dv us:List Value):Prop where
 b:∀ s:Shared,(∀ b o,(hd.heap_39 w.params).lookup b=some o→s.heap.get? b=some o)→BindsTo s (fnX' (fnRec w f)) ⟨us,[]⟩ (argsR (fnRec w f) (us++dv))
 e:envR (fnRec w f) ns cn (us++dv)=(ns,pick (us++dv) sp,true)
theorem BndR.eq {f:Addr} {ns cn:List Str} {sp:List (Option Nat)} {dv us:List Value} (h:bindArgs (fnX' (fnRec w f)) ⟨us,[]⟩=pure (argsR (fnRec w f) (us++dv))) (e:envR (fnRec w f) ns cn (us++dv)=(ns,pick (us++dv) sp,true)):BndR w f ns cn sp dv us:=
 ⟨fun s zq=>@BindsTo.of_eq s (fnX' (fnRec w f)) ⟨us,[]⟩ (argsR (fnRec w f) (us++dv)) h,e⟩
noncomputable def bindP (fd:FuncData) (us:List Value): { k:Option (Array Value)→Sem (List (Str×Value)) // bindArgs fd ⟨us,[]⟩=seqItems? fd.defaults>>=k }:=⟨_,rfl⟩
noncomputable def dfT (w:World) (f:Addr):Addr:=match (fnRec w f).defaults with
 | .ref T=>T
 |_=>0
noncomputable def seqI (o:Obj):Array Value×Nat:=match o.data with
 | .seq a n=>(a,n)
 |_=>(#[],0)
theorem BndR.dft {f:Addr} {ns cn:List Str} {sp:List (Option Nat)} {dv us:List Value} (hd:(fnX' (fnRec w f)).defaults= .ref (dfT w f)) (ho:(Mine.Internal.hd.heap_39 w.params).lookup (dfT w f)=some (fnAt w (dfT w f))) (hs:(fnAt w (dfT w f)).data= .seq (seqI (fnAt w (dfT w f))).1 (seqI (fnAt w (dfT w f))).2)
  (h:(bindP (fnX' (fnRec w f)) us).1 (some (seqI (fnAt w (dfT w f))).1)=pure (argsR (fnRec w f) (us++dv))) (e:envR (fnRec w f) ns cn (us++dv)=(ns,pick (us++dv) sp,true)):BndR w f ns cn sp dv us:=
 ⟨fun s hs'=>@BindsTo.of_defaults s (fnX' (fnRec w f)) ⟨us,[]⟩ (argsR (fnRec w f) (us++dv)) _ _ _ _ _ hd (hs' _ _ ho) hs (bindP (fnX' (fnRec w f)) us).2 h,e⟩
noncomputable def BndT (Q:List Value→Prop):Nat→List Value→Prop
 |0,us=>Q us
 |n+1,us=>∀ v,BndT Q n (us++[v])
theorem BndT.all {Q:List Value→Prop}:∀ {vs us:List Value},BndT Q vs.length us→Q (us++vs)
 |[],us,h=>by rw [List.append_nil];exact h
 |v::vs,us,h=>by
  have:=BndT.all (vs:=vs) (h v)
  rw [List.append_assoc] at this
  exact this
theorem cells_fst:∀ (l:List (Str×NameKind)) (m n:Nat) (a b:List (Str×Addr)),a.map Prod.fst=b.map Prod.fst→(cellsFrom m l a).map Prod.fst=(cellsFrom n l b).map Prod.fst
 |[],_,_,_,_,h=>h
 |(x,k)::l,m,n,a,b,h=>by
  unfold cellsFrom
  split
  ·exact cells_fst l _ _ _ _ (congrArg (x:: ·) h)
  ·exact cells_fst l _ _ _ _ h
theorem RVs.pick {F:Led} {ps:List P} {us:List Value} (h:RVs w F ps us):∀ sp:List (Option Nat),RVo w F (Mine.Internal.pick ps sp) (Mine.Internal.pick us sp)
 |[]=>.nil
 |none::sp=>.hole (RVs.pick h sp)
 |some i::sp=>by
  show RVo w F (ps[i]?::Mine.Internal.pick ps sp) (us[i]?::Mine.Internal.pick us sp)
  cases e:ps[i]? with
  |none=>
   rw [List.getElem?_eq_none_iff,←h.len,←List.getElem?_eq_none_iff] at e
   rw [e];exact .hole (RVs.pick h sp)
  |some u=>
   obtain ⟨v,e1,e2⟩:=h.get e
   rw [e1];exact .full e2 (RVs.pick h sp)
theorem PNc.of {f:Addr} {ps:List P} {D:Nat} {a:PL} {R:KP} (ns cn:List Str) (c:Ss) (sp:List (Option Nat)) (qs:List P) (dv:List Value) (vs:PVs) (ok:FnOK w f ns cn c) (hb:BndT (BndR w f ns cn sp dv) ps.length []) (hq:∀ F,RVs w F qs dv) (hv:vs=Mine.Internal.pick (ps++qs) sp)
  (h:∀ I:Fi,I.D=D→PSs w I c vs a (pRet R)):PNc w f ps (D+1) a R:=fun F l us hps hl=>by
 have hb:BndR w f ns cn sp dv us:=BndT.all (us:=[]) (hps.len.symm▸hb)
 obtain ⟨ho,ht⟩:=ok
 have h1:fnChk w f cn=true:=congrArg Prod.fst ht
 unfold fnChk at h1
 obtain ⟨k1,h1⟩:=(Bool.and_eq_true_iff).mp h1
 obtain ⟨k2,h1⟩:=(Bool.and_eq_true_iff).mp h1
 obtain ⟨k3,h1⟩:=(Bool.and_eq_true_iff).mp h1
 obtain ⟨k4,h1⟩:=(Bool.and_eq_true_iff).mp h1
 obtain ⟨k5,k6⟩:=(Bool.and_eq_true_iff).mp h1
 have e1:=congrArg Prod.fst hb.e
 have e2:=congrArg (·.2.1) hb.e
 have e3:=congrArg (·.2.2) hb.e
 refine CNc.cells (dV:=(fnRec w f).defaults) ns cn c _ _ (ho.trans rfl) k1 hb.b _ e1.symm rfl (congrArg Prod.snd ht) (fun n=>?_) rfl e3 ?_ ?_ ?_ ?_ fun I K hI ret nxt=>?_
 ·exact (cells_fst _ _ _ _ _ rfl).trans (of_decide_eq_true k2)
 ·have:=of_decide_eq_true k2
  exact this.symm▸of_decide_eq_true k3
 ·exact Bool.not_eq_true' _▸k4
 ·exact Bool.not_eq_true' _▸k5
 ·exact of_decide_eq_true k6
 ·refine PN.body (vs:=vs) ?_ hl ret nxt (h I hI)
  rw [hv]
  have r:=(hps.app (hq F)).pick sp
  rw [←show _=pick (us++dv) sp from e2] at r
  exact r
theorem PN.of {f:Addr} {ps:List P} {D:Nat} {a:PL} {R:KP} (ns cn:List Str) (c:Ss) (sp:List (Option Nat)) (qs:List P) (dv:List Value) (vs:PVs) (ok:FnOK w f ns cn c) (hb:BndT (BndR w f ns cn sp dv) ps.length []) (hq:∀ F,RVs w F qs dv) (hv:vs=Mine.Internal.pick (ps++qs) sp)
 (h:∀ I:Fi,I.D=D→PSs w I c vs a (pRet R)):PN w f ps (D+1) a R:=fun F l us hps hl=>(PNc.of ns cn c sp qs dv vs ok hb hq hv h F l us hps hl).cn
theorem PN.mapA {f:Addr} {ps ps':List P} {D:Nat} {a:PL} {R:KP} (h:∀ F us,RVs w F ps us→RVs w F ps' us) (c:PN w f ps' D a R):PN w f ps D a R:=fun F l us hps hl=>c F l us (h F us hps) hl
set_option tactic.hygienic true
end
end
section
namespace RL
open Builtin
set_option tactic.hygienic false
theorem slot_eq_refl:Slot "bytes" (cmpInfo .Eq).2.2 "bytes.__eq__":=
 .of (owner:="bytes") (n:="__eq__") (by rw [typeLookup_type,builtinLookup_eq_fast];kernel_rfl) (by decide+kernel) (by decide+kernel) (by decide+kernel)
   (by first|exact .inl (by decide+kernel)|exact .inr (by decide+kernel)) (by rw [isSubtype_type];kernel_rfl)
set_option tactic.hygienic true
theorem none_bytes (b:Array UInt8) (t:Tok):Gives («NoneType.__eq__» ⟨[.none,.bytes b t],[]⟩) (.val (Value.notImplemented)):=
 .of_wp fun M A E s Q h=>by obtain ⟨hp,g,d,tk,os⟩:=s;wp_walk;exact ⟨_,rfl,h⟩
set_option tactic.hygienic false
theorem isNone:isInstance .none (.type "bytes")=pure false:=by
 have e:isInstance .none (.type "bytes")=isSubtype (.type "NoneType") (.type "bytes"):=rfl
 rw [e];exact F.sub_NoneType_bytes
theorem bytes_none (b:Array UInt8) (t:Tok):Gives («bytes.__eq__» ⟨[.bytes b t,.none],[]⟩) (.val (Value.notImplemented)):=by
 refine .of_wp fun M A E s Q hq=>?_
 show wpAny M A (isInstance .none (.type "bytes")>>=fun r=>_) _ E s
 refine wpAny_bind (wpAny_of_eq isNone ?_)
 show wpAny M A (rule _>>=fun zq=>ret .notImplemented) _ E s
 exact wpAny_bind (wpAny_rule (wpAny_pure ⟨_,rfl,hq⟩))
set_option tactic.hygienic true
section
variable {w:World} {A:Around} {E:Value→Shared→Prop} {s:Shared} {Q:Value→Shared→Prop}
set_option tactic.hygienic false
theorem eq_none_bytes {b:Array UInt8} {t:Tok} (h:Q (.bool false) s):wpAny (model PG w) A (compareOp .Eq .none (.bytes b t)) Q E s:=
 SeqAt.rc_eq_decline_or (k:=false) rfl (typeIs_bytes _ _ _) (by decide) F.sub_bytes_NoneType F.slot_NoneType_eq slot_eq_refl
  (fun zq hq=>call_gives F.slot_NoneType_eq rfl F.entry_NoneType_eq (F.args_NoneType_eq_2 _ _) (none_bytes b t) hq)
  (fun zq hq=>call_gives slot_eq_refl (typeIs_bytes _ _ _) FB.entry_bytes_eq (FB.args_bytes_eq_2 _ _) (bytes_none b t) hq)
  (fun zq hq=>wpAny_of_eq (rfl:isSame .none (.bytes b t)=pure false) hq) (.inl rfl) h
set_option tactic.hygienic true
end
end RL
set_option tactic.hygienic false
noncomputable def TopTup (w:World) (a:Addr) (its:Array Value):Prop:=∀ h:Heap,(hd.heap_39 w.params).In h→h.IsTuple a its
end
section
set_option tactic.hygienic false
noncomputable def hexV (n:Int):Option Int:=if 48≤n∧n≤57 then some (n - 48) else if 65≤n∧n≤70 then some (n - 55) else if 97≤n∧n≤102 then some (n - 87) else none
inductive OptInt:Option Int→Value→Prop
 |none:OptInt .none .none
 |some (n:Int) (t:Tok):OptInt (.some n) (.int n t)
noncomputable def codesI (z:Str):List Int:=z.cps.toList.map fun c=>((c:Nat):Int)
theorem codesI_len (z:Str):(codesI z).length=z.cps.size:=by simp [codesI]
noncomputable def encA (z:Str):Array UInt8:=byteArr (codesI z)
noncomputable def hexN (ks:List Int):Int:=ks.foldl (fun a c=>16*a+(hexV c).getD 0) 0
theorem hexN_take {ks:List Int} {i:Nat} {k:Int} (h:ks[i]? =some k):hexN (ks.take (i+1))=16*hexN (ks.take i)+(hexV k).getD 0:=by
 unfold hexN
 rw [List.take_add_one,h,List.foldl_append];rfl
noncomputable def ddg:Nat→Int→List Int
 |0,_=>[]
 |f+1,r=>if 0<r then (48+r % 10)::ddg f (r / 10) else []
noncomputable def decB (n:Int):Array UInt8:=byteArr ((48+n % 10)::ddg 9 (n / 10)).reverse
theorem place_ge {ns:List Int} (hs:ns.Pairwise (· < ·)) {n x:Int} {i:Nat} (hi:ns[i]? =some x) (h:x≤n):i<ns.countP (· ≤n):=by
 induction ns generalizing i with
 |nil=>simp at hi
 |cons y ns ih=>
  rw [List.countP_cons]
  cases i with
  |zero=>have e:y=x:=by simpa using hi
         subst e;simp [h]
  |succ i=>
   have hi':ns[i]? =some x:=by simpa using hi
   have:=ih (List.pairwise_cons.mp hs).2 hi'
   have hy:y<x:=(List.pairwise_cons.mp hs).1 x (List.mem_of_getElem? hi')
   have:decide (y≤n)=true:=decide_eq_true (by omega)
   simp only [this,if_true]
   omega
theorem place_le {ns:List Int} (hs:ns.Pairwise (· < ·)) {n x:Int} {i:Nat} (hi:ns[i]? =some x) (h: ¬x≤n):ns.countP (· ≤n)≤i:=by
 induction ns generalizing i with
 |nil=>simp at hi
 |cons y ns ih=>
  rw [List.countP_cons]
  cases i with
  |zero=>
   have e:y=x:=by simpa using hi
   subst e
   have z:ns.countP (· ≤n)=0:=List.countP_eq_zero.mpr fun a ha=>by
    have:=(List.pairwise_cons.mp hs).1 a ha
    simp;omega
   simp [h,z]
  |succ i=>
   have hi':ns[i]? =some x:=by simpa using hi
   have:=ih (List.pairwise_cons.mp hs).2 hi'
   split<;>omega
noncomputable def signsB (b:Array UInt8):List Str:=b.toList.map fun c=>(⟨#[c.toNat]⟩:Str)
noncomputable def decS (b:Array UInt8):Str:=Txt.join (Str.ofString "") (signsB b)
theorem signsB_sum (b:Array UInt8):((signsB b).map (·.length)).sum=b.size:=by
 unfold signsB
 rw [List.map_map]
 have:(b.toList.map ((fun (x:Str)=>x.length)∘fun c=>(⟨#[c.toNat]⟩:Str)))=b.toList.map fun zq=>1:=by
  apply List.map_congr_left;intro c _;rfl
 rw [this,List.map_const']
 simp
theorem valueAt_app {kvs ls:List (Str×Value)} {k:Str}:valueAt (kvs++ls) k=(valueAt kvs k).or (valueAt ls k):=by
 unfold valueAt
 rw [List.find?_append]
 cases List.find? (fun kv=>decide (kv.1=k)) kvs<;>rfl
theorem valueAt_none {kvs:List (Str×Value)} {k:Str} (h:kvs.any (fun kv=>kv.1=k)=false):valueAt kvs k=none:=by
 unfold valueAt
 rw [List.find?_eq_none.mpr]
 ·rfl
 ·intro x hx
  have:=List.any_eq_false.mp h x hx
  simpa using this
theorem valueAt_stored (kvs:List (Str×Value)) (k k':Str) (v:Value):valueAt (stored kvs k v) k'=if k'=k then some v else valueAt kvs k':=by
 unfold stored
 cases h:kvs.any (fun kv=>kv.1=k) with
 |false=>
  rw [if_neg (by simp)]
  rw [valueAt_app]
  by_cases e:k'=k
  ·subst e
   rw [valueAt_none h,if_pos rfl];simp [valueAt]
  ·rw [if_neg e]
   have:valueAt [(k,v)] k'=none:=by simp [valueAt,Ne.symm e]
   rw [this];simp
 |true=>
  rw [if_pos rfl]
  induction kvs with
  |nil=>simp at h
  |cons p kvs ih=>
   obtain ⟨a,b⟩:=p
   by_cases ea:a=k
   ·subst ea
    by_cases e:k'=a
    ·subst e;simp [valueAt]
    ·rw [if_neg e]
     by_cases hh:kvs.any (fun kv=>kv.1=a)=true
     ·have:=ih hh
      rw [if_neg e] at this
      simp only [valueAt,List.map_cons,List.find?_cons,if_true] at this ⊢
      simp only [Ne.symm e,decide_false]
      exact this
     ·simp only [Bool.not_eq_true] at hh
      have e2:kvs.map (fun kv=>if kv.1=a then (kv.1,v) else kv)=kvs:=by
       refine List.map_congr_left (g:=id) (fun x hx=>?_) |>.trans (List.map_id _)
       have:=List.any_eq_false.mp hh x hx
       simp only [decide_eq_true_eq] at this
       simp [this]
      simp only [valueAt,List.map_cons,List.find?_cons,if_true,e2]
      simp only [Ne.symm e,decide_false]
   ·have hh:kvs.any (fun kv=>kv.1=k)=true:=by simpa [ea] using h
    have:=ih hh
    simp only [valueAt,List.map_cons,List.find?_cons,if_neg ea] at this ⊢
    by_cases e:a=k'
    ·subst e;simp [ea]
    ·simp only [e,decide_false];exact this
set_option tactic.hygienic true
inductive PV
 |none|bool (b:Bool)|int (n:Int)|str (s:Str)|bytes (b:Array UInt8)|ref (a:Addr)
 deriving DecidableEq
inductive IsV:Value→PV→Prop
 |none:IsV .none .none
 |bool (b:Bool):IsV (.bool b) (.bool b)
 |int (n:Int) (t:Tok):IsV (.int n t) (.int n)
 |str (s:Str) (t:Tok):IsV (.str s t) (.str s)
 |bytes (b:Array UInt8) (t:Tok):IsV (.bytes b t) (.bytes b)
 |ref (a:Addr):IsV (.ref a) (.ref a)
set_option tactic.hygienic false
noncomputable def usedNames:List Str:=["name","gc","ccc","bc","dm","nt","nv","uc","lc","tc"].map Str.ofString
noncomputable def dflt (n:Str):PV:=if n=Str.ofString "gc" then .str (Str.ofString "Cn") else if n=Str.ofString "ccc" then .int 0 else if n=Str.ofString "bc" then .str (Str.ofString "L") else .none
noncomputable def DefOK (kvs:List (Str×Value)):Prop:=∀ n∈usedNames,IsV ((valueAt kvs n).getD .none) (dflt n)
noncomputable def namesA:List Str:=[Str.ofString "gcb",Str.ofString "wb",Str.ofString "sb"]
noncomputable def namesB:List Str:=[Str.ofString "ex",Str.ofString "sd",Str.ofString "cased",Str.ofString "ci",Str.ofString "ep",Str.ofString "di",Str.ofString "ids",Str.ofString "idc",Str.ofString "xids",Str.ofString "xidc",Str.ofString "pat_syn",Str.ofString "pat_ws",Str.ofString "idst"]
noncomputable def namesC:List Str:=[Str.ofString "dm",Str.ofString "uc",Str.ofString "lc",Str.ofString "tc",Str.ofString "cf",Str.ofString "bm",Str.ofString "bpb",Str.ofString "scx",Str.ofString "nt",Str.ofString "nv",Str.ofString "name",Str.ofString "conf",Str.ofString "nfkc_cf"]
noncomputable def namesD:List Str:=[Str.ofString "suc",Str.ofString "slc",Str.ofString "stc",Str.ofString "alias"]
theorem offA:∀ y∈namesA,y∉usedNames:=by decide+kernel
theorem offB:∀ y∈namesB,y∉usedNames:=by decide+kernel
theorem offC:∀ y∈namesC,dflt y= .none:=by decide+kernel
theorem offD:∀ y∈namesD,y∉usedNames:=by decide+kernel
theorem offE:Str.ofString "idna"∉usedNames:=by decide+kernel
set_option tactic.hygienic true
theorem DefOK.put {kvs:List (Str×Value)} (h:DefOK kvs) {k:Str} {v:Value} (hk:k∉usedNames∨(v= .none∧dflt k= .none)):DefOK (stored kvs k v):=fun n hn=>by
 rw [valueAt_stored]
 split
 ·rename_i e
  subst e
  rcases hk with hk|⟨rfl,hd⟩
  ·exact absurd hn hk
  ·rw [hd];exact .none
 ·exact h n hn
set_option tactic.hygienic false
noncomputable abbrev rmD (w:World) (t1 t2 t3:Tok) (d:Value) (ls lv:Addr):List DictEntry:=[⟨PyData.keyHash w.params (Str.ofString "default"),.str (Str.ofString "default") t1,d⟩,⟨PyData.keyHash w.params (Str.ofString "starts"),.str (Str.ofString "starts") t2,.ref ls⟩,⟨PyData.keyHash w.params (Str.ofString "values"),.str (Str.ofString "values") t3,.ref lv⟩]
end
section
set_option tactic.hygienic false
noncomputable abbrev cnt (ns:List Int) (n:Int):Nat:=ns.countP (· ≤n)
theorem cnt_take:∀ (ns:List Int),ns.Pairwise (· < ·)→∀ (t:Int),(∀ x∈ns.take (cnt ns t),x≤t)∧(∀ x∈ns.drop (cnt ns t),t<x)
 |[],_,t=>by simp
 |y::ns,h,t=>by
  have ih:=cnt_take ns (List.pairwise_cons.mp h).2 t
  have hy:=(List.pairwise_cons.mp h).1
  by_cases e:y≤t
  ·have:cnt (y::ns) t=cnt ns t+1:=by simp [cnt,List.countP_cons,e]
   rw [this,List.take_succ_cons,List.drop_succ_cons]
   refine ⟨fun x hx=>?_,ih.2⟩
   rcases List.mem_cons.mp hx with rfl|hx
   ·exact e
   ·exact ih.1 x hx
  ·have:cnt (y::ns) t=0:=by
    simp only [cnt,List.countP_eq_zero]
    intro x hx
    rcases List.mem_cons.mp hx with rfl|hx
    ·simpa using e
    ·have:=hy x hx;simp;omega
   rw [this]
   refine ⟨by simp,fun x hx=>?_⟩
   rw [List.drop_zero] at hx
   rcases List.mem_cons.mp hx with rfl|hx
   ·omega
   ·have:=hy x hx;omega
theorem cnt_le (ns:List Int) (t:Int):cnt ns t≤ns.length:=List.countP_le_length
theorem cnt_no {l:List Int} {t:Int} (h:∀ x∈l,t<x):cnt l t=0:=List.countP_eq_zero.mpr fun a ha=>by have:=h a ha;simp;omega
noncomputable def MX:Int:=1114111
structure RMok {α:Type} (ns:List Int) (ps:List α) (f:Int→α):Prop where
 srt:ns.Pairwise (· < ·)
 zero:ns[0]? =some 0
 len:ps.length=ns.length
 look:∀ c,0≤c→c≤MX→ps[cnt ns c - 1]? =some (f c)
theorem cnt_pos {ns:List Int} (h0:ns[0]? =some 0) {c:Int} (hc:0≤c):0<cnt ns c:=
 List.countP_pos_iff.mpr ⟨0,List.mem_of_getElem? h0,by simpa using hc⟩
theorem cnt_mono (ns:List Int) {a b:Int} (h:a≤b):cnt ns a≤cnt ns b:=List.countP_mono_left fun x zq hx=>by
 simp only [decide_eq_true_eq] at hx ⊢;omega
noncomputable def midS (a b1:Int) (c1 c2:Bool):List Int:=(if c2 then [] else [a])++(if c1 then [] else [b1])
noncomputable def midV {α:Type} (v y:α) (c1 c2:Bool):List α:=(if c2 then [] else [v])++(if c1 then [] else [y])
theorem midS_len (a b1:Int) (c1 c2:Bool):(midS a b1 c1 c2).length≤2:=by cases c1<;>cases c2<;>simp [midS]
theorem midV_len {α:Type} (v y:α) (c1 c2:Bool):(midV v y c1 c2).length≤2:=by cases c1<;>cases c2<;>simp [midV]
theorem midS_pop (a b1:Int) (c1:Bool):(midS a b1 c1 false).drop 1=midS a b1 c1 true:=by cases c1<;>rfl
theorem midV_pop {α:Type} (v y:α) (c1:Bool):(midV v y c1 false).drop 1=midV v y c1 true:=by cases c1<;>rfl
noncomputable def lastLe {α:Type} (Z:List (Int×α)) (c:Int) (d:Option α):Option α:=Z.foldl (fun d p=>if p.1≤c then some p.2 else d) d
theorem lastLe_app {α:Type} (Z Y:List (Int×α)) (c:Int) (d:Option α):lastLe (Z++Y) c d=lastLe Y c (lastLe Z c d):=List.foldl_append
theorem lastLe_no {α:Type} {c:Int}:∀ {Z:List (Int×α)} {d:Option α},(∀ p∈Z,c<p.1)→lastLe Z c d=d
 |[],_,_=>rfl
 |p::Z,d,h=>by
  have e:lastLe (p::Z) c d=lastLe Z c (if p.1≤c then some p.2 else d):=rfl
  rw [e,if_neg (Int.not_le.mpr (h p (.head _)))]
  exact lastLe_no fun q hq=>h q (.tail _ hq)
theorem lastLe_all {α:Type} {c t:Int}:∀ {Z:List (Int×α)} {d:Option α},(∀ p∈Z,p.1≤t)→t≤c→lastLe Z c d=lastLe Z t d
 |[],_,_,_=>rfl
 |p::Z,d,h,ht=>by
  have h1:=h p (.head _)
  show lastLe Z c (if p.1≤c then some p.2 else d)=lastLe Z t (if p.1≤t then some p.2 else d)
  rw [if_pos h1,if_pos (Int.le_trans h1 ht)]
  exact lastLe_all (fun q hq=>h q (.tail _ hq)) ht
noncomputable abbrev SrtZ {α:Type} (Z:List (Int×α)):Prop:=(Z.map Prod.fst).Pairwise (· < ·)
theorem lastLe_is {α:Type} {c:Int}:∀ {Z:List (Int×α)} {d:Option α},SrtZ Z→lastLe Z c d=if cnt (Z.map Prod.fst) c=0 then d else (Z.map Prod.snd)[cnt (Z.map Prod.fst) c - 1]?
 |[],_,_=>rfl
 |p::Z,d,h=>by
  obtain ⟨h1,h2⟩:=List.pairwise_cons.mp h
  show lastLe Z c (if p.1≤c then some p.2 else d)=if cnt (p.1::Z.map Prod.fst) c=0 then d else (p.2::Z.map Prod.snd)[cnt (p.1::Z.map Prod.fst) c - 1]?
  by_cases e:p.1≤c
  ·rw [show cnt (p.1::Z.map Prod.fst) c=cnt (Z.map Prod.fst) c+1 from List.countP_cons_of_pos (by simpa using e),if_pos e,lastLe_is h2,if_neg (Nat.succ_ne_zero _),Nat.add_sub_cancel]
   cases cnt (Z.map Prod.fst) c with
   |zero=>rfl
   |succ n=>rfl
  ·have hz:∀ x∈p.1::Z.map Prod.fst,c<x:=fun x hx=>by
    rcases List.mem_cons.mp hx with rfl|hx
    ·exact Int.not_le.mp e
    ·exact Int.lt_trans (Int.not_le.mp e) (h1 x hx)
   rw [cnt_no hz,if_neg e,if_pos rfl]
   exact lastLe_no fun q hq=>hz _ (.tail _ (List.mem_map_of_mem hq))
theorem cut_lo {α:Type} {Z:List (Int×α)} (h:SrtZ Z) (t:Int):(∀ p∈Z.take (cnt (Z.map Prod.fst) t),p.1≤t)∧∀ p∈Z.drop (cnt (Z.map Prod.fst) t),t<p.1:=by
 have:=cnt_take (Z.map Prod.fst) h t
 rw [←List.map_take,←List.map_drop] at this
 exact ⟨fun p hp=>this.1 _ (List.mem_map_of_mem hp),fun p hp=>this.2 _ (List.mem_map_of_mem hp)⟩
theorem lastLe_cut {α:Type} {Z:List (Int×α)} {d:Option α} (h:SrtZ Z) {t c:Int} (hc:t≤c):lastLe (Z.take (cnt (Z.map Prod.fst) t)) c d=lastLe Z t d∧lastLe (Z.drop (cnt (Z.map Prod.fst) t)) c (lastLe Z t d)=lastLe Z c d:=by
 have hh:=cut_lo h t
 have e:∀ c,lastLe Z c d=lastLe (Z.drop (cnt (Z.map Prod.fst) t)) c (lastLe (Z.take (cnt (Z.map Prod.fst) t)) c d):=fun c=>by rw [←lastLe_app,List.take_append_drop]
 have e1:lastLe Z t d=lastLe (Z.take (cnt (Z.map Prod.fst) t)) t d:=by rw [e t,lastLe_no hh.2]
 have e2:lastLe (Z.take (cnt (Z.map Prod.fst) t)) c d=lastLe Z t d:=by rw [lastLe_all hh.1 hc,e1]
 exact ⟨e2,by rw [e c,e2]⟩
theorem RMok.of {α:Type} {Z:List (Int×α)} {f:Int→α} (h:SrtZ Z) (h0:(Z.map Prod.fst)[0]? =some 0) (k:∀ c,0≤c→c≤MX→lastLe Z c none=some (f c)):RMok (Z.map Prod.fst) (Z.map Prod.snd) f:=
 ⟨h,h0,by rw [List.length_map,List.length_map],fun c h1 h2=>by
   have:=k c h1 h2
   rw [lastLe_is h] at this
   split at this
   ·cases this
   ·exact this⟩
theorem RMok.last {α:Type} {Z:List (Int×α)} {f:Int→α} (R:RMok (Z.map Prod.fst) (Z.map Prod.snd) f) {c:Int} (h1:0≤c) (h2:c≤MX):lastLe Z c none=some (f c):=by
 rw [lastLe_is R.srt,if_neg (Nat.ne_of_gt (cnt_pos R.zero h1))]
 exact R.look c h1 h2
noncomputable def midZ {α:Type} (a b1:Int) (v y:α) (c1 c2:Bool):List (Int×α):=(if c2 then [] else [(a,v)])++(if c1 then [] else [(b1,y)])
theorem mid_one {α:Type} {c:Bool} {q p:Int×α} (h:p∈(if c then [] else [q])):p.1=q.1:=by
 cases c
 ·exact congrArg Prod.fst (List.mem_singleton.mp h)
 ·cases h
theorem mid_in {α:Type} {a b1:Int} {v y:α} {c1 c2:Bool} {p:Int×α} (h:p∈midZ a b1 v y c1 c2):p.1=a∨p.1=b1:=(List.mem_append.mp h).imp mid_one mid_one
theorem mid_srt {α:Type} {a b1:Int} (h:a<b1) {v y:α} {c1 c2:Bool}:SrtZ (midZ a b1 v y c1 c2):=by
 cases c1<;>cases c2
 ·exact .cons (fun x hx=>by rw [List.mem_singleton.mp hx];exact h) (List.pairwise_singleton _ _)
 ·exact List.pairwise_singleton _ _
 ·exact List.pairwise_singleton _ _
 ·exact .nil
theorem rm_first {ns:List Int} (hs:ns.Pairwise (· < ·)) (h0:ns[0]? =some 0) {x:Int} (hx:x∈ns):0≤x:=by
 cases ns with
 |nil=>cases hx
 |cons q ns=>
  obtain rfl:q=0:=Option.some.inj h0
  rcases List.mem_cons.mp hx with rfl|hx
  ·exact Int.le_refl _
  ·exact Int.le_of_lt ((List.pairwise_cons.mp hs).1 x hx)
theorem rm_putZ {α:Type} {Z:List (Int×α)} {f:Int→α} (R:RMok (Z.map Prod.fst) (Z.map Prod.snd) f) {a b:Int} (ha:0≤a) (hab:a≤b) (hb:b≤MX) {v y:α} {c1 c2:Bool}
  (hy:b<MX→y=f (b+1)) (h1:c1=true→b<MX→f (b+1)=v) (h2:c2=true→0<a∧f (a - 1)=v):
  RMok ((Z.take (cnt (Z.map Prod.fst) (a - 1))++(midZ a (b+1) v y c1 c2++Z.drop (cnt (Z.map Prod.fst) (b+1)))).map Prod.fst) ((Z.take (cnt (Z.map Prod.fst) (a - 1))++(midZ a (b+1) v y c1 c2++Z.drop (cnt (Z.map Prod.fst) (b+1)))).map Prod.snd) (fun c=>if a≤c∧c≤b then v else f c):=by
 have hab1:a<b+1:=Int.lt_add_one_of_le hab
 have ha1:a - 1<a:=Int.sub_lt_self a (by decide)
 have lo:=(cut_lo R.srt (a - 1)).1
 have hi:=(cut_lo R.srt (b+1)).2
 have top:∀ {c},c≤b→∀ {d},lastLe (Z.drop (cnt (Z.map Prod.fst) (b+1))) c d=d:=fun hc=>lastLe_no fun p hp=>Int.lt_trans (Int.lt_add_one_of_le hc) (hi p hp)
 have low:∀ {c},a≤c→c2=true→lastLe (Z.take (cnt (Z.map Prod.fst) (a - 1))) c none=some v:=fun hc e=>by
  obtain ⟨g1,g2⟩:=h2 e
  rw [(lastLe_cut R.srt (Int.le_trans (Int.le_of_lt ha1) hc)).1,R.last (Int.le_sub_one_of_lt g1) (Int.le_trans (Int.le_of_lt ha1) (Int.le_trans hab hb)),g2]
 refine RMok.of ?_ ?_ fun c hc hcm=>?_
 ·unfold SrtZ
  rw [List.map_append,List.map_append,List.pairwise_append,List.pairwise_append]
  refine ⟨R.srt.sublist ((List.take_sublist _ _).map _),⟨mid_srt hab1,R.srt.sublist ((List.drop_sublist _ _).map _),fun x hx z hz=>?_⟩,fun x hx z hz=>?_⟩
  ·obtain ⟨p,hp,rfl⟩:=List.mem_map.mp hx
   obtain ⟨q,hq,rfl⟩:=List.mem_map.mp hz
   have:=hi q hq
   rcases mid_in hp with e|e
   ·rw [e];exact Int.lt_trans hab1 this
   ·rw [e];exact this
  ·obtain ⟨p,hp,rfl⟩:=List.mem_map.mp hx
   refine Int.lt_of_le_of_lt (lo p hp) (Int.lt_of_lt_of_le ha1 ?_)
   rw [←List.map_append] at hz
   obtain ⟨q,hq,rfl⟩:=List.mem_map.mp hz
   rcases List.mem_append.mp hq with hq|hq
   ·rcases mid_in hq with e|e
    ·rw [e];exact Int.le_refl _
    ·rw [e];exact Int.le_of_lt hab1
   ·exact Int.le_of_lt (Int.lt_trans hab1 (hi q hq))
 ·rw [List.map_append,List.map_take]
  by_cases e:a=0
  ·subst e
   have hc2:c2=false:=by
    cases c2 with
    |false=>rfl
    |true=>exact absurd (h2 rfl).1 (by decide)
   rw [cnt_no fun x hx=>Int.lt_of_lt_of_le ha1 (rm_first R.srt R.zero hx),hc2]
   rfl
  ·have hp:=cnt_pos R.zero (c:=a - 1) (Int.le_sub_one_of_lt (Int.lt_iff_le_and_ne.mpr ⟨ha,Ne.symm e⟩))
   rw [List.getElem?_append_left (by rw [List.length_take,Nat.min_eq_left (cnt_le _ _)];exact hp),List.getElem?_take_of_lt hp,R.zero]
 ·rw [lastLe_app,lastLe_app]
  by_cases h:a≤c
  ·by_cases h':c≤b
   ·rw [if_pos ⟨h,h'⟩,top h']
    have n2: ¬b+1≤c:=Int.not_le.mpr (Int.lt_add_one_of_le h')
    cases c2 with
    |false=>cases c1<;>simp [midZ,lastLe,h,n2]
    |true=>
     rw [low h rfl]
     cases c1<;>simp [midZ,lastLe,n2]
   ·have h3:b+1≤c:=Int.add_one_le_of_lt (Int.not_le.mp h')
    have hbm:b<MX:=Int.lt_of_lt_of_le (Int.not_le.mp h') hcm
    rw [if_neg fun q=>h' q.2,←R.last hc hcm,←(lastLe_cut R.srt h3).2]
    congr 1
    rw [R.last (Int.le_trans ha (Int.le_of_lt hab1)) (Int.add_one_le_of_lt hbm)]
    cases c1 with
    |false=>cases c2<;>simp [midZ,lastLe,h,h3,hy hbm]
    |true=>
     rw [h1 rfl hbm]
     cases c2 with
     |false=>simp [midZ,lastLe,h]
     |true=>exact low h rfl
  ·have h':c<a:=Int.not_le.mp h
   have e:lastLe (midZ a (b+1) v y c1 c2) c (lastLe (Z.take (cnt (Z.map Prod.fst) (a - 1))) c none)=lastLe (Z.take (cnt (Z.map Prod.fst) (a - 1))) c none:=lastLe_no fun p hp=>by
    rcases mid_in hp with e|e
    ·rw [e];exact h'
    ·rw [e];exact Int.lt_trans h' hab1
   rw [if_neg fun q=>h q.1,e,top (Int.le_trans (Int.le_of_lt h') hab),←R.last hc hcm,←List.take_append_drop (cnt (Z.map Prod.fst) (a - 1)) Z,lastLe_app,List.take_append_drop]
   exact (lastLe_no fun p hp=>Int.lt_of_le_of_lt (Int.le_sub_one_of_lt h') ((cut_lo R.srt (a - 1)).2 p hp)).symm
theorem rm_put {α:Type} {ns:List Int} {ps:List α} {f:Int→α} (R:RMok ns ps f) {a b:Int} (ha:0≤a) (hab:a≤b) (hb:b≤MX) {v y:α} {c1 c2:Bool}
  (hy:b<MX→y=f (b+1)) (h1:c1=true→b<MX→f (b+1)=v) (h2:c2=true→0<a∧f (a - 1)=v):
  RMok (ns.take (cnt ns (a - 1))++midS a (b+1) c1 c2++ns.drop (cnt ns (b+1))) (ps.take (cnt ns (a - 1))++midV v y c1 c2++ps.drop (cnt ns (b+1))) (fun c=>if a≤c∧c≤b then v else f c):=by
 obtain ⟨Z,rfl,rfl⟩:∃ Z:List (Int×α),Z.map Prod.fst=ns∧Z.map Prod.snd=ps:=⟨ns.zip ps,List.map_fst_zip (Nat.le_of_eq R.len.symm),List.map_snd_zip (Nat.le_of_eq R.len)⟩
 have e1:midS a (b+1) c1 c2=(midZ a (b+1) v y c1 c2).map Prod.fst:=by cases c1<;>cases c2<;>rfl
 have e2:midV v y c1 c2=(midZ a (b+1) v y c1 c2).map Prod.snd:=by cases c1<;>cases c2<;>rfl
 rw [e1,e2,←List.map_take,←List.map_take,←List.map_drop,←List.map_drop,List.append_assoc,List.append_assoc,←List.map_append,←List.map_append,←List.map_append,←List.map_append]
 exact rm_putZ R ha hab hb hy h1 h2
theorem lm_add {w:World} {A:Around} {E:Value→Shared→Prop} {s:Shared} {h₀:Heap} {L a b:Addr} {news:Led} {vs ws:List Value} {k k2:Nat} {m:Str→Option Value} {Q:Value→Shared→Prop} (F:Fr h₀ L s.heap m) (N:News h₀ L s.heap news) (hm:(a,listOf vs.toArray k)∈news) (hm2:(b,listOf ws.toArray k2)∈news) (hz:vs.length+ws.length≤16384)
  (h:∀ D h',Fr h₀ L h' m→News h₀ L h' ((D,listOf (vs++ws).toArray 0)::news)→(∀ p∈news,p.1<D)→Q (.ref D) { s with heap:=h' }):
  wpAny (model PG w) A (binaryOp .Add (.ref a) (.ref b)) Q E s:=by
 refine kmk_add_lit F N (lm_list N hm) (lm_list N hm2) rfl (fun D h' F' N' l1=>h D h' F' ?_ l1) (by rw [sizeLine_eq];simp only [Array.length_toList,List.size_toArray] at *;omega)
 simpa using N'
noncomputable def Likeable (w:World):PV→PV→Prop
 | .str _,.str _=>True
 | .int _,.int _=>True
 | .none,.str _=>True
 | .none,.int _=>True
 | .none,.bytes _=>True
 | .none,.ref a=>∃ its,TopTup w a its
 |_,_=>False
noncomputable abbrev daD (w:World) (t1 t2 t3 t4:Tok) (dd dm dp dw:Addr):List DictEntry:=[⟨PyData.keyHash w.params (Str.ofString "defaults"),.str (Str.ofString "defaults") t1,.ref dd⟩,⟨PyData.keyHash w.params (Str.ofString "maps"),.str (Str.ofString "maps") t2,.ref dm⟩,⟨PyData.keyHash w.params (Str.ofString "properties"),.str (Str.ofString "properties") t3,.ref dp⟩,⟨PyData.keyHash w.params (Str.ofString "words"),.str (Str.ofString "words") t4,.ref dw⟩]
theorem rm_new (p:PV):RMok [0] [p] (fun zq=>p):=by
 refine ⟨by simp,rfl,rfl,fun c hc zq=>?_⟩
 have:cnt [0] c=1:=by simp [cnt,hc]
 rw [this];rfl
noncomputable def updS (sg:Str→Int→PV) (nm:Str) (a b:Int) (q:PV):Str→Int→PV:=fun n c=>if n=nm then (if a≤c∧c≤b then q else sg n c) else sg n c
theorem ns_nonneg {ns:List Int} (hs:ns.Pairwise (· < ·)) (h0:ns[0]? =some 0):∀ x∈ns,0≤x:=by
 intro x hx
 obtain ⟨y,ns,rfl⟩:∃ y l,ns=y::l:=by cases ns with
  |nil=>simp at h0
  |cons y l=>exact ⟨y,l,rfl⟩
 have:y=0:=by simpa using h0
 subst this
 rcases List.mem_cons.mp hx with rfl|hx
 ·exact Int.le_refl _
 ·exact Int.le_of_lt ((List.pairwise_cons.mp hs).1 x hx)
theorem RMok.congr {α:Type} {ns:List Int} {ps:List α} {f g:Int→α} (h:RMok ns ps f) (e:∀ c,f c=g c):RMok ns ps g:=⟨h.srt,h.zero,h.len,fun c a b=>by rw [←e];exact h.look c a b⟩
noncomputable def strOf (ds:List Int):Str:=⟨(ds.reverse.map Int.toNat).toArray⟩
theorem strOf_len (ds:List Int):(strOf ds).cps.size=ds.length:=by simp [strOf]
theorem dg_in:∀ (f:Nat) (r:Int) (k:Nat),∀ x∈dg f r k,48≤x∧x<71
 |0,_,_,x,h=>nomatch h
 |f+1,r,k,x,h=>by
  unfold dg at h
  split at h
  ·rcases List.mem_cons.mp h with rfl|h
   ·exact hdig_in r
   ·exact dg_in f _ _ x h
  ·nomatch h
theorem dg_len:∀ (f:Nat) (r:Int) (k:Nat),(dg f r k).length≤f
 |0,_,_=>Nat.le_refl _
 |f+1,r,k=>by
  unfold dg
  split
  ·simp only [List.length_cons];have:=dg_len f (r / 16) (k+1);omega
  ·simp
noncomputable def ucB:Option Int→Array UInt8
 | .none=>#[]
 | .some n=>hexB n
theorem byteArr_size (ns:List Int):(byteArr ns).size=ns.length:=by simp [byteArr]
theorem hexB_size (n:Int):(hexB n).size≤8:=by
 unfold hexB;rw [byteArr_size,List.length_reverse];exact dg_len _ _ _
theorem ddg_len:∀ (f:Nat) (r:Int),(ddg f r).length≤f
 |0,_=>Nat.le_refl _
 |f+1,r=>by
  unfold ddg
  split
  ·simp only [List.length_cons];have:=ddg_len f (r / 10);omega
  ·simp
theorem decB_size (n:Int):(decB n).size≤10:=by
 unfold decB;rw [byteArr_size,List.length_reverse,List.length_cons];have:=ddg_len 9 (n / 10);omega
theorem encA_size (z:Str):(encA z).size=z.cps.size:=by unfold encA;rw [byteArr_size,codesI_len]
noncomputable def fracB (n d:Int):Array UInt8:=(if n<0 then #[45]++decB (-n) else decB n)++(if d=1 then #[] else #[47]++decB d)
theorem fracB_size (n d:Int):(fracB n d).size≤22:=by
 unfold fracB
 have z1:=decB_size n
 have z2:=decB_size (-n)
 have z3:=decB_size d
 split<;>split<;>simp only [Array.size_append,List.size_toArray,List.length_cons,List.length_nil]<;>omega
theorem foldSize_le {sep:Array UInt8} {bs:List (Array UInt8)} {K:Nat} (h:∀ b∈bs,b.size≤K):RB.foldSize sep bs≤(sep.size+K)*bs.length:=by
 have h1:(bs.map (·.size)).sum≤K*bs.length:=by
  induction bs with
  |nil=>simp
  |cons b bs ih=>
   have:=ih fun x hx=>h x (.tail _ hx)
   have:=h b (.head _)
   simp only [List.map_cons,List.sum_cons,List.length_cons,Nat.mul_add]
   omega
 unfold RB.foldSize
 have e:bs.toArray.size=bs.length:=by simp
 rw [←Array.foldl_toList,e]
 show bs.foldl (fun k b=>k+b.size) _≤_
 rw [RB.foldl_size]
 have h2:sep.size*(bs.length - 1)≤sep.size*bs.length:=Nat.mul_le_mul_left _ (by omega)
 rw [Nat.add_mul];omega
theorem joinB_size {sep:Array UInt8} {bs:List (Array UInt8)}:(Builtin.Bytes.joined sep bs).size≤RB.foldSize sep bs:=RB.joined_size sep bs
inductive MapV (w:World):Value→Option (Str×List Int)→Prop
 |none:MapV w .none .none
 |some {a b:Addr} {tag:Str} {t:Tok} {vs:List Value} {ns:List Int}:TopTup w a [.str tag t,.ref b].toArray→TopTup w b vs.toArray→IntsAre vs ns→(∀ n∈ns,0≤n∧n<2097152)→ns.length≤10→tag.cps.size≤100→(∀ c∈codesI tag,0≤c∧c<128)→MapV w (.ref a) (.some (tag,ns))
noncomputable abbrev joinB:=Builtin.Bytes.joined
noncomputable def mapB:Option (Str×List Int)→Array UInt8
 | .none=>#[]
 | .some (tag,ns)=>if (tag==Str.ofString "")=true then joinB #[32] (ns.map hexB) else #[60]++encA tag++#[62,32]++joinB #[32] (ns.map hexB)
theorem mapB_size {w:World} {v:Value} {sp:Option (Str×List Int)} (hv:MapV w v sp):(mapB sp).size≤300:=by
 cases hv with
 |none=>simp [mapB]
 |@some a b tag tg vs ns T1 T2 iv hb hl hs ha=>
  have hz:RB.foldSize #[32] (ns.map hexB)≤(1+8)*(ns.map hexB).length:=foldSize_le (sep:=#[32]) (K:=8) fun b hb=>by
   obtain ⟨n,_,rfl⟩:=List.mem_map.mp hb
   exact hexB_size n
  rw [List.length_map] at hz
  have hz3:(joinB #[32] (ns.map hexB)).size≤_:=joinB_size (sep:=#[32]) (bs:=ns.map hexB)
  have hz4:=encA_size tag
  unfold mapB
  dsimp only
  split
  ·show (joinB #[32] (ns.map hexB)).size≤300;omega
  ·simp only [Array.size_append,List.size_toArray,List.length_cons,List.length_nil]
   show _+(joinB #[32] (ns.map hexB)).size≤300
   omega
noncomputable def codeS:Option Int→Str
 | .none=>Str.ofString ""
 | .some n=>strOf (dg 8 n 0)
theorem codesI_app (a b:Str):codesI (a++b)=codesI a++codesI b:=by
 show (((a.cps++b.cps).toList).map fun c:Nat=>(c:Int))=_
 simp [codesI]
theorem codesI_strOf (ds:List Int) (h:∀ x∈ds,0≤x):codesI (strOf ds)=ds.reverse:=by
 unfold codesI strOf
 simp only [List.map_reverse]
 rw [List.map_map]
 congr 1
 conv=>rhs;rw [←List.map_id ds]
 refine List.map_congr_left fun x hx=>?_
 have:=h x hx
 simp only [Function.comp,id]
 omega
noncomputable def Asc (z:Str):Prop:=∀ c∈codesI z,0≤c∧c<128
theorem Asc.app {a b:Str} (h:Asc a) (k:Asc b):Asc (a++b):=fun c hc=>by
 rw [codesI_app] at hc
 rcases List.mem_append.mp hc with hc|hc
 ·exact h c hc
 ·exact k c hc
theorem Asc.hex (n:Int):Asc (strOf (dg 8 n 0)):=fun c hc=>by
 have hd:=dg_in 8 n 0
 rw [codesI_strOf _ (fun x hx=>by have:=hd x hx;omega)] at hc
 have:=hd c (List.mem_reverse.mp hc)
 omega
noncomputable def Asc.lit (z:Str) (h:(codesI z).all (fun c=>decide (0≤c)&&decide (c<128))=true):Asc z:=fun c hc=>by
 have:=List.all_eq_true.mp h c hc
 simpa using this
theorem size_app (a b:Str):(a++b).cps.size=a.cps.size+b.cps.size:=by
 show (a.cps++b.cps).size=_
 simp
noncomputable def lineS (a b:Int) (z:Str):Str:=strOf (dg 8 a 0)++(if a≠b then Str.ofString ".."++strOf (dg 8 b 0) else Str.ofString "")++Str.ofString " ; "++z
theorem lineS_size (a b:Int) (z:Str):(lineS a b z).cps.size≤21+z.cps.size:=by
 unfold lineS
 have h1:=strOf_len (dg 8 a 0)
 have h2:=strOf_len (dg 8 b 0)
 have h3:=dg_len 8 a 0
 have h4:=dg_len 8 b 0
 split<;>simp only [size_app]
 ·have e1:(Str.ofString "..").cps.size=2:=by decide+kernel
  have e2:(Str.ofString " ; ").cps.size=3:=by decide+kernel
  omega
 ·have e1:(Str.ofString "").cps.size=0:=by decide+kernel
  have e2:(Str.ofString " ; ").cps.size=3:=by decide+kernel
  omega
theorem lineS_asc {a b:Int} {z:Str} (h:Asc z):Asc (lineS a b z):=by
 unfold lineS
 refine ((Asc.app (.hex a) ?_).app (Asc.lit _ (by decide+kernel))).app h
 split
 ·exact (Asc.lit _ (by decide+kernel)).app (.hex b)
 ·exact Asc.lit _ (by decide+kernel)
noncomputable def hexS (n:Int):Str:=strOf (dg 8 n 0)
noncomputable def mapS:Option (Str×List Int)→Str
 | .none=>Str.ofString ""
 | .some (tag,ns)=>(if (tag==Str.ofString "")=true then Str.ofString "" else Str.ofString "<"++tag++Str.ofString "> ")++Txt.join (Str.ofString " ") (ns.map hexS)
inductive NumV (w:World):Value→Option (Int×Int)→Prop
 |none:NumV w .none .none
 |some {a:Addr} {n d:Int} {t1 t2:Tok}:TopTup w a [.int n t1,.int d t2].toArray→ -2097152<n→n<2097152→0<d→d<2097152→NumV w (.ref a) (.some (n,d))
inductive KindV:Value→Option Str→Prop
 |none:KindV .none .none
 |de (t:Tok):KindV (.str (Str.ofString "de") t) (.some (Str.ofString "de"))
 |di (t:Tok):KindV (.str (Str.ofString "di") t) (.some (Str.ofString "di"))
 |nu (t:Tok):KindV (.str (Str.ofString "nu") t) (.some (Str.ofString "nu"))
noncomputable def numB:Option Str→Option (Int×Int)→List (Array UInt8)
 | .some k,.some (n,d)=>[if k=Str.ofString "de" then fracB n d else #[],if k=Str.ofString "de"∨k=Str.ofString "di" then fracB n d else #[],fracB n d]
 |_,_=>[#[],#[],#[]]
theorem numB_de (n d:Int):numB (.some (Str.ofString "de")) (.some (n,d))=[fracB n d,fracB n d,fracB n d]:=by
 show [if Str.ofString "de"=Str.ofString "de" then fracB n d else #[],if Str.ofString "de"=Str.ofString "de"∨Str.ofString "de"=Str.ofString "di" then fracB n d else #[],fracB n d]=_
 rw [if_pos rfl,if_pos (.inl rfl)]
theorem numB_di (n d:Int):numB (.some (Str.ofString "di")) (.some (n,d))=[#[],fracB n d,fracB n d]:=by
 show [if Str.ofString "di"=Str.ofString "de" then fracB n d else #[],if Str.ofString "di"=Str.ofString "de"∨Str.ofString "di"=Str.ofString "di" then fracB n d else #[],fracB n d]=_
 rw [if_neg (by decide+kernel),if_pos (.inr rfl)]
theorem numB_nu (n d:Int):numB (.some (Str.ofString "nu")) (.some (n,d))=[#[],#[],fracB n d]:=by
 show [if Str.ofString "nu"=Str.ofString "de" then fracB n d else #[],if Str.ofString "nu"=Str.ofString "de"∨Str.ofString "nu"=Str.ofString "di" then fracB n d else #[],fracB n d]=_
 rw [if_neg (by decide+kernel),if_neg (by decide+kernel)]
noncomputable def figS:PV→Str
 | .ref 384=>Str.ofString "5"| .ref 386=>Str.ofString "9"| .ref 388=>Str.ofString "1/2"| .ref 390=>Str.ofString "-1/2"| .ref 392=>Str.ofString "10000"| .ref 394=>Str.ofString "0"| .ref 397=>Str.ofString "7"| .ref 399=>Str.ofString "1/2"| .ref 401=>Str.ofString "-3/4"|_=>Str.ofString ""
noncomputable def numS:PV→PV→List Str
 | .str k,.ref a=>[if k=Str.ofString "de" then figS (.ref a) else Str.ofString "",if k=Str.ofString "de"∨k=Str.ofString "di" then figS (.ref a) else Str.ofString "",figS (.ref a)]
 |_,_=>[Str.ofString "",Str.ofString "",Str.ofString ""]
noncomputable def numPairs:List (PV×PV):=[(.none,.none),(.str (Str.ofString "de"),.ref 384),(.str (Str.ofString "di"),.ref 386),(.str (Str.ofString "nu"),.ref 388),(.str (Str.ofString "nu"),.ref 390),(.str (Str.ofString "nu"),.ref 392),(.str (Str.ofString "de"),.ref 394),(.str (Str.ofString "de"),.none),(.none,.ref 397),(.str (Str.ofString "de"),.ref 399),(.str (Str.ofString "di"),.ref 401)]
theorem usedAll:Str.ofString "name"∈usedNames∧Str.ofString "gc"∈usedNames∧Str.ofString "ccc"∈usedNames∧Str.ofString "bc"∈usedNames∧Str.ofString "dm"∈usedNames∧Str.ofString "nt"∈usedNames∧Str.ofString "nv"∈usedNames∧Str.ofString "uc"∈usedNames∧Str.ofString "lc"∈usedNames∧Str.ofString "tc"∈usedNames:=by decide+kernel
structure RowI where
 name:Option (Array UInt8)
 gc:Str
 ccc:Int
 bc:Str
 dm:Option (Str×List Int)
 kd:Option Str
 nv:Option (Int×Int)
 uc:Option Int
 lc:Option Int
 tc:Option Int
inductive NameV:Value→Option (Array UInt8)→Prop
 |none:NameV .none .none
 |some (b:Array UInt8) (t:Tok):b.size≤100→NameV (.bytes b t) (.some b)
structure RowAt (w:World) (sg:Str→Int→PV) (c:Int) (r:RowI):Prop where
 name:∀ v,IsV v (sg (Str.ofString "name") c)→NameV v r.name
 gc:sg (Str.ofString "gc") c= .str r.gc
 gcz:r.gc.cps.size≤100
 gca:Asc r.gc
 ccc:sg (Str.ofString "ccc") c= .int r.ccc
 ccc0:0≤r.ccc∧r.ccc<2097152
 bc:sg (Str.ofString "bc") c= .str r.bc
 bcz:r.bc.cps.size≤100
 bca:Asc r.bc
 dm:∀ v,IsV v (sg (Str.ofString "dm") c)→MapV w v r.dm
 nt:∀ v,IsV v (sg (Str.ofString "nt") c)→KindV v r.kd
 nv:∀ v,IsV v (sg (Str.ofString "nv") c)→NumV w v r.nv
 uc:∀ v,IsV v (sg (Str.ofString "uc") c)→OptInt r.uc v
 lc:∀ v,IsV v (sg (Str.ofString "lc") c)→OptInt r.lc v
 tc:∀ v,IsV v (sg (Str.ofString "tc") c)→OptInt r.tc v
 ucr:∀ n,r.uc=some n→0≤n∧n<2097152
 lcr:∀ n,r.lc=some n→0≤n∧n<2097152
 tcr:∀ n,r.tc=some n→0≤n∧n<2097152
noncomputable def ctlB:Array UInt8:=#[60,99,111,110,116,114,111,108,62]
noncomputable def rowFields (r:RowI) (c:Int):List (Array UInt8):=[hexB c,r.name.getD ctlB,encA r.gc,decB r.ccc,encA r.bc,mapB r.dm]++numB r.kd r.nv++[#[78],#[],#[],ucB r.uc,ucB r.lc,ucB r.tc]
noncomputable def rowB (r:RowI) (c:Int):Array UInt8:=joinB #[59] (rowFields r c)++#[10]
set_option tactic.hygienic true
theorem numB_size (k:Option Str) (v:Option (Int×Int)):∀ b∈numB k v,b.size≤22:=by
 intro b hb
 unfold numB at hb
 split at hb
 ·rename_i n d
  have z:=fracB_size n d
  simp only [List.mem_cons,List.not_mem_nil,or_false] at hb
  rcases hb with rfl|rfl|rfl
  ·split
   ·exact z
   ·simp
  ·split
   ·exact z
   ·simp
  ·exact z
 ·simp at hb;subst hb;simp
set_option tactic.hygienic false
theorem ucB_size (o:Option Int):(ucB o).size≤8:=by
 cases o with
 |none=>simp [ucB]
 |some n=>exact hexB_size n
noncomputable def namePVs:List PV:=[.none,.bytes #[76,65,84,73,78,32,65],.bytes #[88,45,49,32,79,70,32,84,87,79]]
noncomputable def sortPVs:List PV:=[.none,.str (Str.ofString "Lu"),.str (Str.ofString "Nd")]
noncomputable def placeIs:List Int:=[0,230,9]
noncomputable def wayPVs:List PV:=[.none,.str (Str.ofString "R"),.str (Str.ofString "AN")]
noncomputable def mapPVs:List PV:=[.none,.ref 375,.ref 377,.ref 379,.ref 381]
noncomputable def casePVs:List PV:=[.none,.int 65,.int 233,.int 125184]
structure TC where
 name:PV
 sort:PV
 place:Int
 way:PV
 map:PV
 nk:PV
 nv:PV
 uc:PV
 lc:PV
 tc:PV
structure TC.ok (t:TC):Prop where
 name:t.name∈namePVs
 sort:t.sort∈sortPVs
 place:t.place∈placeIs
 way:t.way∈wayPVs
 map:t.map∈mapPVs
 num:(t.nk,t.nv)∈numPairs
 uc:t.uc∈casePVs
 lc:t.lc∈casePVs
 tc:t.tc∈casePVs
noncomputable def nameS:PV→Str
 | .bytes b=>decS b
 |_=>Str.ofString "<control>"
noncomputable def sortS:PV→Str
 | .str s=>s
 |_=>Str.ofString "Cn"
noncomputable def wayS:PV→Str
 | .str s=>s
 |_=>Str.ofString "L"
noncomputable def placeS (n:Int):Str:=if n=230 then Str.ofString "230" else if n=9 then Str.ofString "9" else Str.ofString "0"
noncomputable def caseO:PV→Option Int
 | .int n=>some n
 |_=>none
noncomputable def caseS (p:PV):Str:=codeS (caseO p)
noncomputable def mapSp:PV→Option (Str×List Int)
 | .ref 375=>some (Str.ofString "",[65])
 | .ref 377=>some (Str.ofString "",[65,768])
 | .ref 379=>some (Str.ofString "font",[120782])
 | .ref 381=>some (Str.ofString "compat",[32,769,1114111])
 |_=>none
noncomputable def toldS (t:TC) (c:Int):List Str:=[hexS c,nameS t.name,sortS t.sort,placeS t.place,wayS t.way,mapS (mapSp t.map)]++numS t.nk t.nv++[Str.ofString "N",Str.ofString "",Str.ofString ""]++[caseS t.uc,caseS t.lc,caseS t.tc]
noncomputable def toldB (t:TC) (c:Int):Array UInt8:=encA (Txt.join (Str.ofString ";") (toldS t c))++#[10]
noncomputable def okS (z:Str):Bool:=(codesI z).all (fun c=>decide (0≤c)&&decide (c<128))&&decide (z.cps.size≤100)
theorem okS_is {z:Str} (h:okS z=true):Asc z∧z.length≤100:=by
 unfold okS at h
 rw [Bool.and_eq_true] at h
 exact ⟨Asc.lit z h.1,of_decide_eq_true h.2⟩
theorem join_asc {sep:Str} (hs:Asc sep) (ys:List Str) (h:∀ y∈ys,Asc y):Asc (Txt.join sep ys):=by
 show Asc (Builtin.Str.glued sep ys)
 unfold Builtin.Str.glued
 have key:∀ (l:List Str) (acc:Array Nat),Asc ⟨acc⟩→(∀ y∈l,Asc y)→Asc ⟨l.foldl (fun acc p=>acc++sep.cps++p.cps) acc⟩:=by
  intro l
  induction l with
  |nil=>intro acc h _;exact h
  |cons y l ih=>
   intro acc ha hl
   rw [List.foldl_cons]
   refine ih _ ?_ fun z hz=>hl z (.tail _ hz)
   exact Asc.app (Asc.app (a:=⟨acc⟩) ha hs) (hl y (.head _))
 refine key _ _ ?_ fun y hy=>h y (List.mem_of_mem_drop hy)
 cases ys with
 |nil=>intro c hc;simp [codesI,Str.empty] at hc
 |cons y ys=>exact h y (.head _)
theorem sum_le {K:Nat}:∀ {l:List Str},(∀ y∈l,y.length≤K)→(l.map (·.length)).sum≤K*l.length
 |[],_=>by simp
 |y::l,h=>by
  have h1:=sum_le (l:=l) fun z hz=>h z (.tail _ hz)
  have h2:=h y (.head _)
  simp only [List.map_cons,List.sum_cons,List.length_cons,Nat.mul_add]
  omega
theorem toldS_ok {t:TC} (h:t.ok) (c:Int):∀ y∈toldS t c,Asc y∧y.length≤100:=by
 obtain ⟨h1,h2,h3,h4,h5,h6,h7,h8,h9⟩:=h
 have k1:∀ p∈namePVs,okS (nameS p)=true:=by decide+kernel
 have k2:∀ p∈sortPVs,okS (sortS p)=true:=by decide+kernel
 have k3:∀ n∈placeIs,okS (placeS n)=true:=by decide+kernel
 have k4:∀ p∈wayPVs,okS (wayS p)=true:=by decide+kernel
 have k5:∀ p∈mapPVs,okS (mapS (mapSp p))=true:=by decide+kernel
 have k6:∀ q∈numPairs,∀ z∈numS q.1 q.2,okS z=true:=by decide+kernel
 have k7:∀ p∈casePVs,okS (caseS p)=true:=by decide+kernel
 have k8:∀ z∈[Str.ofString "N",Str.ofString "",Str.ofString ""],okS z=true:=by decide+kernel
 intro y hy
 unfold toldS at hy
 rcases List.mem_append.mp hy with hy|hy
 ·rcases List.mem_append.mp hy with hy|hy
  ·rcases List.mem_append.mp hy with hy|hy
   ·simp only [List.mem_cons,List.not_mem_nil,or_false] at hy
    rcases hy with rfl|rfl|rfl|rfl|rfl|rfl
    ·refine ⟨.hex c,Nat.le_trans (Nat.le_of_eq (strOf_len _)) ?_⟩
     have:=dg_len 8 c 0;omega
    ·exact okS_is (k1 _ h1)
    ·exact okS_is (k2 _ h2)
    ·exact okS_is (k3 _ h3)
    ·exact okS_is (k4 _ h4)
    ·exact okS_is (k5 _ h5)
   ·exact okS_is (k6 _ h6 y hy)
  ·exact okS_is (k8 y hy)
 ·simp only [List.mem_cons,List.not_mem_nil,or_false] at hy
  rcases hy with rfl|rfl|rfl
  ·exact okS_is (k7 _ h7)
  ·exact okS_is (k7 _ h8)
  ·exact okS_is (k7 _ h9)
theorem optInt_of {v:Value} {p:PV} (h:IsV v p) (hp:p∈casePVs):OptInt (caseO p) v∧(∀ n,caseO p=some n→0≤n∧n<2097152):=by
 simp only [casePVs,List.mem_cons,List.not_mem_nil,or_false] at hp
 rcases hp with rfl|rfl|rfl|rfl<;>cases h
 ·exact ⟨.none,fun n h=>(nomatch h)⟩
 all_goals exact ⟨.some _ _,fun n h=>by cases h;omega⟩
theorem mapV_of {w:World} {v:Value} {p:PV} (h:IsV v p) (hp:p∈mapPVs):MapV w v (mapSp p):=by
 simp only [mapPVs,List.mem_cons,List.not_mem_nil,or_false] at hp
 have T1:TopTup w 375 [Value.str (Str.ofString "") 710,.ref 374].toArray:=fun h X=>tupK (l:=[Value.str (Str.ofString "") 710,.ref 374]) X (by k_is)
 have T2:TopTup w 374 [Value.int 65 711].toArray:=fun h X=>tupK (l:=[Value.int 65 711]) X (by k_is)
 have T3:TopTup w 377 [Value.str (Str.ofString "") 712,.ref 376].toArray:=fun h X=>tupK (l:=[Value.str (Str.ofString "") 712,.ref 376]) X (by k_is)
 have T4:TopTup w 376 [Value.int 65 713,.int 768 714].toArray:=fun h X=>tupK (l:=[Value.int 65 713,.int 768 714]) X (by k_is)
 have T5:TopTup w 379 [Value.str (Str.ofString "font") 715,.ref 378].toArray:=fun h X=>tupK (l:=[Value.str (Str.ofString "font") 715,.ref 378]) X (by k_is)
 have T6:TopTup w 378 [Value.int 120782 716].toArray:=fun h X=>tupK (l:=[Value.int 120782 716]) X (by k_is)
 have T7:TopTup w 381 [Value.str (Str.ofString "compat") 717,.ref 380].toArray:=fun h X=>tupK (l:=[Value.str (Str.ofString "compat") 717,.ref 380]) X (by k_is)
 have T8:TopTup w 380 [Value.int 32 718,.int 769 719,.int 1114111 720].toArray:=fun h X=>tupK (l:=[Value.int 32 718,.int 769 719,.int 1114111 720]) X (by k_is)
 rcases hp with rfl|rfl|rfl|rfl|rfl<;>cases h
 ·exact .none
 ·exact .some T1 T2 (.cons _ _ .nil) (by decide) (by decide) (by decide+kernel) (Asc.lit _ (by decide+kernel))
 ·exact .some T3 T4 (.cons _ _ (.cons _ _ .nil)) (by decide) (by decide) (by decide+kernel) (Asc.lit _ (by decide+kernel))
 ·exact .some T5 T6 (.cons _ _ .nil) (by decide) (by decide) (by decide+kernel) (Asc.lit _ (by decide+kernel))
 ·exact .some T7 T8 (.cons _ _ (.cons _ _ (.cons _ _ .nil))) (by decide) (by decide) (by decide+kernel) (Asc.lit _ (by decide+kernel))
theorem numS_len (a b:PV):(numS a b).length=3:=by unfold numS;split<;>rfl
set_option tactic.hygienic true
theorem str_place {w:World} {A:Around} {E:Value→Shared→Prop} {s:Shared} {n:Int} {t:Tok} {Q:Value→Shared→Prop} (hn:n∈placeIs) (h:∀ t' k,Q (.str (placeS n) t') { s with toks:=k }):wpAny (model PG w) A (call (.type "str") [.int n t]) Q E s:=by
 simp only [placeIs,List.mem_cons,List.not_mem_nil,or_false] at hn
 rcases hn with rfl|rfl|rfl
 ·have e:placeS 0=Str.ofString (toString (0:Int)):=by decide+kernel
  k_steps
  rw [e] at h;exact h _ _
 ·have e:placeS 230=Str.ofString (toString (230:Int)):=by decide+kernel
  k_steps
  rw [e] at h;exact h _ _
 ·have e:placeS 9=Str.ofString (toString (9:Int)):=by decide+kernel
  k_steps
  rw [e] at h;exact h _ _
set_option tactic.hygienic false
noncomputable abbrev wellO (ac:Addr) (spot:Int) (t:Tok) (k:Nat):Obj:=listOf #[.ref ac,.int spot t] k
theorem tt373 (w:World):TopTup w 373 [Value.none,.bytes #[76,65,84,73,78,32,65] 707,.bytes #[88,45,49,32,79,70,32,84,87,79] 708].toArray:=fun h X=>tupK (l:=[Value.none,.bytes #[76,65,84,73,78,32,65] 707,.bytes #[88,45,49,32,79,70,32,84,87,79] 708]) X (by k_is)
theorem tt382 (w:World):TopTup w 382 [Value.none,.ref 375,.ref 377,.ref 379,.ref 381].toArray:=fun h X=>tupK (l:=[Value.none,.ref 375,.ref 377,.ref 379,.ref 381]) X (by k_is)
theorem tt403 (w:World):TopTup w 403 [Value.ref 383,.ref 385,.ref 387,.ref 389,.ref 391,.ref 393,.ref 395,.ref 396,.ref 398,.ref 400,.ref 402].toArray:=fun h X=>tupK (l:=[Value.ref 383,.ref 385,.ref 387,.ref 389,.ref 391,.ref 393,.ref 395,.ref 396,.ref 398,.ref 400,.ref 402]) X (by k_is)
theorem tt404 (w:World):TopTup w 404 [Value.none,.int 65 752,.int 233 753,.int 125184 754].toArray:=fun h X=>tupK (l:=[Value.none,.int 65 752,.int 233 753,.int 125184 754]) X (by k_is)
theorem nameB {p:PV} (h:p∈namePVs):p= .none∨∃ b,p= .bytes b∧b.size≤100∧∀ k∈KBw.bInts b,0≤k∧k<128:=by
 simp only [namePVs,List.mem_cons,List.not_mem_nil,or_false] at h
 rcases h with rfl|rfl|rfl
 ·exact .inl rfl
 ·exact .inr ⟨_,rfl,by decide,by decide+kernel⟩
 ·exact .inr ⟨_,rfl,by decide,by decide+kernel⟩
noncomputable def TC.rows (t:TC):List (Str×PV):=[(Str.ofString "name",t.name),(Str.ofString "gc",t.sort),(Str.ofString "ccc",if 0<t.place then .int t.place else .none),(Str.ofString "bc",t.way),(Str.ofString "dm",t.map),(Str.ofString "nt",t.nk),(Str.ofString "nv",t.nv),(Str.ofString "uc",t.uc),(Str.ofString "lc",t.lc),(Str.ofString "tc",t.tc)]
noncomputable def sgRows (sg:Str→Int→PV) (c:Int) (rows:List (Str×PV)):Str→Int→PV:=rows.foldl (fun s r=>if r.2= .none then s else updS s r.1 c c r.2) sg
theorem sgRows_snoc (sg:Str→Int→PV) (c:Int) (rows:List (Str×PV)) (n:Str) (p:PV):sgRows sg c (rows++[(n,p)])=if p= .none then sgRows sg c rows else updS (sgRows sg c rows) n c c p:=by
 unfold sgRows;rw [List.foldl_append];rfl
theorem sgRows_off (c:Int) (n:Str) (d:Int) (hd:d≠c):∀ (rows:List (Str×PV)) (sg:Str→Int→PV),sgRows sg c rows n d=sg n d
 |[],sg=>rfl
 |(m,p)::rows,sg=>by
  show sgRows (if p= .none then sg else updS sg m c c p) c rows n d=_
  rw [sgRows_off c n d hd rows]
  split
  ·rfl
  ·unfold updS
   split
   ·rw [if_neg (by omega)]
   ·rfl
theorem dflts:dflt (Str.ofString "name")= .none∧dflt (Str.ofString "gc")= .str (Str.ofString "Cn")∧dflt (Str.ofString "ccc")= .int 0∧dflt (Str.ofString "bc")= .str (Str.ofString "L")∧dflt (Str.ofString "dm")= .none∧dflt (Str.ofString "nt")= .none∧dflt (Str.ofString "nv")= .none∧dflt (Str.ofString "uc")= .none∧dflt (Str.ofString "lc")= .none∧dflt (Str.ofString "tc")= .none:=by decide+kernel
theorem tt384 (w:World):TopTup w 384 [Value.int 5 723,.int 1 724].toArray:=fun h X=>tupK (l:=[Value.int 5 723,.int 1 724]) X (by k_is)
theorem tt386 (w:World):TopTup w 386 [Value.int 9 726,.int 1 727].toArray:=fun h X=>tupK (l:=[Value.int 9 726,.int 1 727]) X (by k_is)
theorem tt388 (w:World):TopTup w 388 [Value.int 1 729,.int 2 730].toArray:=fun h X=>tupK (l:=[Value.int 1 729,.int 2 730]) X (by k_is)
theorem tt390 (w:World):TopTup w 390 [Value.int (-1) 733,.int 2 734].toArray:=fun h X=>tupK (l:=[Value.int (-1) 733,.int 2 734]) X (by k_is)
theorem tt392 (w:World):TopTup w 392 [Value.int 10000 736,.int 1 737].toArray:=fun h X=>tupK (l:=[Value.int 10000 736,.int 1 737]) X (by k_is)
theorem tt394 (w:World):TopTup w 394 [Value.int 0 739,.int 1 740].toArray:=fun h X=>tupK (l:=[Value.int 0 739,.int 1 740]) X (by k_is)
theorem tt397 (w:World):TopTup w 397 [Value.int 7 742,.int 1 743].toArray:=fun h X=>tupK (l:=[Value.int 7 742,.int 1 743]) X (by k_is)
theorem tt399 (w:World):TopTup w 399 [Value.int 1 745,.int 2 746].toArray:=fun h X=>tupK (l:=[Value.int 1 745,.int 2 746]) X (by k_is)
theorem tt401 (w:World):TopTup w 401 [Value.int (-3) 749,.int 4 750].toArray:=fun h X=>tupK (l:=[Value.int (-3) 749,.int 4 750]) X (by k_is)
noncomputable def isTopT (w:World) (a:Addr):Bool:=match (hd.heap_39 w.params).lookup a with
 |some o=>(match o.cls with| .type "tuple"=>(match o.data with| .seq _ _=>true|_=>false)|_=>false)
 |none=>false
set_option tactic.hygienic true
theorem topT_of {w:World} {a:Addr} (h:isTopT w a=true):∃ its,TopTup w a its:=by
 unfold isTopT at h
 cases hl:(hd.heap_39 w.params).lookup a with
 |none=>rw [hl] at h;cases h
 |some o=>
  rw [hl] at h
  dsimp only at h
  split at h
  ·rename_i hc
   split at h
   ·rename_i its n hd'
    exact ⟨its,fun g X=>⟨o,X _ _ hl,hc,n,hd'⟩⟩
   ·cases h
  ·cases h
set_option tactic.hygienic false
noncomputable def likeB (w:World) (d p:PV):Bool:=match p with
 | .none=>true
 | .str _=>(match d with| .str _=>true| .none=>true|_=>false)
 | .int _=>(match d with| .int _=>true| .none=>true|_=>false)
 | .bytes _=>(match d with| .none=>true|_=>false)
 | .ref a=>(match d with| .none=>isTopT w a|_=>false)
 | .bool _=>false
theorem likeB_ok {w:World} {d p:PV} (h:likeB w d p=true) (hp:p≠.none):Likeable w d p:=by
 cases p with
 |none=>exact absurd rfl hp
 |str=>cases d<;>first|exact trivial|cases h
 |int=>cases d<;>first|exact trivial|cases h
 |bytes=>cases d<;>first|exact trivial|cases h
 |ref a=>cases d<;>first|exact topT_of h|cases h
 |bool=>cases h
noncomputable def rowOK (w:World) (r:Str×PV):Prop:=r.1∈usedNames∧(r.2≠.none→Likeable w (dflt r.1) r.2)
theorem row_of {w:World} {n:Str} {l:List PV} {p:PV} (h:(decide (n∈usedNames)&&l.all (likeB w (dflt n)))=true) (hp:p∈l):rowOK w (n,p):=
 have h:=(Bool.and_eq_true_iff).mp h
 ⟨of_decide_eq_true h.1,likeB_ok (List.all_eq_true.mp h.2 p hp)⟩
theorem TC.rows_ok (w:World) (t:TC) (h:t.ok):∀ n p,(n,p)∈t.rows→n∈usedNames∧(p≠.none→Likeable w (dflt n) p):=fun n p hp=>by
 have hc:rowOK w (Str.ofString "ccc",if 0<t.place then .int t.place else .none):=by
  split
  ·exact row_of (l:=[.int t.place]) (by kernel_rfl) (.head _)
  ·exact row_of (l:=[.none]) (by kernel_rfl) (.head _)
 have:∀ r∈t.rows,rowOK w r:=List.forall_mem_cons.mpr ⟨row_of (by kernel_rfl) h.name,List.forall_mem_cons.mpr ⟨row_of (by kernel_rfl) h.sort,List.forall_mem_cons.mpr ⟨hc,List.forall_mem_cons.mpr ⟨row_of (by kernel_rfl) h.way,List.forall_mem_cons.mpr ⟨row_of (by kernel_rfl) h.map,List.forall_mem_cons.mpr ⟨row_of (l:=numPairs.map Prod.fst) (by kernel_rfl) (List.mem_map_of_mem (f:=Prod.fst) h.num),List.forall_mem_cons.mpr ⟨row_of (l:=numPairs.map Prod.snd) (by kernel_rfl) (List.mem_map_of_mem (f:=Prod.snd) h.num),List.forall_mem_cons.mpr ⟨row_of (by kernel_rfl) h.uc,List.forall_mem_cons.mpr ⟨row_of (by kernel_rfl) h.lc,List.forall_mem_cons.mpr ⟨row_of (by kernel_rfl) h.tc,List.forall_mem_nil _⟩⟩⟩⟩⟩⟩⟩⟩⟩⟩
 exact this (n,p) hp
end
section
set_option tactic.hygienic false
noncomputable def nameB':PV→Option (Array UInt8)
 | .bytes b=>some b
 |_=>none
noncomputable def kindO:PV→Option Str
 | .str s=>some s
 |_=>none
noncomputable def numO:PV→Option (Int×Int)
 | .ref 384=>some (5,1)| .ref 386=>some (9,1)| .ref 388=>some (1,2)| .ref 390=>some (-1,2)| .ref 392=>some (10000,1)| .ref 394=>some (0,1)| .ref 397=>some (7,1)| .ref 399=>some (1,2)| .ref 401=>some (-3,4)|_=>none
noncomputable def rowI (t:TC):RowI:=⟨nameB' t.name,sortS t.sort,t.place,wayS t.way,mapSp t.map,kindO t.nk,numO t.nv,caseO t.uc,caseO t.lc,caseO t.tc⟩
theorem byteArr_app (a b:List Int):byteArr (a++b)=byteArr a++byteArr b:=by simp [byteArr]
theorem encA_app (a b:Str):encA (a++b)=encA a++encA b:=by unfold encA;rw [codesI_app,byteArr_app]
theorem encA_hex (n:Int):encA (strOf (dg 8 n 0))=hexB n:=by
 unfold encA hexB
 rw [codesI_strOf _ fun x hx=>by have:=dg_in 8 n 0 x hx;omega]
theorem joined_cons (sep b:Array UInt8) (bs:List (Array UInt8)):joinB sep (b::bs)=b++(bs.foldl (fun a x=>a++sep++x) #[]):=by
 have key:∀ (l:List (Array UInt8)) (k:Nat) (out:Array UInt8),0<k→(l.zipIdx k).foldl (fun out (x:Array UInt8×Nat)=>(if x.2>0 then out++sep else out)++x.1) out=out++l.foldl (fun a x=>a++sep++x) #[]:=by
  intro l
  induction l with
  |nil=>intro k out _;simp
  |cons b l ih=>
   intro k out hk
   have e:∀ (l:List (Array UInt8)) (x y:Array UInt8),l.foldl (fun a x=>a++sep++x) (x++y)=x++l.foldl (fun a x=>a++sep++x) y:=by
    intro l
    induction l with
    |nil=>intro x y;rfl
    |cons c l ih2=>intro x y;rw [List.foldl_cons,List.foldl_cons,Array.append_assoc,Array.append_assoc,ih2,Array.append_assoc]
   rw [List.zipIdx_cons,List.foldl_cons,ih (k+1) _ (by omega),List.foldl_cons]
   simp only [gt_iff_lt,hk,if_true]
   have:=e l (sep++b) #[]
   simp only [Array.append_empty,Array.empty_append] at this ⊢
   rw [this]
   simp only [Array.append_assoc]
 show ((b::bs).zipIdx.foldl (fun out (x:Array UInt8×Nat)=>(if x.2>0 then out++sep else out)++x.1) #[])=_
 rw [List.zipIdx_cons,List.foldl_cons]
 have:=key bs 1 b (by omega)
 simpa using this
theorem encA_join (sep:Str) (ys:List Str):encA (Txt.join sep ys)=joinB (encA sep) (ys.map encA):=by
 cases ys with
 |nil=>rfl
 |cons y ys=>
  rw [List.map_cons,joined_cons]
  show encA ⟨((y::ys).drop 1).foldl (fun acc p=>acc++sep.cps++p.cps) y.cps⟩=_
  have key:∀ (l:List Str) (acc:Str),encA ⟨l.foldl (fun acc p=>acc++sep.cps++p.cps) acc.cps⟩=encA acc++(l.map encA).foldl (fun a x=>a++encA sep++x) #[]:=by
   intro l
   induction l with
   |nil=>intro acc;simp
   |cons z l ih=>
    intro acc
    rw [List.foldl_cons]
    have:=ih (acc++sep++z)
    have e:(acc++sep++z).cps=acc.cps++sep.cps++z.cps:=rfl
    rw [e] at this
    rw [this,encA_app,encA_app,List.map_cons,List.foldl_cons]
    have e2:∀ (l:List (Array UInt8)) (x y:Array UInt8),l.foldl (fun a x=>a++encA sep++x) (x++y)=x++l.foldl (fun a x=>a++encA sep++x) y:=by
     intro l
     induction l with
     |nil=>intro x y;rfl
     |cons c l ih2=>intro x y;rw [List.foldl_cons,List.foldl_cons,Array.append_assoc,Array.append_assoc,ih2,Array.append_assoc]
    have:=e2 (l.map encA) (encA sep++encA z) #[]
    simp only [Array.append_empty,Array.empty_append] at this ⊢
    rw [this]
    simp only [Array.append_assoc]
  exact key ys y
theorem told_row {t:TC} (h:t.ok) (c:Int):rowB (rowI t) c=toldB t c:=by
 obtain ⟨h1,h2,h3,h4,h5,h6,h7,h8,h9⟩:=h
 have k1:∀ p∈namePVs,(nameB' p).getD ctlB=encA (nameS p):=by decide+kernel
 have k3:∀ n∈placeIs,decB n=encA (placeS n):=by decide+kernel
 have k5:∀ p∈mapPVs,mapB (mapSp p)=encA (mapS (mapSp p)):=by decide+kernel
 have k6:∀ q∈numPairs,numB (kindO q.1) (numO q.2)=(numS q.1 q.2).map encA:=by decide+kernel
 have k7:∀ p∈casePVs,ucB (caseO p)=encA (caseS p):=by decide+kernel
 unfold rowB toldB
 congr 1
 rw [encA_join]
 have e:encA (Str.ofString ";")= #[59]:=by decide+kernel
 rw [e]
 congr 1
 unfold rowFields toldS rowI
 dsimp only
 rw [k1 _ h1,k3 _ h3,k5 _ h5,k6 _ h6,k7 _ h7,k7 _ h8,k7 _ h9]
 have n1:encA (Str.ofString "N")= #[78]:=by decide+kernel
 have n2:encA (Str.ofString "")= #[]:=by decide+kernel
 simp only [List.map_append,List.map_cons,List.map_nil,n1,n2]
 rw [show encA (hexS c)=hexB c from encA_hex c]
 simp only [List.append_assoc,List.cons_append,List.nil_append]
noncomputable def sg0:Str→Int→PV:=fun n zq=>dflt n
noncomputable def sgAll (tcf:Int→TC) (s:Str→Int→PV) (cs:List Int):Str→Int→PV:=cs.foldl (fun s c=>sgRows s c (tcf c).rows) s
theorem sgAll_off (tcf:Int→TC) (n:Str) (d:Int):∀ (cs:List Int) (s:Str→Int→PV),d∉cs→sgAll tcf s cs n d=s n d
 |[],_,_=>rfl
 |c::cs,s,h=>by
  show sgAll tcf (sgRows s c (tcf c).rows) cs n d=_
  rw [sgAll_off tcf n d cs _ (fun q=>h (.tail _ q)),sgRows_off _ _ _ (fun e=>h (by rw [e];exact .head _))]
theorem sgAll_snoc (tcf:Int→TC) (s:Str→Int→PV) (cs:List Int) (c:Int):sgAll tcf s (cs++[c])=sgRows (sgAll tcf s cs) c (tcf c).rows:=by
 unfold sgAll;rw [List.foldl_append];rfl
theorem sgAll_congr {f g:Int→TC}:∀ (cs:List Int) (s:Str→Int→PV),(∀ c∈cs,f c=g c)→sgAll f s cs=sgAll g s cs
 |[],_,_=>rfl
 |c::cs,s,h=>by
  show sgAll f (sgRows s c (f c).rows) cs=sgAll g (sgRows s c (g c).rows) cs
  rw [h c (.head _)]
  exact sgAll_congr cs _ fun d hd=>h d (.tail _ hd)
theorem sgRows_loc (c:Int) (n:Str):∀ (rows:List (Str×PV)) (s s':Str→Int→PV),s n c=s' n c→sgRows s c rows n c=sgRows s' c rows n c
 |[],_,_,h=>h
 |(m,p)::rows,s,s',h=>by
  show sgRows (if p= .none then s else updS s m c c p) c rows n c=sgRows (if p= .none then s' else updS s' m c c p) c rows n c
  refine sgRows_loc c n rows _ _ ?_
  split
  ·exact h
  ·unfold updS
   split
   ·rw [h]
   ·exact h
theorem sgRows_other (c:Int) (n:Str):∀ (rows:List (Str×PV)) (s:Str→Int→PV),n∉rows.map (·.1)→sgRows s c rows n c=s n c
 |[],_,_=>rfl
 |(m,p)::rows,s,h=>by
  show sgRows (if p= .none then s else updS s m c c p) c rows n c=_
  rw [sgRows_other c n rows _ (fun q=>h (by rw [List.map_cons];exact .tail _ q))]
  split
  ·rfl
  ·unfold updS
   rw [if_neg (fun e=>h (by rw [List.map_cons,e];exact .head _))]
theorem sgRows_app (s:Str→Int→PV) (c:Int) (A B:List (Str×PV)):sgRows s c (A++B)=sgRows (sgRows s c A) c B:=by unfold sgRows;rw [List.foldl_append]
theorem rows_val {s:Str→Int→PV} {c:Int} {n:Str} {p:PV} (A B:List (Str×PV)) (hA:n∉A.map (·.1)) (hB:n∉B.map (·.1)):sgRows s c (A++(n,p)::B) n c=if p= .none then s n c else p:=by
 rw [sgRows_app]
 show sgRows (if p= .none then sgRows s c A else updS (sgRows s c A) n c c p) c B n c=_
 rw [sgRows_other c n B _ hB]
 split
 ·exact sgRows_other c n A _ hA
 ·unfold updS
  rw [if_pos rfl,if_pos ⟨Int.le_refl _,Int.le_refl _⟩]
theorem sgAll_at {tcf:Int→TC} {n:Str} {d:Int} {cs:List Int} {s:Str→Int→PV} (hn:cs.Nodup) (hd:d∈cs):sgAll tcf s cs n d=sgRows s d (tcf d).rows n d:=by
 obtain ⟨A,B,rfl⟩:=List.append_of_mem hd
 have hn':=(List.perm_middle (a:=d) (l₁:=A) (l₂:=B)).nodup_iff.mp hn
 have h1:=(List.nodup_cons.mp hn').1
 have e:sgAll tcf s (A++d::B)=sgAll tcf (sgRows (sgAll tcf s A) d (tcf d).rows) B:=by unfold sgAll;rw [List.foldl_append];rfl
 rw [e,sgAll_off tcf n d B _ (fun q=>h1 (List.mem_append_right _ q))]
 exact sgRows_loc d n _ _ _ (sgAll_off tcf n d A s fun q=>h1 (List.mem_append_left _ q))
theorem vals (t:TC) (c:Int):sgRows sg0 c t.rows (Str.ofString "name") c=t.name∧sgRows sg0 c t.rows (Str.ofString "gc") c=(if t.sort= .none then .str (Str.ofString "Cn") else t.sort)∧sgRows sg0 c t.rows (Str.ofString "ccc") c=(if (if 0<t.place then PV.int t.place else .none)= .none then .int 0 else (if 0<t.place then PV.int t.place else .none))∧sgRows sg0 c t.rows (Str.ofString "bc") c=(if t.way= .none then .str (Str.ofString "L") else t.way)∧sgRows sg0 c t.rows (Str.ofString "dm") c=t.map∧sgRows sg0 c t.rows (Str.ofString "nt") c=t.nk∧sgRows sg0 c t.rows (Str.ofString "nv") c=t.nv∧sgRows sg0 c t.rows (Str.ofString "uc") c=t.uc∧sgRows sg0 c t.rows (Str.ofString "lc") c=t.lc∧sgRows sg0 c t.rows (Str.ofString "tc") c=t.tc:=by
 obtain ⟨d1,d2,d3,d4,d5,d6,d7,d8,d9,d10⟩:=dflts
 have go:∀ (n:Str) (A B:List (Str×PV)) (p:PV),t.rows=A++(n,p)::B→n∉A.map (·.1)→n∉B.map (·.1)→sgRows sg0 c t.rows n c=if p= .none then dflt n else p:=fun n A B p e hA hB=>by rw [e];exact rows_val A B hA hB
 have nn:∀ p:PV,(if p= .none then PV.none else p)=p:=fun p=>by split<;>simp_all
 refine ⟨?_,?_,?_,?_,?_,?_,?_,?_,?_,?_⟩
 ·rw [go _ [] _ t.name rfl (by simp) (show _∉[Str.ofString "gc",Str.ofString "ccc",Str.ofString "bc",Str.ofString "dm",Str.ofString "nt",Str.ofString "nv",Str.ofString "uc",Str.ofString "lc",Str.ofString "tc"] from by decide+kernel),d1,nn]
 ·rw [go _ [_] _ t.sort rfl (show _∉[Str.ofString "name"] from by decide+kernel) (show _∉[Str.ofString "ccc",Str.ofString "bc",Str.ofString "dm",Str.ofString "nt",Str.ofString "nv",Str.ofString "uc",Str.ofString "lc",Str.ofString "tc"] from by decide+kernel),d2]
 ·rw [go _ [_,_] _ (if 0<t.place then PV.int t.place else .none) rfl (show _∉[Str.ofString "name",Str.ofString "gc"] from by decide+kernel) (show _∉[Str.ofString "bc",Str.ofString "dm",Str.ofString "nt",Str.ofString "nv",Str.ofString "uc",Str.ofString "lc",Str.ofString "tc"] from by decide+kernel),d3]
 ·rw [go _ [_,_,_] _ t.way rfl (show _∉[Str.ofString "name",Str.ofString "gc",Str.ofString "ccc"] from by decide+kernel) (show _∉[Str.ofString "dm",Str.ofString "nt",Str.ofString "nv",Str.ofString "uc",Str.ofString "lc",Str.ofString "tc"] from by decide+kernel),d4]
 ·rw [go _ [_,_,_,_] _ t.map rfl (show _∉[Str.ofString "name",Str.ofString "gc",Str.ofString "ccc",Str.ofString "bc"] from by decide+kernel) (show _∉[Str.ofString "nt",Str.ofString "nv",Str.ofString "uc",Str.ofString "lc",Str.ofString "tc"] from by decide+kernel),d5,nn]
 ·rw [go _ [_,_,_,_,_] _ t.nk rfl (show _∉[Str.ofString "name",Str.ofString "gc",Str.ofString "ccc",Str.ofString "bc",Str.ofString "dm"] from by decide+kernel) (show _∉[Str.ofString "nv",Str.ofString "uc",Str.ofString "lc",Str.ofString "tc"] from by decide+kernel),d6,nn]
 ·rw [go _ [_,_,_,_,_,_] _ t.nv rfl (show _∉[Str.ofString "name",Str.ofString "gc",Str.ofString "ccc",Str.ofString "bc",Str.ofString "dm",Str.ofString "nt"] from by decide+kernel) (show _∉[Str.ofString "uc",Str.ofString "lc",Str.ofString "tc"] from by decide+kernel),d7,nn]
 ·rw [go _ [_,_,_,_,_,_,_] _ t.uc rfl (show _∉[Str.ofString "name",Str.ofString "gc",Str.ofString "ccc",Str.ofString "bc",Str.ofString "dm",Str.ofString "nt",Str.ofString "nv"] from by decide+kernel) (show _∉[Str.ofString "lc",Str.ofString "tc"] from by decide+kernel),d8,nn]
 ·rw [go _ [_,_,_,_,_,_,_,_] _ t.lc rfl (show _∉[Str.ofString "name",Str.ofString "gc",Str.ofString "ccc",Str.ofString "bc",Str.ofString "dm",Str.ofString "nt",Str.ofString "nv",Str.ofString "uc"] from by decide+kernel) (show _∉[Str.ofString "tc"] from by decide+kernel),d9,nn]
 ·rw [go _ [_,_,_,_,_,_,_,_,_] _ t.tc rfl (show _∉[Str.ofString "name",Str.ofString "gc",Str.ofString "ccc",Str.ofString "bc",Str.ofString "dm",Str.ofString "nt",Str.ofString "nv",Str.ofString "uc",Str.ofString "lc"] from by decide+kernel) (by simp),d10,nn]
theorem kind_of {t:PV} {v:Value} (h:IsV v t) (hk:t= .none∨t= .str (Str.ofString "de")∨t= .str (Str.ofString "di")∨t= .str (Str.ofString "nu")):KindV v (kindO t):=by
 rcases hk with rfl|rfl|rfl|rfl<;>cases h
 ·exact .none
 ·exact .de _
 ·exact .di _
 ·exact .nu _
theorem num_of (w:World) {t:PV} {v:Value} (h:IsV v t) (hk:t= .none∨t= .ref 384∨t= .ref 386∨t= .ref 388∨t= .ref 390∨t= .ref 392∨t= .ref 394∨t= .ref 397∨t= .ref 399∨t= .ref 401):NumV w v (numO t):=by
 rcases hk with rfl|rfl|rfl|rfl|rfl|rfl|rfl|rfl|rfl|rfl<;>cases h
 ·exact .none
 ·exact .some (tt384 w) (by decide) (by decide) (by decide) (by decide)
 ·exact .some (tt386 w) (by decide) (by decide) (by decide) (by decide)
 ·exact .some (tt388 w) (by decide) (by decide) (by decide) (by decide)
 ·exact .some (tt390 w) (by decide) (by decide) (by decide) (by decide)
 ·exact .some (tt392 w) (by decide) (by decide) (by decide) (by decide)
 ·exact .some (tt394 w) (by decide) (by decide) (by decide) (by decide)
 ·exact .some (tt397 w) (by decide) (by decide) (by decide) (by decide)
 ·exact .some (tt399 w) (by decide) (by decide) (by decide) (by decide)
 ·exact .some (tt401 w) (by decide) (by decide) (by decide) (by decide)
theorem row_at (w:World) {t:TC} (ok:t.ok) {sg:Str→Int→PV} {c:Int} (e:∀ n,sg n c=sgRows sg0 c t.rows n c):RowAt w sg c (rowI t):=by
 obtain ⟨v1,v2,v3,v4,v5,v6,v7,v8,v9,v10⟩:=vals t c
 obtain ⟨h1,h2,h3,h4,h5,h6,h7,h8,h9⟩:=ok
 have k2:∀ p∈sortPVs,okS (sortS p)=true:=by decide+kernel
 have k4:∀ p∈wayPVs,okS (wayS p)=true:=by decide+kernel
 have m2:∀ p∈sortPVs,(if p= .none then PV.str (Str.ofString "Cn") else p)= .str (sortS p):=by decide+kernel
 have m4:∀ p∈wayPVs,(if p= .none then PV.str (Str.ofString "L") else p)= .str (wayS p):=by decide+kernel
 have m3:∀ n∈placeIs,(if (if 0<n then PV.int n else .none)= .none then PV.int 0 else (if 0<n then PV.int n else .none))= .int n∧0≤n∧n<2097152:=by decide+kernel
 have m6:∀ q∈numPairs,(q.1= .none∨q.1= .str (Str.ofString "de")∨q.1= .str (Str.ofString "di")∨q.1= .str (Str.ofString "nu"))∧(q.2= .none∨q.2= .ref 384∨q.2= .ref 386∨q.2= .ref 388∨q.2= .ref 390∨q.2= .ref 392∨q.2= .ref 394∨q.2= .ref 397∨q.2= .ref 399∨q.2= .ref 401):=by decide+kernel
 refine ⟨?_,?_,(okS_is (k2 _ h2)).2,(okS_is (k2 _ h2)).1,?_,(m3 _ h3).2,?_,(okS_is (k4 _ h4)).2,(okS_is (k4 _ h4)).1,?_,?_,?_,?_,?_,?_,?_,?_,?_⟩
 ·intro v hv
  rw [e,v1] at hv
  simp only [namePVs,List.mem_cons,List.not_mem_nil,or_false] at h1
  rcases h1 with h|h|h<;>(rw [h] at hv;cases hv;unfold rowI;rw [h])
  ·exact .none
  ·exact .some _ _ (by decide)
  ·exact .some _ _ (by decide)
 ·rw [e,v2];exact m2 _ h2
 ·rw [e,v3];exact (m3 _ h3).1
 ·rw [e,v4];exact m4 _ h4
 ·intro v hv;rw [e,v5] at hv;exact mapV_of hv h5
 ·intro v hv;rw [e,v6] at hv;exact kind_of hv (m6 _ h6).1
 ·intro v hv;rw [e,v7] at hv;exact num_of w hv (m6 _ h6).2
 ·intro v hv;rw [e,v8] at hv;exact (optInt_of hv h7).1
 ·intro v hv;rw [e,v9] at hv;exact (optInt_of hv h8).1
 ·intro v hv;rw [e,v10] at hv;exact (optInt_of hv h9).1
 ·have q:∀ p∈casePVs,∀ n,caseO p=some n→0≤n∧n<2097152:=fun p hp n hn=>by
   simp only [casePVs,List.mem_cons,List.not_mem_nil,or_false] at hp
   rcases hp with rfl|rfl|rfl|rfl<;>cases hn<;>omega
  exact q _ h7
 ·have q:∀ p∈casePVs,∀ n,caseO p=some n→0≤n∧n<2097152:=fun p hp n hn=>by
   simp only [casePVs,List.mem_cons,List.not_mem_nil,or_false] at hp
   rcases hp with rfl|rfl|rfl|rfl<;>cases hn<;>omega
  exact q _ h8
 ·have q:∀ p∈casePVs,∀ n,caseO p=some n→0≤n∧n<2097152:=fun p hp n hn=>by
   simp only [casePVs,List.mem_cons,List.not_mem_nil,or_false] at hp
   rcases hp with rfl|rfl|rfl|rfl<;>cases hn<;>omega
  exact q _ h9
set_option tactic.hygienic true
section
set_option tactic.hygienic false
theorem eqAt_bytes {A:Around} {s:Shared} (b c:Array UInt8) (t u:Tok):SeqAt.EqAt A s (.bytes b t) (.bytes c u) (b.toList==c.toList):=fun prog w E Q h=>by
 unfold eqBool
 refine wpAny_holding ?_
 refine wpAny_ite_split (fun hab=>?_) (fun zq=>?_)
 ·have e:b=c:=by have:=eq_of_beq hab;injection this
  subst e
  exact wpAny_bind (wpAny_rule (wpAny_pure (by simpa using h)))
 ·exact wpAny_bind (eq_bytes (E:=E) (wpAny_truthy_bool h))
theorem bytesAre_at {vs:List Value} {bs:List (Array UInt8)} (h:BytesAre vs bs) (j:Nat) (h1:j<vs.length):∃ b t,bs[j]? =some b∧vs[j]= .bytes b t:=
 h.get (List.getElem?_eq_getElem h1)
noncomputable def bytesPair (bs cs:List (Array UInt8)) (j:Nat):Bool:=(bs.getD j #[]).toList==(cs.getD j #[]).toList
theorem bytesPair_at {A:Around} {s:Shared} {vs us:List Value} {bs cs:List (Array UInt8)} (hi:BytesAre vs bs) (hj:BytesAre us cs):
  ∀ j (h1:j<vs.toArray.size) (h2:j<us.toArray.size),SeqAt.EqAt A s vs.toArray[j] us.toArray[j] (bytesPair bs cs j):=fun j h1 h2=>by
 obtain ⟨b,t,e1,e2⟩:=bytesAre_at hi j (by simpa using h1)
 obtain ⟨c,u,e3,e4⟩:=bytesAre_at hj j (by simpa using h2)
 have f1:vs.toArray[j]= .bytes b t:=by simpa using e2
 have f2:us.toArray[j]= .bytes c u:=by simpa using e4
 rw [f1,f2]
 have f3:bytesPair bs cs j=(b.toList==c.toList):=by
  unfold bytesPair
  rw [List.getD_eq_getElem?_getD,List.getD_eq_getElem?_getD,e1,e3];rfl
 rw [f3]
 exact eqAt_bytes b c t u
theorem bytesPair_all {bs cs:List (Array UInt8)} (hl:bs.length=cs.length):(List.range bs.length).all (bytesPair bs cs)=decide (bs=cs):=by
 rw [Bool.eq_iff_iff,List.all_eq_true,decide_eq_true_eq]
 constructor
 ·intro h
  refine List.ext_getElem hl fun i h1 h2=>?_
  have:=h i (List.mem_range.mpr h1)
  unfold bytesPair at this
  rw [List.getD_eq_getElem?_getD,List.getD_eq_getElem?_getD,List.getElem?_eq_getElem h1,List.getElem?_eq_getElem h2] at this
  exact Array.toList_inj.mp (eq_of_beq this)
 ·rintro rfl i _
  simp [bytesPair]
set_option tactic.hygienic true
section
variable {prog:Program} {w:World} {A:Around} {E:Value→Shared→Prop} {s:Shared} {a b:Addr} {xs ys:List Value} {bs cs:List (Array UInt8)} {Q:Value→Shared→Prop}
set_option tactic.hygienic false
theorem eq_listB (ha:s.heap.IsList a xs.toArray) (hb:s.heap.IsList b ys.toArray) (hi:BytesAre xs bs) (hj:BytesAre ys cs) (hu:A.units<cLine) (h:Q (.bool (decide (bs=cs))) s):
  wpAny (model prog w) A (compareOp .Eq (.ref a) (.ref b)) Q E s:=by
 by_cases hl:bs.length=cs.length
 ·refine SeqAt.RcAt.lists ha hb (by simp [hi.length,hj.length,hl]) hu (bytesPair_at hi hj) prog w E Q ?_
  rw [show xs.toArray.size=bs.length by simp [hi.length],bytesPair_all hl]
  exact h
 ·refine SeqAt.RcAt.lists_lengths ha hb (by simp [hi.length,hj.length,hl]) hu prog w E Q ?_
  rw [decide_eq_false (fun e:bs=cs=>hl (congrArg List.length e))] at h
  exact h
theorem ne_listB (ha:s.heap.IsList a xs.toArray) (hb:s.heap.IsList b ys.toArray) (hi:BytesAre xs bs) (hj:BytesAre ys cs) (hu:A.units<cLine) (h:Q (.bool (!decide (bs=cs))) s):
  wpAny (model prog w) A (compareOp .NotEq (.ref a) (.ref b)) Q E s:=by
 by_cases hl:bs.length=cs.length
 ·refine SeqAt.RcNeAt.lists ha hb (by simp [hi.length,hj.length,hl]) hu (bytesPair_at hi hj) prog w E Q ?_
  rw [show xs.toArray.size=bs.length by simp [hi.length],bytesPair_all hl]
  exact h
 ·refine SeqAt.RcNeAt.lists_lengths ha hb (by simp [hi.length,hj.length,hl]) hu prog w E Q ?_
  rw [decide_eq_false (fun e:bs=cs=>hl (congrArg List.length e))] at h
  exact h
set_option tactic.hygienic true
end
end
section
inductive AllV {α:Type} (R:Value→α→Prop):List Value→List α→Prop
 |nil:AllV R [] []
 |cons {v:Value} {x:α} {vs:List Value} {xs:List α}:R v x→AllV R vs xs→AllV R (v::vs) (x::xs)
section
variable {α:Type} {R R':Value→α→Prop} {vs ws:List Value} {xs ys:List α}
set_option tactic.hygienic false
theorem AllV.length (h:AllV R vs xs):vs.length=xs.length:=by
 induction h with
 |nil=>rfl
 |cons _ _ ih=>simp [ih]
theorem AllV.get (h:AllV R vs xs):∀ {i:Nat} {v:Value},vs[i]? =some v→∃ x,xs[i]? =some x∧R v x:=by
 induction h with
 |nil=>intro i v h;simp at h
 |cons hv _ ih=>
  intro i v h
  cases i with
  |zero=>exact ⟨_,rfl,by simp only [List.getElem?_cons_zero,Option.some.injEq] at h;subst h;exact hv⟩
  |succ i=>exact ih (by simpa using h)
set_option tactic.hygienic true
end
set_option tactic.hygienic false
theorem take_snoc {α:Type} {xs:List α} {i:Nat} {x:α} (h:xs[i]? =some x):xs.take (i+1)=xs.take i++[x]:=by
 rw [List.take_add_one,h];rfl
set_option tactic.hygienic true
end
set_option tactic.hygienic false
noncomputable def rngB (a b:Int):Array UInt8:=if a=b then hexB a else hexB a++#[46,46]++hexB b
theorem rngB_size (a b:Int):(rngB a b).size≤20:=by
 unfold rngB
 have h1:=hexB_size a
 have h2:=hexB_size b
 split
 ·omega
 ·simp only [Array.size_append,List.size_toArray,List.length_cons,List.length_nil];omega
noncomputable def missPre:Array UInt8:=#[35,32,64,109,105,115,115,105,110,103,58,32,48,48,48,48,46,46,49,48,70,70,70,70,59,32]
noncomputable def missB (tell:Str→Str):Option Str→List (Array UInt8)
 | .none=>[]
 | .some m=>[missPre++encA (tell m)++#[10]]
noncomputable def rowLB (tell:Str→Str) (r:Int×Int×Str):Array UInt8:=rngB r.1 r.2.1++#[32,59,32]++encA (tell r.2.2)++#[10]
noncomputable def keepR (mo:Option Str) (r:Int×Int×Str):Bool:=match mo with
 | .none=>true
 | .some m=>r.2.2 != m
noncomputable def propL (tell:Str→Str) (mo:Option Str) (rs:List (Int×Int×Str)):List (Array UInt8):=missB tell mo++(rs.filter (keepR mo)).map (rowLB tell)
theorem propL_snoc {tell:Str→Str} {mo:Option Str} {rs:List (Int×Int×Str)} {r:Int×Int×Str}:propL tell mo (rs++[r])=propL tell mo rs++(if keepR mo r=true then [rowLB tell r] else []):=by
 unfold propL
 rw [List.filter_append,List.map_append,List.append_assoc]
 congr 2
 rw [List.filter_cons]
 split<;>rfl
structure SpanOK (tell:Str→Str) (r:Int×Int×Str):Prop where
 a0:0≤r.1
 a1:r.1<2097152
 b0:0≤r.2.1
 b1:r.2.1<2097152
 z:(tell r.2.2).cps.size≤100
 asc:Asc (tell r.2.2)
theorem propL_size {tell:Str→Str} {mo:Option Str} {rs:List (Int×Int×Str)} (hm:∀ m,mo=some m→(tell m).cps.size≤100) (hr:∀ r∈rs,SpanOK tell r):∀ b∈propL tell mo rs,b.size≤200:=by
 intro b hb
 unfold propL at hb
 rcases List.mem_append.mp hb with hb|hb
 ·cases mo with
  |none=>simp [missB] at hb
  |some m=>
   simp only [missB,List.mem_singleton] at hb
   subst hb
   have:=hm m rfl
   have h2:=encA_size (tell m)
   unfold missPre
   simp only [Array.size_append,List.size_toArray,List.length_cons,List.length_nil]
   omega
 ·obtain ⟨r,hr',rfl⟩:=List.mem_map.mp hb
  have ok:=hr r (List.mem_filter.mp hr').1
  have h1:=rngB_size r.1 r.2.1
  have h2:=encA_size (tell r.2.2)
  have:=ok.z
  unfold rowLB
  simp only [Array.size_append,List.size_toArray,List.length_cons,List.length_nil]
  omega
theorem propL_len {tell:Str→Str} {mo:Option Str} {rs:List (Int×Int×Str)}:(propL tell mo rs).length≤1+rs.length:=by
 unfold propL
 rw [List.length_append,List.length_map]
 have h1:=List.length_filter_le (keepR mo) rs
 cases mo with
 |none=>simp only [missB,List.length_nil];omega
 |some m=>simp only [missB,List.length_cons,List.length_nil];omega
set_option tactic.hygienic true
section
set_option tactic.hygienic false
noncomputable def poolI:List Int:=[9,65,945,65313,128512,1114109]
theorem nodup_take {l:List Int} {i:Nat} {c:Int} (h:l.Nodup) (hc:l[i]? =some c):c∉l.take i:=by
 have e:l=l.take i++c::l.drop (i+1):=by
  obtain ⟨hj,hz⟩:=List.getElem?_eq_some_iff.mp hc
  rw [←hz,List.getElem_cons_drop,List.take_append_drop]
 rw [e] at h
 intro hm
 have:=(List.nodup_append.mp h).2.2 c hm c (.head _)
 exact this rfl
theorem pool_in {a b:Int} (h:a∈poolI) (k:b∈poolI):a+1≠b∧a - 1≠b∧0≤a∧a≤MX:=by
 have:∀ a∈poolI,∀ b∈poolI,a+1≠b∧a - 1≠b∧0≤a∧a≤MX:=by decide
 exact this a h b k
theorem pool_nd:poolI.Nodup:=by decide
theorem sg_fresh {tcf:Int→TC} {l:List Int} {i:Nat} {c:Int} (hn:l.Nodup) (hp:∀ x∈l,x∈poolI) (hc:l[i]? =some c):∀ n∈usedNames,sgAll tcf sg0 (l.take i) n (c+1)=dflt n∧sgAll tcf sg0 (l.take i) n (c - 1)=dflt n∧sgAll tcf sg0 (l.take i) n c=dflt n:=by
 intro n _
 have cp:=hp c (List.mem_of_getElem? hc)
 refine ⟨sgAll_off _ _ _ _ _ fun h=>?_,sgAll_off _ _ _ _ _ fun h=>?_,sgAll_off _ _ _ _ _ (nodup_take hn hc)⟩
 ·exact (pool_in cp (hp _ (List.mem_of_mem_take h))).1 rfl
 ·exact (pool_in cp (hp _ (List.mem_of_mem_take h))).2.1 rfl
noncomputable def tc0:TC:=⟨.none,.none,0,.none,.none,.none,.none,.none,.none,.none⟩
noncomputable def tcSet (f:Int→TC) (c:Int) (t:TC):Int→TC:=fun x=>if x=c then t else f x
theorem tcSet_self {f:Int→TC} {c:Int} {t:TC}:tcSet f c t c=t:=by unfold tcSet;rw [if_pos rfl]
theorem tcSet_off {f:Int→TC} {c x:Int} {t:TC} (h:x≠c):tcSet f c t x=f x:=by unfold tcSet;rw [if_neg h]
theorem tcSet_all {f:Int→TC} {c:Int} {t:TC} {l:List Int} {i:Nat} (hn:l.Nodup) (hc:l[i]? =some c):∀ x∈l.take i,tcSet f c t x=f x:=fun x hx=>tcSet_off fun e=>nodup_take hn hc (e▸hx)
theorem sg_next {f:Int→TC} {c:Int} {t:TC} {l:List Int} {i:Nat} (hn:l.Nodup) (hc:l[i]? =some c):sgAll (tcSet f c t) sg0 (l.take (i+1))=sgRows (sgAll f sg0 (l.take i)) c t.rows:=by
 rw [take_snoc hc,sgAll_snoc,tcSet_self,sgAll_congr _ _ (tcSet_all hn hc)]
theorem told_next {f:Int→TC} {c:Int} {t:TC} {l:List Int} {i:Nat} (hn:l.Nodup) (hc:l[i]? =some c):(l.take (i+1)).map (fun x=>toldB (tcSet f c t x) x)=(l.take i).map (fun x=>toldB (f x) x)++[toldB t c]:=by
 rw [take_snoc hc,List.map_append,List.map_cons,List.map_nil,tcSet_self]
 congr 1
 exact List.map_congr_left fun x hx=>by rw [tcSet_all hn hc x hx]
theorem ok_next {f:Int→TC} {c:Int} {t:TC} {l:List Int} {i:Nat} (hn:l.Nodup) (hc:l[i]? =some c) (ht:t.ok) (h:∀ x∈l.take i,(f x).ok):∀ x∈l.take (i+1),(tcSet f c t x).ok:=fun x hx=>by
 rw [take_snoc hc] at hx
 rcases List.mem_append.mp hx with hx|hx
 ·rw [tcSet_all hn hc x hx];exact h x hx
 ·rw [List.mem_singleton.mp hx,tcSet_self];exact ht
set_option tactic.hygienic true
section
variable {prog:Program} {w:World} {A:Around} {E:Value→Shared→Prop} {s:Shared} {a b:Addr} {xs ys:List Value} {bs:List (Array UInt8)} {Q:Value→Shared→Prop}
set_option tactic.hygienic false
theorem eq_listB' (ha:s.heap.IsList a xs.toArray) (hb:s.heap.IsList b ys.toArray) (hi:BytesAre xs bs) (hj:BytesAre ys bs) (hu:A.units<cLine) (h:Q (.bool true) s):
 wpAny (model prog w) A (compareOp .Eq (.ref a) (.ref b)) Q E s:=eq_listB ha hb hi hj hu (by rw [decide_eq_true rfl];exact h)
theorem ne_listB' (ha:s.heap.IsList a xs.toArray) (hb:s.heap.IsList b ys.toArray) (hi:BytesAre xs bs) (hj:BytesAre ys bs) (hu:A.units<cLine) (h:Q (.bool false) s):
 wpAny (model prog w) A (compareOp .NotEq (.ref a) (.ref b)) Q E s:=ne_listB ha hb hi hj hu (by rw [decide_eq_true rfl];exact h)
set_option tactic.hygienic true
end
end
set_option tactic.hygienic false
noncomputable def TopSpan (w:World) (v:Value) (r:Int×Int):Prop:=∃ t x y,v= .ref t∧TopTup w t [.int r.1 x,.int r.2 y].toArray
noncomputable def boolL (sets:List (Str×List (Int×Int))):List (Array UInt8):=sets.flatMap fun s=>s.2.map fun r=>rowLB id (r.1,r.2,s.1)
structure SetOK (s:Str×List (Int×Int)):Prop where
 z:s.1.cps.size≤100
 asc:Asc s.1
 len:s.2.length≤5
 sp:∀ r∈s.2,0≤r.1∧r.1<2097152∧0≤r.2∧r.2<2097152
theorem boolL_len:∀ {sets:List (Str×List (Int×Int))},(∀ s∈sets,SetOK s)→(boolL sets).length≤5*sets.length
 |[],_=>Nat.le_refl _
 |s::sets,h=>by
  have:=boolL_len (sets:=sets) fun x hx=>h x (.tail _ hx)
  have h1:=(h s (.head _)).len
  show (s.2.map (fun r=>rowLB id (r.1,r.2,s.1))++boolL sets).length≤_
  rw [List.length_append,List.length_map,List.length_cons]
  omega
theorem boolL_size {sets:List (Str×List (Int×Int))} (h:∀ s∈sets,SetOK s):∀ b∈boolL sets,b.size≤200:=by
 intro b hb
 obtain ⟨s,hs,hb⟩:=List.mem_flatMap.mp hb
 obtain ⟨r,hr,rfl⟩:=List.mem_map.mp hb
 have ok:=h s hs
 have h1:=rngB_size r.1 r.2
 have h2:=encA_size (id s.1)
 have h3:=ok.z
 unfold rowLB
 dsimp only [id] at h2 ⊢
 simp only [Array.size_append,List.size_toArray,List.length_cons,List.length_nil]
 omega
theorem boolL_snoc {sets:List (Str×List (Int×Int))} {s:Str×List (Int×Int)}:boolL (sets++[s])=boolL sets++s.2.map fun r=>rowLB id (r.1,r.2,s.1):=by
 unfold boolL
 rw [List.flatMap_append]
 simp
set_option tactic.hygienic true
namespace RB
open Builtin
set_option tactic.hygienic false
theorem stripA_size (sub b:Array UInt8):(stripA sub b).size≤b.size:=by
 have:=stripL_len sub b.toList
 unfold stripA
 rw [List.size_toArray]
 rw [Array.length_toList] at this
 exact this
theorem splitA_length (b sep:Array UInt8):(splitA b sep).length≤b.size+2:=by
 have key:∀ (ps:List Nat) (parts:Array (Array UInt8)) (last:Nat),((ps.foldl (fun (x:Array (Array UInt8)×Nat) p=>(x.1.push (b.extract x.2 p),p+sep.size)) (parts,last)).1).size=parts.size+ps.length:=by
  intro ps
  induction ps with
  |nil=>intro parts last;rfl
  |cons q ps ih=>
   intro parts last
   rw [List.foldl_cons,ih,Array.size_push,List.length_cons]
   dsimp only
   omega
 unfold splitA Bytes.between
 have h2:=key ((Bytes.occurrences b sep 0 b.size).take (b.size+1)) #[] 0
 have h3:((Bytes.occurrences b sep 0 b.size).take (b.size+1)).length≤b.size+1:=by rw [List.length_take];omega
 show ((((Bytes.occurrences b sep 0 b.size).take (b.size+1)).foldl (fun (x:Array (Array UInt8)×Nat) p=>(x.1.push (b.extract x.2 p),p+sep.size)) (#[],0)).1.push _).toList.length≤_
 rw [Array.length_toList,Array.size_push,h2]
 simp only [List.size_toArray,List.length_nil]
 omega
theorem splitA_size (b sep:Array UInt8):∀ p∈splitA b sep,p.size≤b.size:=between_size _ _ _
set_option tactic.hygienic true
section
variable {w:World} {A:Around} {E:Value→Shared→Prop} {s:Shared} {b sub:Array UInt8} {t u:Tok} {Q:Value→Shared→Prop} {h₀:Heap} {L:Addr} {m:Str→Option Value} {news:Led} {value slice:Expr} {l r:Value} {lo hi:Option Int}
set_option tactic.hygienic false
theorem my_slice (hF:Fr h₀ L s.heap m) (hN:News h₀ L s.heap news) (hl:IsPart l lo) (hu:IsPart r hi) (hz:b.size≤16777216)
  (h:∀ h' t' k,Fr h₀ L h' m→News h₀ L h' news→(KBy.picked b lo hi).size≤b.size→Q (.bytes (KBy.picked b lo hi) t') { s with heap:=h',toks:=k })
  (hs:subscripted slice false (.bytes b t) (.ref s.heap.objs.size)=operate [.ref s.heap.objs.size,.bytes b t] (getItem (.bytes b t) (.ref s.heap.objs.size)):=by with_unfolding_all rfl)
  (ht:∀ r,letTemporaryGo value (.bytes b t) r=pure ():=by intro _;with_unfolding_all rfl):
  wpAny (model PG w) A (subscriptTail value slice (.bytes b t) (.ref s.heap.objs.size)) Q E { s with heap:=s.heap.push { cls:=.type "slice",data:=.fields #[l,r,.none] } }:=
 KBc.slice_K hF hN rfl hl hu (by rw [KBw.ints_length];exact hz) (fun h' t' k F' N' zq=>h h' t' k F' N' (KBc.size_picked_le _ _ _)) hs ht
theorem my_strip (hz:b.size≤16777216) (h:∀ t' k,(stripA sub b).size≤b.size→Q (.bytes (stripA sub b) t') { s with toks:=k }):wpAny (model PG w) A (call (.builtin "bytes.strip") [.bytes b t,.bytes sub u]) Q E s:=
 call_strip hz fun t' k=>h t' k (stripA_size _ _)
theorem my_split (F:Fr h₀ L s.heap m) (N:News h₀ L s.heap news) (hne:sub.isEmpty=false) (hz:b.size≤16000000)
  (h:∀ l vs h' k,Fr h₀ L h' m→News h₀ L h' ((l,listOf vs.toArray 0)::news)→(∀ p∈news,p.1<l)→BytesAre vs (splitA b sub)→Q (.ref l) { s with heap:=h',toks:=k }):
  wpAny (model PG w) A (call (.builtin "bytes.split") [.bytes b t,.bytes sub u]) Q E s:=
 call_split F N hne (by omega) (Nat.le_trans (splitA_length _ _) (by omega)) h
set_option tactic.hygienic true
end
end RB
end
section
set_option tactic.hygienic false
noncomputable def blankB:Array UInt8:=#[32,9,13]
noncomputable def hashB:Array UInt8:=#[35]
noncomputable def linesA (b:Array UInt8):List (Array UInt8):=RB.splitA b #[10]
noncomputable def bodyF (line:Array UInt8):Array UInt8:=if RB.findI line hashB<0 then line else KBy.picked line none (some (RB.findI line hashB))
noncomputable def remF (line:Array UInt8):Array UInt8:=if RB.findI line hashB<0 then #[] else KBy.picked line (some (RB.findI line hashB+1)) none
noncomputable def cutsF (b:Array UInt8):List (Array UInt8):=(RB.splitA b #[59]).map (RB.stripA blankB)
noncomputable def rowF (line:Array UInt8):Option (List (Array UInt8)×Array UInt8):=if RB.stripA blankB (bodyF line)= #[] then none else some (cutsF (bodyF line),RB.stripA blankB (remF line))
noncomputable abbrev Row:=Int×List (Array UInt8)×Array UInt8
noncomputable def rowsL (ls:List (Array UInt8)):List Row:=(ls.zipIdx).filterMap fun p=>(rowF p.1).map fun r=>((p.2:Int)+1,r)
theorem rowsL_snoc {ls:List (Array UInt8)} {l:Array UInt8}:rowsL (ls++[l])=rowsL ls++((rowF l).map fun r=>((ls.length:Int)+1,r)).toList:=by
 unfold rowsL
 rw [List.zipIdx_append,List.filterMap_append]
 congr 1
 simp only [List.zipIdx_cons,List.zipIdx_nil,List.filterMap_cons,List.filterMap_nil,Nat.zero_add]
 cases rowF l<;>rfl
theorem rowsL_len:∀ {ls:List (Array UInt8)},(rowsL ls).length≤ls.length:=by
 intro ls
 unfold rowsL
 refine Nat.le_trans (List.length_filterMap_le _ _) ?_
 rw [List.length_zipIdx]
 exact Nat.le_refl _
noncomputable def restF (line:Array UInt8):Array UInt8:=RB.stripA blankB (KBy.picked line (some (RB.findI line hashB+1)) none)
noncomputable def toldF (line:Array UInt8):Array UInt8:=KBy.picked (restF line) (some 9) none
noncomputable def missM:Array UInt8:=#[64,109,105,115,115,105,110,103,58]
noncomputable def missF (line:Array UInt8):Option (List (Array UInt8)):=if RB.findI line hashB<0 then none else if RB.stripA blankB (KBy.picked line none (some (RB.findI line hashB)))= #[]∧RB.startsB (restF line) missM=true then some (cutsF (toldF line)) else none
noncomputable def missL (ls:List (Array UInt8)):List (Int×List (Array UInt8)):=(ls.zipIdx).filterMap fun p=>(missF p.1).map fun r=>((p.2:Int)+1,r)
theorem missL_snoc {ls:List (Array UInt8)} {l:Array UInt8}:missL (ls++[l])=missL ls++((missF l).map fun r=>((ls.length:Int)+1,r)).toList:=by
 unfold missL
 rw [List.zipIdx_append,List.filterMap_append]
 congr 1
 simp only [List.zipIdx_cons,List.zipIdx_nil,List.filterMap_cons,List.filterMap_nil,Nat.zero_add]
 cases missF l<;>rfl
theorem missL_len:∀ {ls:List (Array UInt8)},(missL ls).length≤ls.length:=by
 intro ls
 unfold missL
 refine Nat.le_trans (List.length_filterMap_le _ _) ?_
 rw [List.length_zipIdx]
 exact Nat.le_refl _
noncomputable def codeF (p:Array UInt8):Option Int:=if 4≤(KBw.bInts p).length∧(KBw.bInts p).length≤6∧((KBw.bInts p).all fun k=>(hexV k).isSome)=true∧hexN (KBw.bInts p)≤1114111 then some (hexN (KBw.bInts p)) else none
set_option tactic.hygienic true
theorem codeF_is {p:Array UInt8} {a:Int} (h:codeF p=some a):4≤(KBw.bInts p).length∧(KBw.bInts p).length≤6∧(∀ k∈KBw.bInts p,hexV k≠none)∧hexN (KBw.bInts p)≤1114111∧hexN (KBw.bInts p)=a:=by
 unfold codeF at h
 split at h
 ·rename_i hc
  obtain ⟨h1,h2,h3,h4⟩:=hc
  refine ⟨h1,h2,fun k hk e=>?_,h4,Option.some.inj h⟩
  have:=List.all_eq_true.mp h3 k hk
  rw [e] at this
  cases this
 ·cases h
set_option tactic.hygienic false
noncomputable def rangeF (f:Array UInt8):Option (Int×Int):=match RB.splitA f #[46,46] with
 |[p]=>(codeF p).map fun a=>(a,a)
 |[p,q]=>match codeF p,codeF q with
  |some a,some b=>if a≤b then some (a,b) else none
  |_,_=>none
 |_=>none
set_option tactic.hygienic true
theorem rangeF_is {f:Array UInt8} {a b:Int} (h:rangeF f=some (a,b)):(∃ p,RB.splitA f #[46,46]=[p]∧codeF p=some a∧b=a)∨(∃ p q,RB.splitA f #[46,46]=[p,q]∧codeF p=some a∧codeF q=some b∧a≤b):=by
 unfold rangeF at h
 split at h
 ·rename_i p e
  cases hp:codeF p with
  |none=>rw [hp] at h;cases h
  |some x=>rw [hp] at h;cases h;exact .inl ⟨p,e,hp,rfl⟩
 ·rename_i p q e
  cases hp:codeF p with
  |none=>rw [hp] at h;cases h
  |some x=>
   cases hq:codeF q with
   |none=>rw [hp,hq] at h;cases h
   |some y=>
    rw [hp,hq] at h
    dsimp only at h
    split at h
    ·cases h;exact .inr ⟨p,q,e,hp,hq,by assumption⟩
    ·cases h
 ·cases h
set_option tactic.hygienic false
noncomputable abbrev Lot:=Int×Int×Int×List (Array UInt8)
noncomputable def lotOf (r:Row):Lot:=(((rangeF (r.2.1.headD #[])).getD (0,0)).1,((rangeF (r.2.1.headD #[])).getD (0,0)).2,r.1,r.2.1)
noncomputable def RowGood (r:Row):Prop:=∃ f0 f1 a b,r.2.1=[f0,f1]∧rangeF f0=some (a,b)∧f0.size≤10000
noncomputable def MissGood (r:Int×List (Array UInt8)):Prop:=∃ f0 f1 a b,r.2=[f0,f1]∧rangeF f0=some (a,b)∧f0.size≤10000∧f1.size≤10000∧∀ k∈KBw.bInts f1,0≤k∧k<128
noncomputable def putOf (vf:Array UInt8→Str) (r:Int×List (Array UInt8)):Int×Int×Str:=(((rangeF (r.2.headD #[])).getD (0,0)).1,((rangeF (r.2.headD #[])).getD (0,0)).2,vf (r.2.getLastD #[]))
noncomputable def evalT {α:Type} (lt:Nat→Nat→Bool):KasT α→α
 | .ret a=>a
 | .ask i j k=>evalT lt (k (lt i j))
noncomputable def askOK {α:Type} (lt:Nat→Nat→Bool) (n:Nat):KasT α→Bool
 | .ret _=>true
 | .ask i j k=>decide (i<n)&&decide (j<n)&&(i != j)&&askOK lt n (k (lt i j))
theorem wp_eval {α:Type} {cmp:Nat→Nat→(Bool→Shared→Prop)→Shared→Prop} {lt:Nat→Nat→Bool} {n:Nat} {s:Shared} {Q:α→Shared→Prop} (hc:∀ i j,i<n→j<n→i≠j→∀ C:Bool→Shared→Prop,C (lt i j) s→cmp i j C s):∀ T:KasT α,askOK lt n T=true→Q (evalT lt T) s→T.kasWp cmp Q s
 | .ret _,_,h=>h
 | .ask i j k,ok,h=>by
   unfold askOK at ok
   simp only [Bool.and_eq_true,decide_eq_true_eq,bne_iff_ne,ne_eq] at ok
   obtain ⟨⟨⟨o1,o2⟩,o3⟩,o4⟩:=ok
   exact hc i j o1 o2 o3 _ (wp_eval hc (k (lt i j)) o4 h)
noncomputable def ltK (ks:List Int) (i j:Nat):Bool:=decide (ks.getD i 0<ks.getD j 0)
noncomputable def ascI:List Int→Bool
 |a::b::l=>decide (a<b)&&ascI (b::l)
 |_=>true
noncomputable def sortOK (ks:List Int):Bool:=askOK (ltK ks) ks.length (kas_sort ks.length)&&(evalT (ltK ks) (kas_sort ks.length)).toList.isPerm (List.range ks.length)&&ascI ((evalT (ltK ks) (kas_sort ks.length)).toList.map fun i=>ks.getD i 0)
noncomputable def firstsI:List Int:=[65,97,0,1114110,945]
theorem sort_2:∀ a∈firstsI,∀ b∈firstsI,[a,b].Nodup→sortOK [a,b]=true:=by decide+kernel
theorem sort_3:∀ a∈firstsI,∀ b∈firstsI,∀ c∈firstsI,[a,b,c].Nodup→sortOK [a,b,c]=true:=by decide+kernel
theorem sort_4:∀ a∈firstsI,∀ b∈firstsI,∀ c∈firstsI,∀ d∈firstsI,[a,b,c,d].Nodup→sortOK [a,b,c,d]=true:=by decide+kernel
theorem sort_all {ks:List Int} (h:∀ k∈ks,k∈firstsI) (hn:ks.Nodup) (h2:2≤ks.length) (h4:ks.length≤4):sortOK ks=true:=by
 rcases ks with _|⟨a,_|⟨b,_|⟨c,_|⟨d,_|⟨e,l⟩⟩⟩⟩⟩
 ·simp at h2
 ·simp at h2
 ·exact sort_2 a (h a (by simp)) b (h b (by simp)) hn
 ·exact sort_3 a (h a (by simp)) b (h b (by simp)) c (h c (by simp)) hn
 ·exact sort_4 a (h a (by simp)) b (h b (by simp)) c (h c (by simp)) d (h d (by simp)) hn
 ·simp at h4
theorem ascI_pair:∀ {l:List Int},ascI l=true→l.Pairwise (· < ·)
 |[],_=>.nil
 |[a],_=>by simp
 |a::b::l,h=>by
  unfold ascI at h
  rw [Bool.and_eq_true,decide_eq_true_eq] at h
  have ih:=ascI_pair (l:=b::l) h.2
  refine List.pairwise_cons.mpr ⟨fun x hx=>?_,ih⟩
  rcases List.mem_cons.mp hx with rfl|hx
  ·exact h.1
  ·exact Int.lt_trans h.1 ((List.pairwise_cons.mp ih).1 x hx)
set_option tactic.hygienic true
section
variable {w:World} {A:Around} {E:Value→Shared→Prop} {s:Shared} {h₀:Heap} {L l:Addr} {m:Str→Option Value} {news:Led} {vs:List Value} {tris:List (Int×Int×Int)} {k:Nat}
set_option tactic.hygienic false
theorem AllV.getD {α:Type} {R:Value→α→Prop} {vs:List Value} {xs:List α} {d:α} (h:AllV R vs xs) {i:Nat} (hi:i<xs.length):R (vs.getD i Value.none) (xs.getD i d):=by
 have hv:vs[i]? =some (vs[i]'(by rw [h.length];exact hi)):=List.getElem?_eq_getElem _
 obtain ⟨x,hx,r⟩:=h.get hv
 rw [List.getD_eq_getElem?_getD,List.getD_eq_getElem?_getD,hv,hx]
 exact r
theorem AllV.pick {α:Type} {R:Value→α→Prop} {vs:List Value} {xs:List α} {d:α} (h:AllV R vs xs):∀ (p:List Nat),(∀ i∈p,i<xs.length)→AllV R (p.map fun i=>vs.getD i Value.none) (p.map fun i=>xs.getD i d)
 |[],_=>.nil
 |i::p,hp=>.cons (h.getD (hp i (.head _))) (AllV.pick h p fun j hj=>hp j (.tail _ hj))
theorem pick_perm {α:Type} {xs:List α} {d:α} {p:List Nat} (h:p.Perm (List.range xs.length)):(p.map fun i=>xs.getD i d).Perm xs:=by
 have:=h.map (fun i=>xs.getD i d)
 have e:(List.range xs.length).map (fun i=>xs.getD i d)=xs:=by
  refine List.ext_getElem (by simp) fun i h1 h2=>?_
  simp [List.getElem?_eq_getElem h2]
 rw [e] at this
 exact this
set_option tactic.hygienic true
end
section
variable {w:World} {A:Around} {E:Value→Shared→Prop} {s:Shared} {h₀:Heap} {L l a:Addr} {m:Str→Option Value} {news:Led} {vs:List Value} {k:Nat}
set_option tactic.hygienic false
theorem zip_snd (vs:List Value):((vs.toArray.zip vs.toArray).map (·.2))=vs.toArray:=by
 apply Array.ext'
 simp
 exact List.map_snd_zip (Nat.le_refl _)
theorem sort_short {n:Nat} {P:PySem.Fin→Shared→Prop} (F:Fr h₀ L s.heap m) (N:News h₀ L s.heap news) (ho:s.heap.get? a=some (seqObj "list" vs.toArray n)) (haL:a≠L) (ha0:h₀.get? a=none) (hna:∀ p∈news,p.1≠a)
  (h2:vs.length<2)
  (h:∀ c h',Fr h₀ L h' m→News h₀ L h' ((a,seqObj "list" vs.toArray c)::news)→P (.done (.ret .none)) { s with heap:=h' }):
  wpAny (model PG w) A (Builtin.«list.sort» ⟨[.ref a],[]⟩) P E s:=by
 have s1:=Heap.SameBut.update s.heap a (Obj.mapSeq fun zq=>(#[]:Array Value))
 obtain ⟨e1,ho1⟩:∃ e1,(s.heap.update a (Obj.mapSeq fun zq=>(#[]:Array Value))).get? a=some (seqObj "list" #[] e1):=⟨_,get?_update_seq ho fun zq=>#[]⟩
 have F3:Fr h₀ L (((s.heap.update a (Obj.mapSeq fun zq=>(#[]:Array Value))).push (seqObj "tuple" vs.toArray 0)).push (seqObj "list" #[] 0)) m:=((kas_fr F s1 haL ha0).push _).push _
 have N2:News h₀ L (((s.heap.update a (Obj.mapSeq fun zq=>(#[]:Array Value))).push (seqObj "tuple" vs.toArray 0)).push (seqObj "list" #[] 0)) news:=
  (kas_news N s1 hna).grown fun b x e=>Heap.get?_push_of_some _ (Heap.get?_push_of_some _ e)
 have ho3:=Heap.get?_push_of_some (seqObj "list" #[] 0) (Heap.get?_push_of_some (seqObj "tuple" vs.toArray 0) ho1)
 rw [list_sort_plain]
 refine wpAny_bind (listItems_at ho rfl ?_)
 refine wpAny_bind (listUpdate_at ho rfl ?_ (by rw [List.size_toArray,sizeLine_eq];omega) (Nat.zero_le _))
 refine wpAny_bind (seqEpoch_at ho1 rfl ?_)
 refine wpAny_bind (wpAny_newTuple ?_ (by show vs.length≤_;rw [sizeLine_eq];omega))
 refine wpAny_bind (wpAny_newList ?_ (Nat.zero_le _))
 refine wpAny_holding ?_
 show wpAny (model PG w) A _ P E { s with heap:=((s.heap.update a (Obj.mapSeq fun zq=>(#[]:Array Value))).push (seqObj "tuple" vs.toArray 0)).push (seqObj "list" #[] 0) }
 dsimp only
 have hn2:vs.toArray.size<2:=by rw [List.size_toArray];exact h2
 rw [if_pos hn2,if_pos hn2]
 refine wpAny_bind (wpAny_pure ?_)
 refine wpAny_bind (wpAny_of_eq (a:=((),SortSt.mk' general' (vs.toArray.zip vs.toArray) #[] 7 none)) rfl ?_)
 dsimp only
 have hout:(arrOf (SortSt.mk' general' (vs.toArray.zip vs.toArray) #[] 7 none)).map (·.2)=vs.toArray:=zip_snd vs
 rw [hout]
 have s2:=Heap.SameBut.update (((s.heap.update a (Obj.mapSeq fun zq=>(#[]:Array Value))).push (seqObj "tuple" vs.toArray 0)).push (seqObj "list" #[] 0)) a (Obj.mapSeq fun zq=>vs.toArray)
 obtain ⟨c2,hc2⟩:∃ c2,((((s.heap.update a (Obj.mapSeq fun zq=>(#[]:Array Value))).push (seqObj "tuple" vs.toArray 0)).push (seqObj "list" #[] 0)).update a (Obj.mapSeq fun zq=>vs.toArray)).get? a=some (seqObj "list" vs.toArray c2):=⟨_,get?_update_seq ho3 fun zq=>vs.toArray⟩
 refine wpAny_bind (seqEpoch_at ho3 rfl ?_)
 refine wpAny_bind (listUpdate_at ho3 rfl ?_ (Nat.zero_le _) (by rw [List.size_toArray,sizeLine_eq];omega))
 simp only [bne_self_eq_false,Bool.false_eq_true,if_false]
 refine wpAny_pure (h c2 _ (kas_fr F3 s2 haL ha0) ?_)
 intro p hp
 rcases List.mem_cons.mp hp with rfl|hp
 ·exact ⟨hc2,haL,ha0⟩
 ·exact kas_news N2 s2 hna p hp
theorem sorted_short {Q:Value→Shared→Prop} (F:Fr h₀ L s.heap m) (N:News h₀ L s.heap news) (hm:(l,listOf vs.toArray k)∈news) (h2:vs.length<2)
  (h:∀ D c h',Fr h₀ L h' m→News h₀ L h' ((D,listOf vs.toArray c)::news)→(∀ q∈news,q.1<D)→Q (.ref D) { s with heap:=h' }):
  wpAny (model PG w) A (call (.builtin "sorted") [.ref l]) Q E s:=by
 refine Calls.call_function_entry kind_sorted plain_sorted entry_sorted (args_sorted1 _) ?_
 unfold Builtin.«sorted»
 refine wpAny_bind (m:=checkCount "sorted" 1 1 _) (wpAny_pure ?_)
 refine wpAny_bind (collect_list (lm_list N hm) ?_ (by rw [sizeLine_eq];omega))
 refine wpAny_bind (wpAny_newList ?_ (by rw [sizeLine_eq];omega))
 have hsz:((s.heap.push (seqObj "list" #[] 0)).update s.heap.objs.size (Obj.mapSeq (· ++vs.toArray))).objs.size=s.heap.objs.size+1:=by
  rw [Heap.size_update,size_push']
 have hoL:(((s.heap.push (seqObj "list" #[] 0)).update s.heap.objs.size (Obj.mapSeq (· ++vs.toArray))).push (seqObj "list" vs.toArray 0)).get? (s.heap.objs.size+1)=some (seqObj "list" vs.toArray 0):=by
  rw [←hsz];exact Heap.get?_push_size _ rfl
 have keep:∀ b o,s.heap.get? b=some o→(((s.heap.push (seqObj "list" #[] 0)).update s.heap.objs.size (Obj.mapSeq (· ++vs.toArray))).push (seqObj "list" vs.toArray 0)).get? b=some o:=fun b o q=>by
  have hlt:b<s.heap.objs.size:=Heap.lt_size q
  rw [Heap.get?_push_ne _ _ _ (by rw [hsz];exact Nat.ne_of_lt (Nat.lt_succ_of_lt hlt)),Heap.get?_update_ne _ _ _ _ (Nat.ne_of_lt hlt),Heap.get?_push_ne _ _ _ (Nat.ne_of_lt hlt)]
  exact q
 have hL:L<s.heap.objs.size:=F.ns.lt
 show wpAny _ _ _ _ _ { s with heap:=((s.heap.push (seqObj "list" #[] 0)).update s.heap.objs.size (Obj.mapSeq (· ++vs.toArray))).push (seqObj "list" vs.toArray 0) }
 rw [hsz]
 refine wpAny_bind (wpAny_holding (wpAny_call_entry slot_list_sort ⟨_,hoL,rfl⟩ entry_list_sort ?body (args_list_sort _)))
 case body=>
  refine sort_short (s:={ s with heap:=((s.heap.push (seqObj "list" #[] 0)).update s.heap.objs.size (Obj.mapSeq (· ++vs.toArray))).push (seqObj "list" vs.toArray 0) })
   (F.kept keep) (N.grown keep) hoL (Nat.ne_of_gt (Nat.lt_succ_of_lt hL)) (Heap.get?_none_of_le (Nat.le_trans F.above (Nat.le_succ_of_le (Nat.le_of_lt hL))))
   (fun p hp=>Nat.ne_of_lt (Nat.lt_succ_of_lt (Heap.lt_size (N p hp).1))) h2 fun c h' F' N'=>?_
  exact ⟨_,rfl,wpAny_pure ⟨_,rfl,h _ c h' F' N' fun q hq=>Nat.lt_succ_of_lt (Heap.lt_size (N q hq).1)⟩⟩
set_option tactic.hygienic true
end
set_option tactic.hygienic false
noncomputable def ApartT (tris:List (Int×Int×Int)):Prop:=(∀ x∈tris,x.1≤x.2.1∧x.1∈firstsI)∧(∀ x∈tris,∀ y∈tris,x.1<y.1→x.2.1<y.1)∧(tris.map (·.1)).Nodup
noncomputable def putsS (sg:Str→Int→PV) (nm:Str) (ps:List (Int×Int×Str)):Str→Int→PV:=ps.foldl (fun s r=>updS s nm r.1 r.2.1 (.str r.2.2)) sg
theorem putsS_snoc (sg:Str→Int→PV) (nm:Str) (ps:List (Int×Int×Str)) (r:Int×Int×Str):putsS sg nm (ps++[r])=updS (putsS sg nm ps) nm r.1 r.2.1 (.str r.2.2):=by
 unfold putsS;rw [List.foldl_append];rfl
theorem putsS_str {nm:Str}:∀ (ps:List (Int×Int×Str)) {sg:Str→Int→PV},(∀ c,∃ z,sg nm c= .str z)→∀ c,∃ z,putsS sg nm ps nm c= .str z
 |[],_,h=>h
 |r::ps,sg,h=>putsS_str ps (sg:=updS sg nm r.1 r.2.1 (.str r.2.2)) fun c=>by
  unfold updS
  rw [if_pos rfl]
  split
  ·exact ⟨_,rfl⟩
  ·exact h c
noncomputable def rowPut (vf:Array UInt8→Str) (r:Row):Int×Int×Str:=((lotOf r).1,(lotOf r).2.1,vf (r.2.1.getLastD #[]))
noncomputable def triOf (r:Row):Int×Int×Int:=((lotOf r).1,(lotOf r).2.1,r.1)
noncomputable def putsL (vf:Array UInt8→Str) (ls:List (Array UInt8)):List (Int×Int×Str):=(missL ls).map (putOf vf)++(rowsL ls).map (rowPut vf)
noncomputable def RowGood2 (r:Row):Prop:=∃ f0 f1 a b,r.2.1=[f0,f1]∧rangeF f0=some (a,b)∧f0.size≤10000∧f1.size≤10000∧∀ k∈KBw.bInts f1,0≤k∧k<128
theorem RowGood2.one {r:Row} (h:RowGood2 r):RowGood r:=by
 obtain ⟨f0,f1,a,b,h1,h2,h3,_⟩:=h
 exact ⟨f0,f1,a,b,h1,h2,h3⟩
noncomputable abbrev strD (w:World) (o:Obj) (kvs:List (Str×Value)):Prop:=o.IsDictOf (PySem.strKind PG w) kvs
noncomputable def sLu:Str:=Str.ofString "Lu"
noncomputable def sLl:Str:=Str.ofString "Ll"
noncomputable def sCn:Str:=Str.ofString "Cn"
noncomputable def wLu:Str:=Str.ofString "Uppercase_Letter"
noncomputable def wLl:Str:=Str.ofString "Lowercase_Letter"
noncomputable def wCn:Str:=Str.ofString "Unassigned"
end
section
set_option tactic.hygienic false
noncomputable def spansI:List (Int×Int):=[(65,65),(97,122),(0,31),(1114110,1114111),(945,969)]
noncomputable def wordsS:List Str:=[sLu,sLl,sCn]
theorem tt405 (w:World):TopTup w 405 [Value.int 65 756,.int 65 757].toArray:=fun h X=>tupK (l:=[Value.int 65 756,.int 65 757]) X (by k_is)
theorem tt406 (w:World):TopTup w 406 [Value.int 97 758,.int 122 759].toArray:=fun h X=>tupK (l:=[Value.int 97 758,.int 122 759]) X (by k_is)
theorem tt407 (w:World):TopTup w 407 [Value.int 0 760,.int 31 761].toArray:=fun h X=>tupK (l:=[Value.int 0 760,.int 31 761]) X (by k_is)
theorem tt408 (w:World):TopTup w 408 [Value.int 1114110 762,.int 1114111 763].toArray:=fun h X=>tupK (l:=[Value.int 1114110 762,.int 1114111 763]) X (by k_is)
theorem tt409 (w:World):TopTup w 409 [Value.int 945 764,.int 969 765].toArray:=fun h X=>tupK (l:=[Value.int 945 764,.int 969 765]) X (by k_is)
noncomputable def spanV:List Value:=[.ref 405,.ref 406,.ref 407,.ref 408,.ref 409]
theorem tt410 (w:World):TopTup w 410 spanV.toArray:=fun h X=>tupK (l:=[Value.ref 405,.ref 406,.ref 407,.ref 408,.ref 409]) X (by k_is)
theorem spanV_is (w:World):AllV (TopSpan w) spanV spansI:=.cons ⟨405,_,_,rfl,tt405 w⟩ (.cons ⟨406,_,_,rfl,tt406 w⟩ (.cons ⟨407,_,_,rfl,tt407 w⟩ (.cons ⟨408,_,_,rfl,tt408 w⟩ (.cons ⟨409,_,_,rfl,tt409 w⟩ .nil))))
theorem pop_permA {α:Type} {yL nL:List α} {j:Nat} {z:α} (h:nL[j]? =some z):(yL++[z]++(nL.take j++nL.drop (j+1))).Perm (yL++nL):=by
 have e:nL=nL.take j++z::nL.drop (j+1):=by
  obtain ⟨hj,hz⟩:=List.getElem?_eq_some_iff.mp h
  rw [←hz,List.getElem_cons_drop,List.take_append_drop]
 rw [List.append_assoc]
 refine List.Perm.append_left yL ?_
 conv=>rhs;rw [e]
 show (z::(nL.take j++nL.drop (j+1))).Perm _
 exact List.perm_middle.symm
theorem fits5 {x:Int} (h0:0≤x) (h3:x<5):Builtin.Range.small 0 x 1=true∧Builtin.Range.rangeSize 0 x 1=((x.toNat:Nat):Int):=by
 have:x=0∨x=1∨x=2∨x=3∨x=4:=by omega
 rcases this with rfl|rfl|rfl|rfl|rfl<;>exact ⟨by decide+kernel,by decide+kernel⟩
set_option tactic.hygienic true
section
set_option tactic.hygienic false
noncomputable def tellOf (b:Bool) (z:Str):Str:=if b=true then (if z=sLu then wLu else if z=sLl then wLl else wCn) else z
set_option tactic.hygienic true
section
variable {f g:Str→Str} {zs:List Str} {kvs:List (Str×Value)}
end
set_option tactic.hygienic false
theorem tell_inj:∀ b∈[true,false],∀ x∈wordsS,∀ y∈wordsS,tellOf b x=tellOf b y→x=y:=by decide+kernel
theorem tell_inj' (b:Bool):∀ x∈wordsS,∀ y∈wordsS,tellOf b x=tellOf b y→x=y:=tell_inj b (by cases b<;>simp)
theorem words_nd:wordsS.Nodup:=by decide+kernel
noncomputable def catB (bs:List (Array UInt8)):Array UInt8:=bs.foldl (· ++ ·) #[]
theorem catB_snoc (bs:List (Array UInt8)) (x:Array UInt8):catB (bs++[x])=catB bs++x:=by unfold catB;rw [List.foldl_append];rfl
theorem catB_one (x:Array UInt8):catB [x]=x:=by unfold catB;simp
theorem catB_join (bs:List (Array UInt8)):joinB #[] bs=catB bs:=by
 cases bs with
 |nil=>rfl
 |cons b bs=>
  rw [joined_cons]
  have e:∀ (l:List (Array UInt8)) (x y:Array UInt8),l.foldl (· ++ ·) (x++y)=x++l.foldl (fun a x=>a++#[]++x) y:=by
   intro l
   induction l with
   |nil=>intro x y;rfl
   |cons c l ih=>intro x y;rw [List.foldl_cons,List.foldl_cons,Array.append_assoc,ih,Array.append_empty]
  have:=e bs b #[]
  rw [Array.append_empty] at this
  show _=(b::bs).foldl (· ++ ·) #[]
  rw [List.foldl_cons,Array.empty_append,this]
theorem catB_size {bs:List (Array UInt8)} {K:Nat} (h:∀ b∈bs,b.size≤K):(catB bs).size≤K*bs.length:=by
 rw [←catB_join]
 have:=foldSize_le (sep:=#[]) h
 have h2:=joinB_size (sep:=#[]) (bs:=bs)
 simp only [List.size_toArray,List.length_nil,Nat.zero_add] at this
 exact Nat.le_trans h2 this
noncomputable def okW (z:Str):Bool:=decide (z.cps.size≤20)&&(codesI z).all fun c=>decide (0≤c)&&decide (c<128)
theorem words_ok':∀ b∈[true,false],∀ z∈wordsS,okW (tellOf b z)=true:=by decide+kernel
theorem words_ok (b:Bool) {z:Str} (h:z∈wordsS):(tellOf b z).cps.size≤20∧Asc (tellOf b z):=by
 have:=words_ok' b (by cases b<;>simp) z h
 unfold okW at this
 rw [Bool.and_eq_true,decide_eq_true_eq] at this
 exact ⟨this.1,Asc.lit _ this.2⟩
theorem spans_ok:∀ r∈spansI,0≤r.1∧r.1<2097152∧0≤r.2∧r.2<2097152∧r.1≤r.2∧r.2≤1114111:=by decide+kernel
theorem span_ok (b:Bool) {r:Int×Int×Str} (h:(r.1,r.2.1)∈spansI) (k:r.2.2∈wordsS):SpanOK (tellOf b) r:=by
 obtain ⟨h1,h2,h3,h4,_⟩:=spans_ok _ h
 obtain ⟨z,a⟩:=words_ok b k
 exact ⟨h1,h2,h3,h4,by omega,a⟩
theorem lineB_row (tell:Str→Str) (a b:Int) (z:Str):encA (lineS a b (tell z))++#[10]=rowLB tell (a,b,z):=by
 have e1:encA (Str.ofString " ; ")= #[32,59,32]:=by decide+kernel
 have e2:encA (Str.ofString "..")= #[46,46]:=by decide+kernel
 have e3:encA (Str.ofString "")= #[]:=by decide+kernel
 unfold rowLB lineS rngB
 dsimp only
 rw [encA_app,encA_app,encA_app,e1,encA_hex]
 by_cases h:a=b
 ·rw [if_neg (fun k=>k h),if_pos h,e3,Array.append_empty]
 ·rw [if_pos h,if_neg h,encA_app,e2,encA_hex]
  simp only [Array.append_assoc]
set_option tactic.hygienic true
end
set_option tactic.hygienic false
noncomputable def occP (b:Array UInt8) (c:UInt8) (i:Nat):Bool:=b.extract i (i+1)== #[c]
theorem occP_iff {b:Array UInt8} {c:UInt8} {i:Nat}:occP b c i=true↔b[i]? =some c:=by
 unfold occP
 rw [beq_iff_eq]
 constructor
 ·intro h
  have h1:=congrArg (fun a:Array UInt8=>a[0]?) h
  have h2:=congrArg Array.size h
  simp only [Array.size_extract,List.size_toArray,List.length_cons,List.length_nil] at h2
  simp only [Array.getElem?_extract] at h1
  rw [if_pos (by omega)] at h1
  simpa using h1
 ·intro h
  obtain ⟨hi,he⟩:=Array.getElem?_eq_some_iff.mp h
  apply Array.ext
  ·simp only [Array.size_extract,List.size_toArray,List.length_cons,List.length_nil];omega
  ·intro j h1 h2
   have:j=0:=by simp only [List.size_toArray,List.length_cons,List.length_nil] at h2;omega
   subst this
   simp [he]
theorem occ_go (b:Array UInt8) (c:UInt8):∀ (n k:Nat) (acc:List Nat×Nat),acc.2≤k→
  ((List.range' k n).foldl (fun (acc:List Nat×Nat) i=>if (decide (i≥acc.2)&&b.extract i (i+(#[c]:Array UInt8).size)== #[c])=true then (i::acc.1,i+(#[c]:Array UInt8).size) else acc) acc).1=((List.range' k n).filter (occP b c)).reverse++acc.1
 |0,_,_,_=>rfl
 |n+1,k,acc,h=>by
  rw [List.range'_succ,List.foldl_cons,List.filter_cons]
  by_cases hp:occP b c k=true
  ·rw [if_pos hp,if_pos (by rw [Bool.and_eq_true];exact ⟨decide_eq_true h,hp⟩),occ_go b c n (k+1) _ (Nat.le_refl _)]
   simp
  ·rw [if_neg hp,if_neg (by rw [Bool.and_eq_true];exact fun q=>hp q.2),occ_go b c n (k+1) _ (Nat.le_succ_of_le h)]
theorem occ_eq (b:Array UInt8) (c:UInt8):Builtin.Bytes.occurrences b #[c] 0 b.size=(List.range' 0 b.size).filter (occP b c):=by
 unfold Builtin.Bytes.occurrences
 have e:(List.range (b.size+1 - (0+(#[c]:Array UInt8).size))).map (· +0)=List.range' 0 b.size:=by
  rw [show b.size+1 - (0+(#[c]:Array UInt8).size)=b.size from by simp only [List.size_toArray,List.length_cons,List.length_nil];omega,←List.range_eq_range']
  simp
 have:=occ_go b c b.size 0 ([],0) (Nat.le_refl _)
 dsimp only
 rw [e,this]
 simp
noncomputable def gB (b:Array UInt8):Nat→List Nat→List (Array UInt8)
 |last,[]=>[b.extract last b.size]
 |last,p::ps=>b.extract last p::gB b (p+1) ps
theorem between_eq (b:Array UInt8) (ps:List Nat):Builtin.Bytes.between b 1 ps=gB b 0 ps:=by
 have key:∀ (ps:List Nat) (parts:Array (Array UInt8)) (last:Nat),(let r:=ps.foldl (fun (x:Array (Array UInt8)×Nat) p=>(x.1.push (b.extract x.2 p),p+1)) (parts,last);(r.1.push (b.extract r.2 b.size)).toList)=parts.toList++gB b last ps:=by
  intro ps
  induction ps with
  |nil=>intro parts last;simp [gB]
  |cons p ps ih=>
   intro parts last
   rw [List.foldl_cons]
   have:=ih (parts.push (b.extract last p)) (p+1)
   dsimp only at this ⊢
   rw [this]
   simp [gB]
 exact key ps #[] 0
noncomputable def flatL (c:UInt8):List (Array UInt8)→Array UInt8
 |[]=>#[]
 |l::ls=>l++#[c]++flatL c ls
theorem split_go (b:Array UInt8) (c:UInt8):∀ (ls:List (Array UInt8)) (pre:Array UInt8),(∀ l∈ls,c∉l)→b=pre++flatL c ls→gB b pre.size ((List.range' pre.size (b.size - pre.size)).filter (occP b c))=ls++[#[]]
 |[],pre,_,hb=>by
  have hb':b=pre:=by rw [hb];simp [flatL]
  subst hb'
  simp [gB]
 |l::ls,pre,hf,hb=>by
  have hb2:b=(pre++(l++#[c]))++flatL c ls:=by rw [hb];simp only [flatL,Array.append_assoc]
  have ih:=split_go b c ls (pre++(l++#[c])) (fun x hx=>hf x (.tail _ hx)) hb2
  have hs:b.size=pre.size+(l.size+1)+(flatL c ls).size:=by
   have:=congrArg Array.size hb2
   simp only [Array.size_append,List.size_toArray,List.length_cons,List.length_nil] at this
   omega
  have es:(pre++(l++#[c])).size=pre.size+l.size+1:=by simp only [Array.size_append,List.size_toArray,List.length_cons,List.length_nil];omega
  rw [es] at ih
  have er:List.range' pre.size (b.size - pre.size)=List.range' pre.size l.size++(pre.size+l.size)::List.range' (pre.size+l.size+1) (b.size - (pre.size+l.size+1)):=by
   have e1:b.size - pre.size=l.size+(1+(b.size - (pre.size+l.size+1))):=by omega
   rw [e1,←List.range'_append (s:=pre.size) (m:=l.size) (step:=1),Nat.one_mul,Nat.add_comm 1,List.range'_succ]
  have g1:(List.range' pre.size l.size).filter (occP b c)=[]:=by
   rw [List.filter_eq_nil_iff]
   intro i hi hp
   rw [occP_iff] at hp
   obtain ⟨h1,h2⟩:=List.mem_range'_1.mp hi
   have e:b[i]? =l[i - pre.size]?:=by
    rw [hb,Array.getElem?_append_right h1]
    simp only [flatL,Array.append_assoc]
    rw [Array.getElem?_append_left (by omega)]
   rw [e] at hp
   exact hf l (.head _) (Array.mem_of_getElem? hp)
  have g2:occP b c (pre.size+l.size)=true:=by
   rw [occP_iff,hb2,Array.getElem?_append_left (by rw [es];omega),Array.getElem?_append_right (by omega),Array.getElem?_append_right (by omega)]
   have:pre.size+l.size - pre.size - l.size=0:=by omega
   rw [this];rfl
  rw [er,List.filter_append,g1,List.nil_append,List.filter_cons,if_pos g2]
  show b.extract pre.size (pre.size+l.size)::gB b (pre.size+l.size+1) _=_
  rw [ih]
  have g3:b.extract pre.size (pre.size+l.size)=l:=by
   rw [hb]
   simp only [flatL]
   rw [Array.extract_append_right,Array.append_assoc,Array.extract_append_left]
   simp
  rw [g3]
  rfl
theorem split_flat (c:UInt8) (ls:List (Array UInt8)) (h:∀ l∈ls,c∉l):RB.splitA (flatL c ls) #[c]=ls++[#[]]:=by
 unfold RB.splitA
 rw [occ_eq]
 have hl:((List.range' 0 (flatL c ls).size).filter (occP (flatL c ls) c)).length≤(flatL c ls).size+1:=by
  refine Nat.le_trans (List.length_filter_le _ _) ?_
  rw [List.length_range'];omega
 rw [List.take_of_length_le hl]
 show Builtin.Bytes.between _ 1 _=_
 rw [between_eq]
 have:=split_go (flatL c ls) c ls #[] h (by simp)
 simpa using this
set_option tactic.hygienic true
section
set_option tactic.hygienic false
noncomputable def vfOf (b:Bool) (f:Array UInt8):Str:=(wordsS.find? fun z=>encA (tellOf b z)==f).getD sCn
noncomputable def mPut:Option Str→List (Int×Int×Str)
 | .none=>[]
 | .some m=>[(0,1114111,m)]
noncomputable abbrev sGc:Str:=Str.ofString "gc"
noncomputable def lineR (b:Bool) (r:Int×Int×Str):Array UInt8:=rngB r.1 r.2.1++#[32,59,32]++encA (tellOf b r.2.2)
noncomputable def lineM (b:Bool) (m:Str):Array UInt8:=missPre++encA (tellOf b m)
noncomputable def linesL (b:Bool) (mo:Option Str) (P:List (Int×Int×Str)):List (Array UInt8):=mo.toList.map (lineM b)++(P.filter (keepR mo)).map (lineR b)
theorem catB_cons (x:Array UInt8) (xs:List (Array UInt8)):catB (x::xs)=x++catB xs:=by
 have e:∀ (l:List (Array UInt8)) (x y:Array UInt8),l.foldl (· ++ ·) (x++y)=x++l.foldl (· ++ ·) y:=by
  intro l
  induction l with
  |nil=>intro x y;rfl
  |cons c l ih=>intro x y;rw [List.foldl_cons,List.foldl_cons,Array.append_assoc,ih]
 unfold catB
 rw [List.foldl_cons,Array.empty_append]
 have:=e xs x #[]
 rwa [Array.append_empty] at this
theorem catB_flat (ls:List (Array UInt8)):catB (ls.map (· ++#[10]))=flatL 10 ls:=by
 induction ls with
 |nil=>rfl
 |cons l ls ih=>rw [List.map_cons,catB_cons,ih];rfl
theorem propL_lines (b:Bool) (mo:Option Str) (P:List (Int×Int×Str)):propL (tellOf b) mo P=(linesL b mo P).map (· ++#[10]):=by
 unfold propL linesL
 rw [List.map_append,List.map_map,List.map_map]
 cases mo<;>rfl
noncomputable def fRow (b:Bool) (a c:Int) (z:Str):List (Array UInt8)×Array UInt8:=([rngB a c,encA (tellOf b z)],#[])
noncomputable def rngM:Array UInt8:=#[48,48,48,48,46,46,49,48,70,70,70,70]
theorem row_lines:∀ b∈[true,false],∀ ab∈spansI,∀ z∈wordsS,(10:UInt8)∉lineR b (ab.1,ab.2,z)∧rowF (lineR b (ab.1,ab.2,z))=some (fRow b ab.1 ab.2 z)∧missF (lineR b (ab.1,ab.2,z))=none∧RB.findI (toldF (lineR b (ab.1,ab.2,z))) #[35]<0:=by decide+kernel
theorem miss_lines:∀ b∈[true,false],∀ m∈wordsS,(10:UInt8)∉lineM b m∧rowF (lineM b m)=none∧missF (lineM b m)=some [rngM,encA (tellOf b m)]∧RB.findI (toldF (lineM b m)) #[35]<0:=by decide+kernel
theorem no_line:rowF #[]=none∧missF #[]=none∧RB.findI (toldF #[]) #[35]<0:=by decide+kernel
theorem rng_facts:∀ ab∈spansI,rangeF (rngB ab.1 ab.2)=some ab:=by decide+kernel
theorem rng_miss:rangeF rngM=some (0,1114111):=by decide+kernel
theorem first_bytes:(∀ b∈[true,false],∀ ab∈spansI,∀ z∈wordsS,(lineR b (ab.1,ab.2,z))[0]?≠some 239∧0<(lineR b (ab.1,ab.2,z)).size)∧(∀ b∈[true,false],∀ m∈wordsS,(lineM b m)[0]?≠some 239∧0<(lineM b m).size):=by decide+kernel
theorem word_facts:∀ b∈[true,false],∀ z∈wordsS,decS (encA (tellOf b z))=tellOf b z∧vfOf b (encA (tellOf b z))=z∧(∀ k∈KBw.bInts (encA (tellOf b z)),0≤k∧k<128):=by decide+kernel
theorem span_facts:(∀ x∈spansI,x.1≤x.2∧x.1∈firstsI)∧(∀ x∈spansI,∀ y∈spansI,x.1<y.1→x.2<y.1)∧(spansI.map (·.1)).Nodup∧(∀ x∈spansI,∀ y∈spansI,x≠y→¬(y.1≤x.1∧x.1≤y.2)∧¬(y.1≤x.2∧x.2≤y.2))∧(∀ x∈spansI,¬(x.1≤8192∧8192≤x.2))∧(∀ x∈spansI,0≤x.1∧x.1≤1114111∧0≤x.2∧x.2≤1114111):=by decide+kernel
theorem bb (b:Bool):b∈[true,false]:=by cases b<;>simp
theorem zipIdx_map {α β γ:Type} (f:α→Option β) (g:β→γ):∀ (ls:List α) (k:Nat),(((ls.zipIdx k).filterMap fun p=>(f p.1).map fun r=>((p.2:Int)+1,r)).map fun r=>g r.2)=ls.filterMap fun l=>(f l).map g
 |[],_=>rfl
 |l::ls,k=>by
  have ih:=zipIdx_map f g ls (k+1)
  rw [List.zipIdx_cons,List.filterMap_cons,List.filterMap_cons]
  dsimp only
  cases f l with
  |none=>exact ih
  |some r=>simp only [Option.map_some,List.map_cons];rw [ih]
theorem rowsL_map {γ:Type} (g:List (Array UInt8)×Array UInt8→γ) (ls:List (Array UInt8)):(rowsL ls).map (fun r=>g r.2)=ls.filterMap fun l=>(rowF l).map g:=zipIdx_map rowF g ls 0
theorem missL_map {γ:Type} (g:List (Array UInt8)→γ) (ls:List (Array UInt8)):(missL ls).map (fun r=>g r.2)=ls.filterMap fun l=>(missF l).map g:=zipIdx_map missF g ls 0
set_option tactic.hygienic true
section
variable {b:Bool} {mo:Option Str} {P:List (Int×Int×Str)} {L:List (Int×Int)}
set_option tactic.hygienic false
theorem mo_word (hm:mo=none∨mo=some sCn∨mo=some sLu):∀ m,mo=some m→m∈wordsS:=fun m e=>by
 rcases hm with h|h|h
 ·rw [h] at e;cases e
 ·rw [h] at e;cases e;simp [wordsS]
 ·rw [h] at e;cases e;simp [wordsS]
theorem lines_at (hm:∀ m,mo=some m→m∈wordsS) (hP:∀ r∈P,(r.1,r.2.1)∈spansI) (hw:∀ r∈P,r.2.2∈wordsS):∀ l∈linesL b mo P,(∃ m,m∈wordsS∧l=lineM b m)∨∃ r∈P,l=lineR b r:=by
 intro l hl
 rcases List.mem_append.mp hl with h|h
 ·obtain ⟨m,hm',rfl⟩:=List.mem_map.mp h
  exact .inl ⟨m,hm m (by simpa using hm'),rfl⟩
 ·obtain ⟨r,hr,rfl⟩:=List.mem_map.mp h
  exact .inr ⟨r,(List.mem_filter.mp hr).1,rfl⟩
theorem filterMap_none {α β:Type} {f:α→Option β} {l:List α} (h:∀ x∈l,f x=none):l.filterMap f=[]:=List.filterMap_eq_nil_iff.mpr h
theorem rows_are {γ:Type} (g:List (Array UInt8)×Array UInt8→γ) (hm:∀ m,mo=some m→m∈wordsS) (hP:∀ r∈P,(r.1,r.2.1)∈spansI) (hw:∀ r∈P,r.2.2∈wordsS):(rowsL (linesL b mo P++[#[]])).map (fun r=>g r.2)=(P.filter (keepR mo)).map fun r=>g (fRow b r.1 r.2.1 r.2.2):=by
 rw [rowsL_map]
 unfold linesL
 rw [List.filterMap_append,List.filterMap_append]
 have e1:(mo.toList.map (lineM b)).filterMap (fun l=>(rowF l).map g)=[]:=filterMap_none fun l hl=>by
  obtain ⟨m,hm',rfl⟩:=List.mem_map.mp hl
  rw [(miss_lines b (bb b) m (hm m (by simpa using hm'))).2.1];rfl
 have e2: [(#[]:Array UInt8)].filterMap (fun l=>(rowF l).map g)=[]:=filterMap_none fun l hl=>by
  rw [List.mem_singleton.mp hl,no_line.1];rfl
 rw [e1,e2,List.nil_append,List.append_nil,List.filterMap_map]
 have e3:∀ (Q:List (Int×Int×Str)),(∀ r∈Q,r∈P)→Q.filterMap ((fun l=>(rowF l).map g)∘lineR b)=Q.map fun r=>g (fRow b r.1 r.2.1 r.2.2):=by
  intro Q
  induction Q with
  |nil=>intro _;rfl
  |cons r Q ih=>
   intro h
   have hr:=(row_lines b (bb b) _ (hP r (h r (.head _))) _ (hw r (h r (.head _)))).2.1
   have e4:((fun l=>(rowF l).map g)∘lineR b) r=some (g (fRow b r.1 r.2.1 r.2.2)):=by
    show (rowF (lineR b r)).map g=_
    have hr':rowF (lineR b r)=some (fRow b r.1 r.2.1 r.2.2):=hr
    rw [hr'];rfl
   rw [List.filterMap_cons,e4,List.map_cons]
   dsimp only
   rw [ih fun x hx=>h x (.tail _ hx)]
 exact e3 _ fun r hr=>(List.mem_filter.mp hr).1
theorem miss_are {γ:Type} (g:List (Array UInt8)→γ) (hm:∀ m,mo=some m→m∈wordsS) (hP:∀ r∈P,(r.1,r.2.1)∈spansI) (hw:∀ r∈P,r.2.2∈wordsS):(missL (linesL b mo P++[#[]])).map (fun r=>g r.2)=mo.toList.map fun m=>g [rngM,encA (tellOf b m)]:=by
 rw [missL_map]
 unfold linesL
 rw [List.filterMap_append,List.filterMap_append]
 have e1:((P.filter (keepR mo)).map (lineR b)).filterMap (fun l=>(missF l).map g)=[]:=filterMap_none fun l hl=>by
  obtain ⟨r,hr,rfl⟩:=List.mem_map.mp hl
  have hr:=(List.mem_filter.mp hr).1
  have:=(row_lines b (bb b) _ (hP r hr) _ (hw r hr)).2.2.1
  have hr':missF (lineR b r)=none:=this
  rw [hr'];rfl
 have e2: [(#[]:Array UInt8)].filterMap (fun l=>(missF l).map g)=[]:=filterMap_none fun l hl=>by
  rw [List.mem_singleton.mp hl,no_line.2.1];rfl
 rw [e1,e2,List.append_nil,List.append_nil,List.filterMap_map]
 cases mo with
 |none=>rfl
 |some m=>
  have hr:=(miss_lines b (bb b) m (hm m rfl)).2.2.1
  show List.filterMap _ [m]=_
  rw [List.filterMap_cons]
  have e4:((fun l=>(missF l).map g)∘lineM b) m=some (g [rngM,encA (tellOf b m)]):=by
   show (missF (lineM b m)).map g=_
   rw [hr];rfl
  rw [e4]
  rfl
theorem rows_mem (hm:∀ m,mo=some m→m∈wordsS) (hP:∀ r∈P,(r.1,r.2.1)∈spansI) (hw:∀ r∈P,r.2.2∈wordsS):∀ r∈rowsL (linesL b mo P++[#[]]),∃ q∈P,r.2=fRow b q.1 q.2.1 q.2.2:=fun r hr=>by
 have h:r.2∈(rowsL (linesL b mo P++[#[]])).map (fun r=>id r.2):=List.mem_map.mpr ⟨r,hr,rfl⟩
 rw [rows_are id hm hP hw] at h
 obtain ⟨q,hq,e⟩:=List.mem_map.mp h
 exact ⟨q,(List.mem_filter.mp hq).1,e.symm⟩
theorem miss_mem (hm:∀ m,mo=some m→m∈wordsS) (hP:∀ r∈P,(r.1,r.2.1)∈spansI) (hw:∀ r∈P,r.2.2∈wordsS):∀ r∈missL (linesL b mo P++[#[]]),∃ m∈wordsS,r.2=[rngM,encA (tellOf b m)]:=fun r hr=>by
 have h:r.2∈(missL (linesL b mo P++[#[]])).map (fun r=>id r.2):=List.mem_map.mpr ⟨r,hr,rfl⟩
 rw [miss_are id hm hP hw] at h
 obtain ⟨m,hq,e⟩:=List.mem_map.mp h
 exact ⟨m,hm m (by simpa using hq),e.symm⟩
theorem lines_of (hm:∀ m,mo=some m→m∈wordsS) (hP:∀ r∈P,(r.1,r.2.1)∈spansI) (hw:∀ r∈P,r.2.2∈wordsS):linesA (catB (propL (tellOf b) mo P))=linesL b mo P++[#[]]:=by
 rw [propL_lines,catB_flat]
 refine split_flat 10 _ fun l hl=>?_
 rcases lines_at hm hP hw l hl with ⟨m,hm',rfl⟩|⟨r,hr,rfl⟩
 ·exact (miss_lines b (bb b) m hm').1
 ·exact (row_lines b (bb b) _ (hP r hr) _ (hw r hr)).1
theorem no_mark {ls:List (Array UInt8)} (h:∀ l∈ls,l[0]?≠some 239∧0<l.size):RB.startsB (flatL 10 ls) #[239,187,191]=false:=by
 cases ls with
 |nil=>decide+kernel
 |cons l ls=>
  obtain ⟨h1,h2⟩:=h l (.head _)
  unfold RB.startsB
  split
  ·rfl
  ·refine beq_eq_false_iff_ne.mpr fun e=>h1 ?_
   have e1:=congrArg (fun a:Array UInt8=>a[0]?) e
   simp only [Array.getElem?_extract] at e1
   split at e1
   ·have e2:(flatL 10 (l::ls))[0]? =some 239:=by simpa using e1
    rw [←e2]
    simp only [flatL,Array.append_assoc]
    rw [Array.getElem?_append_left h2]
   ·simp at e1
theorem read_facts {V:Str→Str→Prop} (b:Bool) (hm:mo=none∨mo=some sCn∨mo=some sLu) (hP:(P.map (fun r=>(r.1,r.2.1))++L).Perm spansI) (hw:∀ r∈P,r.2.2∈wordsS) (h4:P.length≤4) (hk:∀ z∈wordsS,V (tellOf b z) z) {B:Array UInt8} (eB:B=catB (propL (tellOf b) mo P)):
  RB.startsB B #[239,187,191]=false∧B.size≤10000∧(linesA B).length≤20∧(∀ line∈linesA B,RB.findI (toldF line) #[35]<0)∧(∀ r∈missL (linesA B),MissGood r)∧(∀ r∈missL (linesA B),∀ f1∈r.2.getLast?,V (decS f1) (vfOf b f1))∧(∀ r∈rowsL (linesA B),RowGood2 r)∧(∀ r∈rowsL (linesA B),∀ f1∈r.2.1.getLast?,V (decS f1) (vfOf b f1))∧(rowsL (linesA B)).length≤4∧ApartT ((rowsL (linesA B)).map triOf)∧putsL (vfOf b) (linesA B)=mPut mo++P.filter (keepR mo):=by
 have hm':=mo_word hm
 have hS:∀ r∈P,(r.1,r.2.1)∈spansI:=fun r hr=>hP.mem_iff.mp (List.mem_append_left _ (List.mem_map.mpr ⟨r,hr,rfl⟩))
 have hSp:∀ r∈P,SpanOK (tellOf b) r:=fun r hr=>span_ok b (hS r hr) (hw r hr)
 obtain ⟨s1,s2,s3,s4,s5,s6⟩:=span_facts
 have hlen:(P.filter (keepR mo)).length≤4:=Nat.le_trans (List.length_filter_le _ _) h4
 have eL:linesA B=linesL b mo P++[#[]]:=by rw [eB];exact lines_of hm' hS hw
 have word:∀ z∈wordsS,V (decS (encA (tellOf b z))) (vfOf b (encA (tellOf b z))):=fun z hz=>by
  obtain ⟨w1,w2,_⟩:=word_facts b (bb b) z hz
  rw [w1,w2]
  exact hk z hz
 have eR:∀ {γ:Type} (g:List (Array UInt8)×Array UInt8→γ),(rowsL (linesA B)).map (fun r=>g r.2)=(P.filter (keepR mo)).map fun r=>g (fRow b r.1 r.2.1 r.2.2):=fun g=>by rw [eL];exact rows_are g hm' hS hw
 have rLen:(rowsL (linesA B)).length=(P.filter (keepR mo)).length:=by
  have:=congrArg List.length (eR fun zq=>())
  rwa [List.length_map,List.length_map] at this
 refine ⟨?_,?_,?_,?_,?_,?_,?_,?_,?_,⟨?_,?_,?_⟩,?_⟩
 ·rw [eB,propL_lines,catB_flat]
  refine no_mark fun l hl=>?_
  rcases lines_at hm' hS hw l hl with ⟨m,h,rfl⟩|⟨r,hr,rfl⟩
  ·exact first_bytes.2 b (bb b) m h
  ·exact first_bytes.1 b (bb b) _ (hS r hr) _ (hw r hr)
 ·rw [eB]
  have h1:=propL_size (tell:=tellOf b) (mo:=mo) (rs:=P) (fun m e=>by have:=(words_ok b (hm' m e)).1;omega) hSp
  have h2:=propL_len (tell:=tellOf b) (mo:=mo) (rs:=P)
  have h3:=catB_size h1
  have:200*(propL (tellOf b) mo P).length≤200*6:=Nat.mul_le_mul_left _ (by omega)
  omega
 ·rw [eL,List.length_append]
  unfold linesL
  rw [List.length_append,List.length_map,List.length_map]
  have:mo.toList.length≤1:=by cases mo<;>simp
  simp only [List.length_cons,List.length_nil]
  omega
 ·intro l hl
  rw [eL] at hl
  rcases List.mem_append.mp hl with hl|hl
  ·rcases lines_at hm' hS hw l hl with ⟨m,h,rfl⟩|⟨r,hr,rfl⟩
   ·exact (miss_lines b (bb b) m h).2.2.2
   ·exact (row_lines b (bb b) _ (hS r hr) _ (hw r hr)).2.2.2
  ·rw [List.mem_singleton.mp hl];exact no_line.2.2
 ·intro r hr
  rw [eL] at hr
  obtain ⟨m,hmw,e⟩:=miss_mem hm' hS hw r hr
  have w3:=(word_facts b (bb b) m hmw).2.2
  have w4:=(words_ok b hmw).1
  exact ⟨rngM,_,0,1114111,e,rng_miss,by decide,by rw [encA_size];omega,w3⟩
 ·intro r hr f1 hf
  rw [eL] at hr
  obtain ⟨m,hmw,e⟩:=miss_mem hm' hS hw r hr
  rw [e] at hf
  have:encA (tellOf b m)=f1:=by simpa using hf
  rw [←this]
  exact word m hmw
 ·intro r hr
  rw [eL] at hr
  obtain ⟨q,hq,e⟩:=rows_mem hm' hS hw r hr
  have w3:=(word_facts b (bb b) _ (hw q hq)).2.2
  have w4:=(words_ok b (hw q hq)).1
  have w5:=rngB_size q.1 q.2.1
  exact ⟨rngB q.1 q.2.1,_,q.1,q.2.1,by rw [e];rfl,rng_facts _ (hS q hq),by omega,by rw [encA_size];omega,w3⟩
 ·intro r hr f1 hf
  rw [eL] at hr
  obtain ⟨q,hq,e⟩:=rows_mem hm' hS hw r hr
  rw [e] at hf
  have:encA (tellOf b q.2.2)=f1:=by simpa [fRow] using hf
  rw [←this]
  exact word _ (hw q hq)
 ·rw [rLen];exact hlen
 ·intro x hx
  obtain ⟨r,hr,rfl⟩:=List.mem_map.mp hx
  rw [eL] at hr
  obtain ⟨q,hq,e⟩:=rows_mem hm' hS hw r hr
  have e1:(triOf r).1=q.1∧(triOf r).2.1=q.2.1:=by
   unfold triOf lotOf
   rw [e]
   show ((rangeF (rngB q.1 q.2.1)).getD (0,0)).1=_∧((rangeF (rngB q.1 q.2.1)).getD (0,0)).2=_
   rw [rng_facts _ (hS q hq)]
   exact ⟨rfl,rfl⟩
  rw [e1.1,e1.2]
  exact s1 _ (hS q hq)
 ·intro x hx y hy
  obtain ⟨r,hr,rfl⟩:=List.mem_map.mp hx
  obtain ⟨r2,hr2,rfl⟩:=List.mem_map.mp hy
  rw [eL] at hr hr2
  have tri:∀ r∈rowsL (linesL b mo P++[#[]]),∃ q∈P,(triOf r).1=q.1∧(triOf r).2.1=q.2.1:=fun r hr=>by
   obtain ⟨q,hq,e⟩:=rows_mem hm' hS hw r hr
   refine ⟨q,hq,?_⟩
   unfold triOf lotOf
   rw [e]
   show ((rangeF (rngB q.1 q.2.1)).getD (0,0)).1=_∧((rangeF (rngB q.1 q.2.1)).getD (0,0)).2=_
   rw [rng_facts _ (hS q hq)]
   exact ⟨rfl,rfl⟩
  obtain ⟨q,hq,e1,e2⟩:=tri r hr
  obtain ⟨q2,hq2,e3,e4⟩:=tri r2 hr2
  rw [e1,e2,e3]
  exact s2 _ (hS q hq) _ (hS q2 hq2)
 ·rw [List.map_map]
  have e1:(rowsL (linesA B)).map ((fun x:Int×Int×Int=>x.1)∘triOf)=(rowsL (linesA B)).map (fun r=>(fun p:List (Array UInt8)×Array UInt8=>((rangeF (p.1.headD #[])).getD (0,0)).1) r.2):=rfl
  have e3:=eR fun p:List (Array UInt8)×Array UInt8=>((rangeF (p.1.headD #[])).getD (0,0)).1
  have e2:(P.filter (keepR mo)).map (fun r=>(fun p:List (Array UInt8)×Array UInt8=>((rangeF (p.1.headD #[])).getD (0,0)).1) (fRow b r.1 r.2.1 r.2.2))=(P.filter (keepR mo)).map (·.1):=List.map_congr_left fun r hr=>by
   show ((rangeF (rngB r.1 r.2.1)).getD (0,0)).1=r.1
   rw [rng_facts _ (hS r (List.mem_filter.mp hr).1)]
   rfl
  rw [e1.trans (e3.trans e2)]
  have h1:=(hP.map (·.1)).nodup_iff.mpr s3
  rw [List.map_append,List.map_map] at h1
  have h2:(P.map (·.1)).Nodup:=(List.nodup_append.mp h1).1
  exact h2.sublist ((List.filter_sublist).map _)
 ·unfold putsL
  have e1:(missL (linesA B)).map (putOf (vfOf b))=(missL (linesA B)).map (fun r=>(fun p:List (Array UInt8)=>(((rangeF (p.headD #[])).getD (0,0)).1,((rangeF (p.headD #[])).getD (0,0)).2,vfOf b (p.getLastD #[]))) r.2):=rfl
  have e2:(rowsL (linesA B)).map (rowPut (vfOf b))=(rowsL (linesA B)).map (fun r=>(fun p:List (Array UInt8)×Array UInt8=>(((rangeF (p.1.headD #[])).getD (0,0)).1,((rangeF (p.1.headD #[])).getD (0,0)).2,vfOf b (p.1.getLastD #[]))) r.2):=rfl
  have e3:=eR fun p:List (Array UInt8)×Array UInt8=>(((rangeF (p.1.headD #[])).getD (0,0)).1,((rangeF (p.1.headD #[])).getD (0,0)).2,vfOf b (p.1.getLastD #[]))
  have e4:=miss_are (P:=P) (b:=b) (fun p:List (Array UInt8)=>(((rangeF (p.headD #[])).getD (0,0)).1,((rangeF (p.headD #[])).getD (0,0)).2,vfOf b (p.getLastD #[]))) hm' hS hw
  rw [←eL] at e4
  have e5:(mo.toList.map fun m=>(fun p:List (Array UInt8)=>(((rangeF (p.headD #[])).getD (0,0)).1,((rangeF (p.headD #[])).getD (0,0)).2,vfOf b (p.getLastD #[]))) [rngM,encA (tellOf b m)])=mPut mo:=by
   cases mo with
   |none=>rfl
   |some m=>
    show [(((rangeF rngM).getD (0,0)).1,((rangeF rngM).getD (0,0)).2,vfOf b (encA (tellOf b m)))]=[(0,1114111,m)]
    rw [rng_miss,(word_facts b (bb b) m (hm' m rfl)).2.1]
    rfl
  have e6:((P.filter (keepR mo)).map fun r=>(fun p:List (Array UInt8)×Array UInt8=>(((rangeF (p.1.headD #[])).getD (0,0)).1,((rangeF (p.1.headD #[])).getD (0,0)).2,vfOf b (p.1.getLastD #[]))) (fRow b r.1 r.2.1 r.2.2))=(P.filter (keepR mo)).map id:=List.map_congr_left fun r hr=>by
   have hr:=(List.mem_filter.mp hr).1
   show (((rangeF (rngB r.1 r.2.1)).getD (0,0)).1,((rangeF (rngB r.1 r.2.1)).getD (0,0)).2,vfOf b (encA (tellOf b r.2.2)))=r
   rw [rng_facts _ (hS r hr),(word_facts b (bb b) _ (hw r hr)).2.1]
   rfl
  rw [List.map_id] at e6
  rw [e1.trans (e4.trans e5),e2.trans (e3.trans e6)]
set_option tactic.hygienic true
end
set_option tactic.hygienic false
theorem puts_off {nm:Str} {c:Int}:∀ (ps:List (Int×Int×Str)) {sg:Str→Int→PV},(∀ p∈ps,¬(p.1≤c∧c≤p.2.1))→putsS sg nm ps nm c=sg nm c
 |[],_,_=>rfl
 |p::ps,sg,h=>by
  show putsS (updS sg nm p.1 p.2.1 (.str p.2.2)) nm ps nm c=_
  rw [puts_off ps fun q hq=>h q (.tail _ hq)]
  unfold updS
  rw [if_pos rfl,if_neg (h p (.head _))]
theorem puts_at {nm:Str} {c:Int} {A B:List (Int×Int×Str)} {p:Int×Int×Str} {sg:Str→Int→PV} (hp:p.1≤c∧c≤p.2.1) (h:∀ q∈B,¬(q.1≤c∧c≤q.2.1)):putsS sg nm (A++p::B) nm c= .str p.2.2:=by
 have e:putsS sg nm (A++p::B)=putsS (updS (putsS sg nm A) nm p.1 p.2.1 (.str p.2.2)) nm B:=by unfold putsS;rw [List.foldl_append];rfl
 rw [e,puts_off B h]
 unfold updS
 rw [if_pos rfl,if_pos hp]
theorem inj_nodup {α β:Type} {f:α→β}:∀ {l:List α},(l.map f).Nodup→∀ x∈l,∀ y∈l,f x=f y→x=y
 |[],_,_,hx,_,_,_=>nomatch hx
 |a::l,h,x,hx,y,hy,e=>by
  rw [List.map_cons,List.nodup_cons] at h
  rcases List.mem_cons.mp hx with ex|hx1
  ·rcases List.mem_cons.mp hy with ey|hy1
   ·exact ex.trans ey.symm
   ·exact absurd (by rw [←ex,e];exact List.mem_map_of_mem hy1) h.1
  ·rcases List.mem_cons.mp hy with ey|hy1
   ·exact absurd (by rw [←ey,←e];exact List.mem_map_of_mem hx1) h.1
   ·exact inj_nodup h.2 x hx1 y hy1 e
theorem nodup_unmap {α β:Type} {f:α→β}:∀ {l:List α},(l.map f).Nodup→l.Nodup
 |[],_=>.nil
 |a::l,h=>by
  rw [List.map_cons,List.nodup_cons] at h
  exact List.nodup_cons.mpr ⟨fun q=>h.1 (List.mem_map_of_mem q),nodup_unmap h.2⟩
theorem read_vals {mo:Option Str} {P:List (Int×Int×Str)} {L:List (Int×Int)} (hP:(P.map (fun r=>(r.1,r.2.1))++L).Perm spansI):
  (∀ r∈P,putsS (fun n zq=>dflt n) sGc (mPut mo++P.filter (keepR mo)) sGc r.1= .str r.2.2∧putsS (fun n zq=>dflt n) sGc (mPut mo++P.filter (keepR mo)) sGc r.2.1= .str r.2.2)∧putsS (fun n zq=>dflt n) sGc (mPut mo++P.filter (keepR mo)) sGc 8192= .str (mo.getD sCn):=by
 obtain ⟨s1,s2,s3,s4,s5,s6⟩:=span_facts
 have hS:∀ r∈P,(r.1,r.2.1)∈spansI:=fun r hr=>hP.mem_iff.mp (List.mem_append_left _ (List.mem_map.mpr ⟨r,hr,rfl⟩))
 have h1:=(hP.map (·.1)).nodup_iff.mpr s3
 rw [List.map_append,List.map_map] at h1
 have h2:(P.map (·.1)).Nodup:=(List.nodup_append.mp h1).1
 have inj:=inj_nodup h2
 have ap:∀ r∈P,∀ q∈P,q≠r→¬(q.1≤r.1∧r.1≤q.2.1)∧¬(q.1≤r.2.1∧r.2.1≤q.2.1):=fun r hr q hq hne=>
  s4 _ (hS r hr) _ (hS q hq) fun e=>hne (inj q hq r hr (congrArg Prod.fst e).symm)
 have main:∀ r∈P,∀ c,(c=r.1∨c=r.2.1)→putsS (fun n zq=>dflt n) sGc (mPut mo++P.filter (keepR mo)) sGc c= .str r.2.2:=fun r hr c hc=>by
  obtain ⟨k1,k2,k3,k4⟩:=s6 _ (hS r hr)
  have k5:=(s1 _ (hS r hr)).1
  dsimp only at k1 k2 k3 k4 k5
  have off:∀ q∈P,q≠r→¬(q.1≤c∧c≤q.2.1):=fun q hq hne=>by
   rcases hc with rfl|rfl
   ·exact (ap r hr q hq hne).1
   ·exact (ap r hr q hq hne).2
  by_cases hk:keepR mo r=true
  ·obtain ⟨A,B,e⟩:=List.append_of_mem (List.mem_filter.mpr ⟨hr,hk⟩)
   have nd:(P.filter (keepR mo)).Nodup:=by
    have:(P.filter (keepR mo)).map (·.1) |>.Nodup:=h2.sublist ((List.filter_sublist).map _)
    exact nodup_unmap this
   rw [e] at nd ⊢
   rw [←List.append_assoc]
   refine puts_at (by rcases hc with rfl|rfl<;>omega) fun q hq=>?_
   have hq':q∈P.filter (keepR mo):=by rw [e];exact List.mem_append_right _ (.tail _ hq)
   refine off q (List.mem_filter.mp hq').1 fun eq=>?_
   subst eq
   have:=(List.nodup_append.mp nd).2.1
   exact (List.nodup_cons.mp this).1 hq
  ·cases mo with
   |none=>exact absurd rfl hk
   |some m=>
    have ez:r.2.2=m:=by
     have: ¬(r.2.2 != m)=true:=hk
     simpa using this
    rw [ez]
    refine puts_at (A:=[]) (p:=(0,1114111,m)) (by rcases hc with rfl|rfl<;>(dsimp only;omega)) fun q hq=>?_
    obtain ⟨hq1,hq2⟩:=List.mem_filter.mp hq
    exact off q hq1 fun eq=>hk (eq▸hq2)
 refine ⟨fun r hr=>⟨main r hr _ (.inl rfl),main r hr _ (.inr rfl)⟩,?_⟩
 have off:∀ q∈P.filter (keepR mo),¬(q.1≤8192∧8192≤q.2.1):=fun q hq=>s5 _ (hS q (List.mem_filter.mp hq).1)
 cases mo with
 |none=>
  rw [show mPut none++P.filter (keepR none)=P.filter (keepR none) from rfl,puts_off _ off]
  show dflt sGc= .str sCn
  decide+kernel
 |some m=>exact puts_at (A:=[]) (p:=(0,1114111,m)) (by dsimp only;omega) off
theorem put_ok {mo:Option Str} {P:List (Int×Int×Str)} {L:List (Int×Int)} (hP:(P.map (fun r=>(r.1,r.2.1))++L).Perm spansI):∀ p∈mPut mo++P.filter (keepR mo),0≤p.1∧p.1≤p.2.1∧p.2.1≤1114111:=by
 intro p hp
 rcases List.mem_append.mp hp with hp|hp
 ·cases mo with
  |none=>cases hp
  |some m=>rw [List.mem_singleton.mp hp];dsimp only;omega
 ·have h1:=(List.mem_filter.mp hp).1
  have h2:=hP.mem_iff.mp (List.mem_append_left _ (List.mem_map.mpr ⟨p,h1,rfl⟩))
  obtain ⟨k1,_,_,_,k5,k6⟩:=spans_ok _ h2
  exact ⟨k1,k5,k6⟩
set_option tactic.hygienic true
end
end
section
section
variable {w:World} {D:Nat} {aw ac b:Addr} {vs its:List Value} {ns:List Int} {k0 nn:Nat} {spot below:Int} {t0 u:Tok} {pre post:Led} {K:Value→Led→Prop}
set_option tactic.hygienic false
theorem updOf {d:Addr} {o:Obj} {post:Led} (h2:∀ p∈post,p.1≠d):∀ {pre:Led},(∀ p∈pre,p.1≠d)→UpdF d o (pre++(d,o)::post) (fun o'=>pre++(d,o')::post)
 |[],_=>.head h2
 |p::pre,h=>.tail (h p (.head _)) (updOf h2 fun q hq=>h q (.tail _ hq))
theorem pw_mid {a:Addr} {o:Obj} {pre post:Led} (P:(pre++(a,o)::post).Pairwise fun p q=>p.1≠q.1):(∀ p∈pre,p.1≠a)∧(∀ p∈post,p.1≠a):=by
 have P2:=List.pairwise_append.mp P
 exact ⟨fun p hp=>P2.2.2 p hp _ (.head _),fun p hp=>Ne.symm ((List.pairwise_cons.mp P2.2.1).1 p hp)⟩
theorem pw_put {a:Addr} {o o':Obj} {pre post:Led} (P:(pre++(a,o)::post).Pairwise fun p q=>p.1≠q.1):(pre++(a,o')::post).Pairwise fun p q=>p.1≠q.1:=by
 have P2:=List.pairwise_append.mp P
 have P3:=List.pairwise_cons.mp P2.2.1
 exact List.pairwise_append.mpr ⟨P2.1,List.pairwise_cons.mpr ⟨P3.1,P3.2⟩,fun p hp q hq=>by
  rcases List.mem_cons.mp hq with rfl|hq
  ·exact P2.2.2 p hp (a,o) (.head _)
  ·exact P2.2.2 p hp q (.tail _ hq)⟩
theorem app_mid {x:Addr×Obj} {pre post hid:Led}:(pre++x::post)++hid=pre++x::(post++hid):=by rw [List.append_assoc,List.cons_append]
set_option tactic.hygienic true
end
end
section
section
variable {w:World} {D:Nat} {l:Led} {K:Value→Led→Prop}
set_option tactic.hygienic false
theorem updE {d:Addr} {o o':Obj} {post:Led}:∀ {pre:Led},(∀ p∈pre,p.1≠d)→(∀ p∈post,p.1≠d)→Upd d o o' (pre++(d,o)::post) (pre++(d,o')::post)
 |[],_,h=>.head h
 |p::pre,h,k=>.tail (h p (.head _)) (updE (fun q hq=>h q (.tail _ hq)) k)
theorem GM.joinB {b:Array UInt8} {t:Tok} {K:Value×List Value→Led→Prop} (k:K (.builtin "bytes.join",[.bytes b t]) l):GM w D (.bytes b t) (Str.ofString "join") l K:=⟨fun zq zq zq zq s zq S q=>RB.method_join (q _ l s.heap s.toks k S)⟩
theorem GM.findB {b:Array UInt8} {t:Tok} {K:Value×List Value→Led→Prop} (k:K (.builtin "bytes.find",[.bytes b t]) l):GM w D (.bytes b t) (Str.ofString "find") l K:=⟨fun zq zq zq zq s zq S q=>RB.method_find (q _ l s.heap s.toks k S)⟩
theorem GM.stripB {b:Array UInt8} {t:Tok} {K:Value×List Value→Led→Prop} (k:K (.builtin "bytes.strip",[.bytes b t]) l):GM w D (.bytes b t) (Str.ofString "strip") l K:=⟨fun zq zq zq zq s zq S q=>RB.method_strip (q _ l s.heap s.toks k S)⟩
theorem GM.splitB {b:Array UInt8} {t:Tok} {K:Value×List Value→Led→Prop} (k:K (.builtin "bytes.split",[.bytes b t]) l):GM w D (.bytes b t) (Str.ofString "split") l K:=⟨fun zq zq zq zq s zq S q=>RB.method_split (q _ l s.heap s.toks k S)⟩
theorem GM.startsB {b:Array UInt8} {t:Tok} {K:Value×List Value→Led→Prop} (k:K (.builtin "bytes.startswith",[.bytes b t]) l):GM w D (.bytes b t) (Str.ofString "startswith") l K:=⟨fun zq zq zq zq s zq S q=>RB.method_startswith (q _ l s.heap s.toks k S)⟩
theorem OP.joinB {sep:Array UInt8} {t:Tok} {a:Addr} {vs:List Value} {n:Nat} {bs:List (Array UInt8)} (hm:(a,listOf vs.toArray n)∈l) (hv:BytesAre vs bs) (hz:RB.foldSize sep bs≤16777216) (k:∀ t,K (.bytes (Mine.Internal.joinB sep bs) t) l):OP w D (call (.builtin "bytes.join") [.bytes sep t,.ref a]) l K:=
 ⟨fun C zq zq s zq S q=>RB.call_join (lm_list S.N (List.mem_append_left C.hid hm)) hv hz fun t' k'=>q _ l s.heap k' (k t') ⟨S.F,S.N,S.D⟩⟩
theorem OP.addL {a b:Addr} {vs us:List Value} {n n2:Nat} (hm:(a,listOf vs.toArray n)∈l) (hm2:(b,listOf us.toArray n2)∈l) (hz:vs.length+us.length≤16384) (k:∀ c,(∀ p∈l,p.1<c)→K (.ref c) ((c,listOf (vs++us).toArray 0)::l)):OP w D (binaryOp .Add (.ref a) (.ref b)) l K:=
 ⟨fun C zq zq s zq S q=>lm_add S.F S.N (List.mem_append_left _ hm) (List.mem_append_left _ hm2) hz fun Da h' F' N' l1=>q _ _ h' s.toks (k Da fun p hp=>l1 p (List.mem_append_left _ hp)) (S.new F' N' l1)⟩
theorem OP.copyT {a:Addr} {vs:List Value} (hT:TupL w (.ref a) vs l) (hz:vs.length≤16777216) (k:∀ c n,(∀ p∈l,p.1<c)→K (.ref c) ((c,listOf vs.toArray n)::l)):OP w D (call (.type "list") [.ref a]) l K:=
 ⟨fun C zq zq s zq S q=>by
   obtain ⟨t,e,hT⟩:=hT.at S
   cases e
   exact list_copyKT S.F S.N hT (fun Da c h' F' N' l1=>q _ _ h' s.toks (k Da c fun p hp=>l1 p (List.mem_append_left _ hp)) (S.new F' N' l1)) (by rw [sizeLine_eq,List.size_toArray];exact hz)⟩
theorem OP.pop {pre post:Led} {a:Addr} {vs:List Value} {n j:Nat} {i:Int} {t:Tok} {y:Value} (hf:Builtin.List.listFitsIndex i=true) (hj:seqIndex? i vs.length=some j) (hy:vs[j]? =some y) (hz:vs.length≤16777216) (k:K y (pre++(a,listOf (vs.take j++vs.drop (j+1)).toArray (n+1))::post)):
  OP w D (call (.builtin "list.pop") [.ref a,.int i t]) (pre++(a,listOf vs.toArray n)::post) K:=
 ⟨fun C zq zq s zq S q=>by
   obtain ⟨N,h1,h2⟩:=S.split
   have cut:∀ {l:List Value} {i:Nat} {y:Value},l[i]? =some y→kl_cut l i=some (l.take i,y,l.drop (i+1)):=by
    intro l
    induction l with
    |nil=>intro i y h;simp at h
    |cons x r ih=>
     intro i y h
     cases i with
     |zero=>cases h;rfl
     |succ i=>
      have:=ih (i:=i) (y:=y) (by simpa using h)
      show (match kl_cut r i with|some (p,y,q)=>some (x::p,y,q)|none=>none)=_
      rw [this];rfl
   refine kl_popAt S.F N hf (by rw [List.size_toArray];exact hj) (cut hy) (updE h1 h2) (by rw [sizeLine_eq];exact hz) fun h' F' N'=>q _ _ h' s.toks k ⟨F',?_,?_⟩
   ·rw [app_mid];exact N'
   ·rw [app_mid];have P:=S.D;rw [app_mid] at P;exact pw_put P⟩
theorem SLO.drop {a:Addr} {vs:List Value} {n:Nat} {i:Int} {t:Tok} (hm:(a,listOf vs.toArray n)∈l) (hz:(vs.length:Int)≤16777216) (h0:0≤i) (h1:i≤vs.length) (k:∀ c,(∀ p∈l,p.1<c)→K (.ref c) ((c,listOf (vs.drop i.toNat).toArray 0)::l)):SLO w D (.ref a) (.int i t) .none l K:=
 ⟨fun C zq zq=>⟨fun s zq S q=>lm_drop S.F S.N (List.mem_append_left _ hm) hz h0 h1 (fun Da h' F' N' l1=>q _ _ h' s.toks (k Da fun p hp=>l1 p (List.mem_append_left _ hp)) (S.new F' N' l1)) (by with_unfolding_all rfl) (fun zq=>rfl)⟩⟩
theorem SLO.take {a:Addr} {vs:List Value} {n:Nat} {i:Int} {t:Tok} (hm:(a,listOf vs.toArray n)∈l) (hz:(vs.length:Int)≤16777216) (h0:0≤i) (h1:i≤vs.length) (k:∀ c,(∀ p∈l,p.1<c)→K (.ref c) ((c,listOf (vs.take i.toNat).toArray 0)::l)):SLO w D (.ref a) .none (.int i t) l K:=
 ⟨fun C zq zq=>⟨fun s zq S q=>lm_take S.F S.N (List.mem_append_left _ hm) hz h0 h1 (fun Da h' F' N' l1=>q _ _ h' s.toks (k Da fun p hp=>l1 p (List.mem_append_left _ hp)) (S.new F' N' l1)) (by with_unfolding_all rfl) (fun zq=>rfl)⟩⟩
theorem OP.eqL {a b:Addr} {xs ys:List Value} {n n2:Nat} {bs:List (Array UInt8)} (hm:(a,listOf xs.toArray n)∈l) (hm2:(b,listOf ys.toArray n2)∈l) (hx:BytesAre xs bs) (hy:BytesAre ys bs) (k:K (.bool true) l):OP w D (compareOp .Eq (.ref a) (.ref b)) l K:=
 ⟨fun C zq zq s zq S q=>eq_listB' (lm_list S.N (List.mem_append_left _ hm)) (lm_list S.N (List.mem_append_left _ hm2)) hx hy (by show C.un<_;have:=C.hu;omega) (q _ _ s.heap s.toks k S)⟩
theorem OP.neL {a b:Addr} {xs ys:List Value} {n n2:Nat} {bs:List (Array UInt8)} (hm:(a,listOf xs.toArray n)∈l) (hm2:(b,listOf ys.toArray n2)∈l) (hx:BytesAre xs bs) (hy:BytesAre ys bs) (k:K (.bool false) l):OP w D (compareOp .NotEq (.ref a) (.ref b)) l K:=
 ⟨fun C zq zq s zq S q=>ne_listB' (lm_list S.N (List.mem_append_left _ hm)) (lm_list S.N (List.mem_append_left _ hm2)) hx hy (by show C.un<_;have:=C.hu;omega) (q _ _ s.heap s.toks k S)⟩
set_option tactic.hygienic true
theorem GM.pop {a:Addr} {xs:Array Value} {n:Nat} {K:Value×List Value→Led→Prop} (hm:(a,listOf xs n)∈l) (k:K (.builtin "list.pop",[.ref a]) l):GM w D (.ref a) (Str.ofString "pop") l K:=by
 refine ⟨fun C m b zq s Q S q=>?_⟩
 rcases C with ⟨mean,mg,mb,dp,un,gd,cn,cs,a,ccd,cl,outer,A₀,base,h₀,L,B,X,T,hk,D,hd,hu,hid⟩
 rcases S with ⟨F,N,P⟩
 dsimp only at F N P q
 have hm2:=List.mem_append_left hid hm
 show wpAny _ (ktrTop dp un gd cn cs L a ccd cl outer) _ _ _ _
 k_steps
 exact q _ _ _ _ k ⟨F,N,P⟩
end
end
section
section
variable {w:World} {D:Nat} {pl:PL} {K:KP}
set_option tactic.hygienic false
theorem RL.mem {F:Led} {a:Addr} {xs:List P} {pl:PL} {l:Led} (k:RL w F pl l) (h:(a,PO.list xs)∈pl):∃ vs n,(a,listOf vs.toArray n)∈l∧RVs w F xs vs:=by
 obtain ⟨pre,post,rfl⟩:=List.append_of_mem h
 obtain ⟨p,q,vs,n,rfl,h1,_,_⟩:=k.mid
 exact ⟨vs,n,List.mem_append_right _ (.head _),h1⟩
theorem RS.mem {F:Led} {a:Addr} {xs:List P} {l:Led} (h:RS w F pl l) (hm:(a,PO.list xs)∈pl):∃ vs n,(a,listOf vs.toArray n)∈l∧RVs w F xs vs:=by
 obtain ⟨core,k,q⟩:=h
 obtain ⟨vs,n,h1,h2⟩:=k.mem hm
 exact ⟨vs,n,q.mem_iff.mpr (List.mem_append_left _ h1),h2⟩
theorem RS.at {F:Led} {pre post:PL} {a:Addr} {xs:List P} {l:Led} (h:RS w F (pre++(a,.list xs)::post) l):∃ p q vs n,List.Perm l (p++(a,listOf vs.toArray n)::q)∧RVs w F xs vs∧(∀ {ys us m},RVs w F ys us→RS w F (pre++(a,.list ys)::post) (p++(a,listOf us.toArray m)::q))∧∀ {b zs},(b,PO.list zs)∈pre++post→∃ us m,(b,listOf us.toArray m)∈p++q∧RVs w F zs us:=by
 obtain ⟨core,k,q⟩:=h
 obtain ⟨p1,p2,vs,n,rfl,h1,h2,h3⟩:=k.mid
 refine ⟨p1,p2++F,vs,n,?_,h1,fun {ys us m} hy=>⟨_,h2 _ _ _ m (fun zq h=>h) hy,?_⟩,fun hm=>?_⟩
 ·rw [List.append_assoc,List.cons_append] at q;exact q
 ·rw [List.append_assoc,List.cons_append]
 ·obtain ⟨us,m,e1,e2⟩:=h3.mem hm
  refine ⟨us,m,?_,e2⟩
  rw [←List.append_assoc]
  exact List.mem_append_left _ e1
theorem PMe.append {W:PL→KPs→Prop} {a:Addr} {xs:List P} (hm:(a,PO.list xs)∈pl) (h:W pl fun ps pl=>PCall w D (.builtin "list.append") (.val (.ref a)::ps) pl K):PMe w D (.val (.ref a)) (Str.ofString "append") W pl K:=
 ⟨.builtin "list.append",trivial,fun F l x hx hl=>by
   rw [hx.valI]
   obtain ⟨vs,n,h1,_⟩:=hl.mem hm
   exact GM.append h1 ⟨rfl,rfl⟩,h⟩
theorem PMe.pop {W:PL→KPs→Prop} {a:Addr} {xs:List P} (hm:(a,PO.list xs)∈pl) (h:W pl fun ps pl=>PCall w D (.builtin "list.pop") (.val (.ref a)::ps) pl K):PMe w D (.val (.ref a)) (Str.ofString "pop") W pl K:=
 ⟨.builtin "list.pop",trivial,fun F l x hx hl=>by
   rw [hx.valI]
   obtain ⟨vs,n,h1,_⟩:=hl.mem hm
   exact GM.pop h1 ⟨rfl,rfl⟩,h⟩
theorem PCall.append {pre post:PL} {a:Addr} {xs:List P} {p:P} (hz:xs.length≤16777216) (k:K .none (pre++(a,.list (xs++[p]))::post)):PCall w D (.builtin "list.append") [.val (.ref a),p] (pre++(a,.list xs)::post) K:=⟨fun F l us hps hl=>by
 obtain ⟨p1,p2,vs,n,q,h1,h2,_⟩:=hl.at
 obtain ⟨v,u,rfl,e1,hp⟩:=hps.two
 rw [e1.valI]
 exact OP.perm q (OP.append (by rw [h1.len];exact hz) (liftK.mk .none (h2 (h1.app (.cons hp .nil))) k))⟩
theorem PCall.pop {pre post:PL} {a:Addr} {xs:List P} {i:Int} {j:Nat} {p:P} (hf:Builtin.List.listFitsIndex i=true) (hj:seqIndex? i xs.length=some j) (hy:xs[j]? =some p) (hz:xs.length≤16777216) (k:K p (pre++(a,.list (xs.take j++xs.drop (j+1)))::post)):PCall w D (.builtin "list.pop") [.val (.ref a),.int i] (pre++(a,.list xs)::post) K:=⟨fun F l us hps hl=>by
 obtain ⟨p1,p2,vs,n,q,h1,h2,_⟩:=hl.at
 obtain ⟨u,e1,e2⟩:=h1.get hy
 obtain ⟨v,z,rfl,e3,e4⟩:=hps.two
 obtain ⟨t,rfl⟩:=e4.intI
 rw [e3.valI]
 exact OP.perm q (OP.pop hf (by rw [h1.len];exact hj) e1 (by rw [h1.len];exact hz) (liftK.mk e2 (h2 ((h1.take j).app (h1.drop (j+1)))) k))⟩
theorem PCall.len {a:Addr} {xs:List P} (hm:(a,PO.list xs)∈pl) (hz:xs.length≤16777216) (k:K (.int xs.length) pl):PCall w D (.builtin "len") [.val (.ref a)] pl K:=⟨fun F l us hps hl=>by
 obtain ⟨vs,n,h1,h2⟩:=hl.mem hm
 obtain ⟨v,rfl,e1⟩:=hps.one
 rw [e1.valI]
 exact OP.len (by rw [h2.len];exact hz) h1 fun t=>liftK.mk .int hl (by rw [h2.len];exact k)⟩
theorem PSb.last {a:Addr} {xs:List P} {p:P} (hm:(a,PO.list (xs++[p]))∈pl) (k:K p pl):PSb w D (.val (.ref a)) (.int (-1)) pl K:=⟨fun F l x y hx hy hl=>by
 rw [hx.valI]
 obtain ⟨_,rfl⟩:=hy.intI
 obtain ⟨vs,n,h1,h2⟩:=hl.mem hm
 obtain ⟨u,e1,e2⟩:=h2.get (i:=xs.length) (x:=p) (by simp)
 exact OP.last h1 (by rw [List.getLast?_eq_getElem?,h2.len,List.length_append,List.length_singleton,Nat.add_sub_cancel];exact e1) (liftK.mk e2 hl k)⟩
theorem PSb.item {a:Addr} {xs:List P} {p:P} {i:Int} (hm:(a,PO.list xs)∈pl) (h0:0≤i) (hx:xs[i.toNat]? =some p) (hz:xs.length≤16777216) (k:K p pl):PSb w D (.val (.ref a)) (.int i) pl K:=⟨fun F l x y hx' hy hl=>by
 rw [hx'.valI]
 obtain ⟨_,rfl⟩:=hy.intI
 obtain ⟨vs,n,h1,h2⟩:=hl.mem hm
 obtain ⟨u,e1,e2⟩:=h2.get hx
 exact OP.item h1 h0 e1 (by rw [h2.len];exact hz) (liftK.mk e2 hl k)⟩
theorem PSb.itemL {xs:List P} {p:P} {i:Int} (h0:0≤i) (hx:xs[i.toNat]? =some p) (hz:xs.length≤16777216) (k:K p pl):PSb w D (.lst xs) (.int i) pl K:=⟨fun F l x y hx' hy hl=>by
 obtain ⟨_,rfl⟩:=hy.intI
 obtain ⟨a,us,n,rfl,h,m⟩:=hx'.lstI
 obtain ⟨u,e1,e2⟩:=h.get hx
 exact OP.item (hl.sub _ m) h0 e1 (by rw [h.len];exact hz) (liftK.mk e2 hl k)⟩
theorem PB.bytes {x y:Array UInt8} (hz:x.size+y.size≤16777216) (k:K (.bytes (x++y)) pl):PB w D .Add (.bytes x) (.bytes y) pl K:=⟨fun F l zq zq hx hy hl=>by obtain ⟨_,rfl⟩:=hx.bytesI;obtain ⟨_,rfl⟩:=hy.bytesI;exact OP.add_bytes hz fun t=>liftK.mk .bytes hl k⟩
theorem PB.str {x y:Str} (hz:x.length+y.length≤16777216) (k:K (.str (x++y)) pl):PB w D .Add (.str x) (.str y) pl K:=⟨fun F l zq zq hx hy hl=>by obtain ⟨_,rfl⟩:=hx.strI;obtain ⟨_,rfl⟩:=hy.strI;exact OP.add_str hz fun t=>liftK.mk .str hl k⟩
theorem PB.lists {a b:Addr} {xs ys:List P} (hm:(a,PO.list xs)∈pl) (hm2:(b,PO.list ys)∈pl) (hz:xs.length+ys.length≤16384) (k:∀ c,K (.val (.ref c)) ((c,.list (xs++ys))::pl)):PB w D .Add (.val (.ref a)) (.val (.ref b)) pl K:=⟨fun F l zq zq hx hy hl=>by
 rw [hx.valI,hy.valI]
 obtain ⟨vs,n,h1,h2⟩:=hl.mem hm
 obtain ⟨us,m,h3,h4⟩:=hl.mem hm2
 exact OP.addL h1 h3 (by rw [h2.len,h4.len];exact hz) fun c zq=>liftK.mk .val (hl.list (h2.app h4)) (k c)⟩
theorem PC.eqB {x:Array UInt8} (k:K (.bool true) pl):PC w D .Eq (.bytes x) (.bytes x) pl K:=⟨fun F l zq zq hx hy hl=>by obtain ⟨_,rfl⟩:=hx.bytesI;obtain ⟨_,rfl⟩:=hy.bytesI;exact OP.eq_bytesT (liftK.mk .bool hl k)⟩
theorem PC.neB {x:Array UInt8} (k:K (.bool false) pl):PC w D .NotEq (.bytes x) (.bytes x) pl K:=⟨fun F l zq zq hx hy hl=>by obtain ⟨_,rfl⟩:=hx.bytesI;obtain ⟨_,rfl⟩:=hy.bytesI;exact OP.ne_bytesF (liftK.mk .bool hl k)⟩
theorem PCall.range {n:Int} (k:K (.rng n) pl):PCall w D (.type "range") [.int n] pl K:=⟨fun F l us hps hl=>by
 obtain ⟨v,rfl,e1⟩:=hps.one
 obtain ⟨t,rfl⟩:=e1.intI
 exact OP.range1 fun r t1 t2 t3 zq=>⟨.rng n,pl,_,.rng (.head _),hl.more,fun zq h=>.tail _ h,k⟩⟩
noncomputable abbrev wellP (ac:Addr) (spot:Int):PO:=.list [.val (.ref ac),.int spot]
noncomputable abbrev intsP (ns:List Int):PO:=.list (ns.map P.int)
theorem ints_of {F:Led}:∀ {ns:List Int} {us:List Value},RVs w F (ns.map P.int) us→IntsAre us ns
 |[],_,h=>by rw [h.nil_inv];exact .nil
 |n::ns,_,h=>by
  obtain ⟨v,vs,rfl,a,b⟩:=h.cons_inv
  obtain ⟨t,rfl⟩:=a.intI
  exact .cons _ _ (ints_of b)
theorem bytes_of {F:Led}:∀ {bs:List (Array UInt8)} {us:List Value},RVs w F (bs.map P.bytes) us→BytesAre us bs
 |[],_,h=>by rw [h.nil_inv];exact .nil
 |n::ns,_,h=>by
  obtain ⟨v,vs,rfl,a,b⟩:=h.cons_inv
  obtain ⟨t,rfl⟩:=a.bytesI
  exact .cons _ _ (bytes_of b)
theorem PMe.joinB {W:PL→KPs→Prop} {b:Array UInt8} (h:W pl fun ps pl=>PCall w D (.builtin "bytes.join") (.bytes b::ps) pl K):PMe w D (.bytes b) (Str.ofString "join") W pl K:=
 ⟨.builtin "bytes.join",trivial,fun F l x hx hl=>by obtain ⟨_,rfl⟩:=hx.bytesI;exact GM.joinB ⟨rfl,rfl⟩,h⟩
theorem PCall.joinB {sep:Array UInt8} {a:Addr} {bs:List (Array UInt8)} (hm:(a,PO.list (bs.map P.bytes))∈pl) (hz:RB.foldSize sep bs≤16777216) (k:K (.bytes (Mine.Internal.joinB sep bs)) pl):PCall w D (.builtin "bytes.join") [.bytes sep,.val (.ref a)] pl K:=⟨fun F l us hps hl=>by
 obtain ⟨vs,n,h1,h2⟩:=hl.mem hm
 obtain ⟨v,u,rfl,e1,e2⟩:=hps.two
 obtain ⟨t,rfl⟩:=e1.bytesI
 rw [e2.valI]
 exact OP.joinB h1 (bytes_of h2) hz fun t=>liftK.mk .bytes hl k⟩
theorem PCall.joinBL {sep:Array UInt8} {bs:List (Array UInt8)} (hz:RB.foldSize sep bs≤16777216) (k:K (.bytes (Mine.Internal.joinB sep bs)) pl):PCall w D (.builtin "bytes.join") [.bytes sep,.lst (bs.map P.bytes)] pl K:=⟨fun F l us hps hl=>by
 obtain ⟨v,u,rfl,e1,e2⟩:=hps.two
 obtain ⟨t,rfl⟩:=e1.bytesI
 obtain ⟨a,us,n,rfl,h,m⟩:=e2.lstI
 exact OP.joinB (hl.sub _ m) (bytes_of h) hz fun t=>liftK.mk .bytes hl k⟩
theorem map_at {α:Type} {f:α→P} {l:List α} {i:Nat} {p:P} (h:(l.map f)[i]? =some p):∃ x,l[i]? =some x∧p=f x:=by
 rw [List.getElem?_map] at h
 obtain ⟨x,h1,h2⟩:=Option.map_eq_some_iff.mp h
 exact ⟨x,h1,h2.symm⟩
set_option tactic.hygienic true
end
end
section
set_option tactic.hygienic false
noncomputable def pvP:PV→P
 | .none=>.none
 | .bool b=>.bool b
 | .int n=>.int n
 | .str s=>.str s
 | .bytes b=>.bytes b
 | .ref a=>.val (.ref a)
noncomputable def rawP (l:Led):PL:=l.map fun p=>(p.1,.raw p.2)
noncomputable def optP:Option Int→P
 |none=>.none
 |some n=>.int n
set_option tactic.hygienic true
section
variable {w:World} {D:Nat} {pl:PL} {K:KP}
set_option tactic.hygienic false
theorem pvP_ok {F:Led} {v:Value} {p:PV} (h:IsV v p):RV w F (pvP p) v:=by
 cases h
 ·exact .none
 ·exact .bool
 ·exact .int
 ·exact .str
 ·exact .bytes
 ·exact .val
theorem RL.memR {F:Led} {a:Addr} {o:Obj}:∀ {pl:PL} {l:Led},RL w F pl l→(a,PO.raw o)∈pl→(a,o)∈l:=by
 intro pl l h
 induction h with
 |nil=>intro h;simp at h
 |list _ _ ih=>
  intro hm
  rcases List.mem_cons.mp hm with e|hm
  ·cases e
  ·exact .tail _ (ih hm)
 |raw _ ih=>
  intro hm
  rcases List.mem_cons.mp hm with e|hm
  ·cases e;exact .head _
  ·exact .tail _ (ih hm)
theorem RS.memR {F:Led} {a:Addr} {o:Obj} {l:Led} (h:RS w F pl l) (hm:(a,PO.raw o)∈pl):(a,o)∈l:=by
 obtain ⟨core,k,q⟩:=h
 exact q.mem_iff.mpr (List.mem_append_left _ (k.memR hm))
theorem pcut {x:X} {vs:PVs} {q:P} (h:∀ K':KP,K' q pl→PX w D x vs pl K') (k:K q pl):PX w D x vs pl K:=h K k
theorem PUn.lst {n:Nat} {xs:List P} {K:KPs} (hn:xs.length=n) (k:K xs pl):PUn w D (.lst xs) n pl K:=⟨fun F l x hx hl=>by
 obtain ⟨t,us,m,rfl,h1,h2⟩:=hx.lstI
 exact ⟨fun C m hD elts kk pos env s Q S a b q=>kun_list S.F S.N (lm_list S.N (List.mem_append_left _ (hl.sub _ h2))) rfl (by rw [a,List.size_toArray,h1.len,hn]) b fun h' F' N'=>q us l h' ⟨xs,pl,F,h1,hl,fun zq h=>h,k⟩ (by rw [h1.len,hn]) ⟨F',N',S.D⟩⟩⟩
theorem pv_some (q:PV):∃ v,IsV v q:=by
 cases q
 ·exact ⟨_,.none⟩
 ·exact ⟨_,.bool _⟩
 ·exact ⟨_,.int _ 0⟩
 ·exact ⟨_,.str _ 0⟩
 ·exact ⟨_,.bytes _ 0⟩
 ·exact ⟨_,.ref _⟩
noncomputable def nameP:Option (Array UInt8)→P
 |none=>.none
 |some b=>.bytes b
theorem name_p {q:PV} {o:Option (Array UInt8)} (h:∀ v,IsV v q→NameV v o):pvP q=nameP o∧(o.getD ctlB).size≤100:=by
 obtain ⟨v,hv⟩:=pv_some q
 have:=h v hv
 cases this with
 |none=>cases hv;exact ⟨rfl,by decide+kernel⟩
 |some b t hz=>cases hv;exact ⟨rfl,hz⟩
theorem opt_p {q:PV} {o:Option Int} (h:∀ v,IsV v q→OptInt o v):pvP q=optP o:=by
 obtain ⟨v,hv⟩:=pv_some q
 have:=h v hv
 cases this<;>cases hv<;>rfl
set_option tactic.hygienic true
end
end
section
section
variable {w:World} {D:Nat} {pl:PL} {K:KP}
set_option tactic.hygienic false
noncomputable def srcP:P→Option (List P)
 | .lst xs=>some xs
 | .tup xs=>some xs
 | .str s=>some (s.cps.toList.map fun c=>.str ⟨#[c]⟩)
 | .bytes b=>some (b.toList.map fun c=>.int (c.toNat:Int))
 |_=>none
theorem PCp.str {elt:X} {cvs:PVs} {z:Str} (J:Nat→List P→PL→Prop) (hz:z.cps.size≤16777216) (h0:SbI (J 0 []) pl)
  (turn:∀ i (c:Nat) ys pl,z.cps[i]? =some c→J i ys pl→PX w D elt (some (.str ⟨#[c]⟩)::cvs) pl (pEnd (J (i+1)) ys)) (done:∀ ys pl,J z.cps.size ys pl→doneF K ys pl∨doneM K ys pl):PCp w D elt cvs (.str z) pl K:=⟨fun F l x rcs hp hc hl=>by
 obtain ⟨pl₀,hs,j⟩:=h0
 obtain ⟨l₀,k1,k2⟩:=hl.cut hs
 obtain ⟨_,rfl⟩:=hp.strI
 exact CMP.str (fun i=>JQ w F (J i)) hz ⟨l₀,k1,[],pl₀,F,fun zq h=>h,.nil,k2,j⟩ (fun i v ys l _ ⟨c,tc,hi,e⟩ ⟨ys',pl,F1,u1,v1,s1,j⟩=>pelt_ok (turn i c ys' pl hi j) u1 (by rw [e];exact .str) (hc.up u1) v1 s1) (fun ys l ⟨ys',pl,F1,u1,v1,s1,j⟩=>pmade_ok (done ys' pl j) u1 v1 s1)⟩
theorem PCp.of {elt:X} {cvs:PVs} {p:P} {xs:List P} (J:Nat→List P→PL→Prop) (hs:srcP p=some xs) (hz:xs.length≤16777216) (h0:SbI (J 0 []) pl)
  (turn:∀ i p ys pl,xs[i]? =some p→J i ys pl→PX w D elt (some p::cvs) pl (pEnd (J (i+1)) ys)) (done:∀ ys pl,J xs.length ys pl→doneF K ys pl∨doneM K ys pl):PCp w D elt cvs p pl K:=by
 cases p with
 |lst=>cases hs;exact PCp.lst J hz h0 turn done
 |tup=>cases hs;exact PCp.tup J hz h0 turn done
 |str z=>
  cases hs
  rw [List.length_map,Array.length_toList] at hz done
  exact PCp.str J hz h0 (fun i c ys pl hc=>turn i _ ys pl (by rw [List.getElem?_map,Array.getElem?_toList,hc];rfl)) done
 |bytes b=>
  cases hs
  rw [List.length_map,Array.length_toList] at hz done
  exact PCp.bytes J hz h0 (fun i c ys pl hc=>turn i _ ys pl (by rw [List.getElem?_map,Array.getElem?_toList,hc];rfl)) done
 |_=>cases hs
theorem PCp.each {elt:X} {cvs:PVs} {p:P} {xs ys:List P} (hs:srcP p=some xs) (hl:ys.length=xs.length) (hz:xs.length≤16777216) (turn:∀ (i:Nat) x y,xs[i]? =some x→ys[i]? =some y→∀ K':KP,K' y pl→PX w D elt (some x::cvs) pl K') (k:doneF K ys pl∨doneM K ys pl):PCp w D elt cvs p pl K:=
 PCp.of (fun i zs pl'=>pl'=pl∧zs=ys.take i) hs hz ⟨_,.refl,rfl,rfl⟩ (fun i x zs pl' hx ⟨e1,e2⟩=>by
  rw [e1,e2]
  have hi:i<ys.length:=by rw [hl];exact (List.getElem?_eq_some_iff.mp hx).1
  have hy:=List.getElem?_eq_getElem hi
  exact turn i x _ hx hy _ ⟨_,.refl,rfl,by rw [List.take_add_one,hy];rfl⟩) fun zs pl' ⟨e1,e2⟩=>by
  rw [e1,e2,←hl,List.take_length];exact k
theorem RVs.freeze {F:Led} {xs:List P} {us:List Value} {a:Addr} {n:Nat} (hm:(a,listOf us.toArray n)∈F) (hx:RVs w F xs us):∀ {ps:List P} {vs:List Value},RVs w F ps vs→∀ {i:Nat},ps[i]? =some (.val (.ref a))→RVs w F (ps.set i (.lst xs)) vs
 |[],_,_,_,h=>by simp at h
 |p::ps,vs,k,0,h=>by
  obtain ⟨v,vs,rfl,c,b⟩:=k.cons_inv
  cases h
  rw [c.valI]
  exact .cons (.lst hx hm) b
 |p::ps,vs,k,i+1,h=>by
  obtain ⟨v,vs,rfl,c,b⟩:=k.cons_inv
  exact .cons c (RVs.freeze hm hx b (by simpa using h))
theorem PCall.freeze {f:Value} {pre post:PL} {a:Addr} {xs ps:List P} (i:Nat) (hi:ps[i]? =some (.val (.ref a))) (h:PCall w D f (ps.set i (.lst xs)) (pre++post) K):PCall w D f ps (pre++(a,.list xs)::post) K:=⟨fun F l us hps hl=>by
 obtain ⟨vs,n,h1,h2⟩:=hl.freeze
 exact (h.go _ _ _ (RVs.freeze (.head _) (h1.up fun zq h=>.tail _ h) (hps.up fun zq h=>.tail _ h) hi) h2).mono fun zq zq k=>k.up fun zq h=>.tail _ h⟩
theorem PCall.chr {n:Int} (h0:0≤n) (h1:n≤1114111) (k:K (.str ⟨#[n.toNat]⟩) pl):PCall w D (.builtin "chr") [.int n] pl K:=⟨fun F l us hps hl=>by
 obtain ⟨_,rfl,a⟩:=hps.one
 obtain ⟨t,rfl⟩:=a.intI
 exact ⟨fun C zq zq s zq S q=>chr_of_range h0 h1 (q _ l s.heap _ (liftK.mk .str hl k) ⟨S.F,S.N,S.D⟩)⟩⟩
theorem PCall.ord {c:Nat} (k:K (.int c) pl):PCall w D (.builtin "ord") [.str ⟨#[c]⟩] pl K:=⟨fun F l us hps hl=>by
 obtain ⟨_,rfl,a⟩:=hps.one
 obtain ⟨t,rfl⟩:=a.strI
 exact ⟨fun C zq zq s zq S q=>PySem.P.ord_of_char (q _ l s.heap _ (liftK.mk .int hl k) ⟨S.F,S.N,S.D⟩)⟩⟩
theorem PCall.strPlace {n:Int} (hn:n∈placeIs) (k:K (.str (placeS n)) pl):PCall w D (.type "str") [.int n] pl K:=⟨fun F l us hps hl=>by
 obtain ⟨_,rfl,a⟩:=hps.one
 obtain ⟨t,rfl⟩:=a.intI
 exact ⟨fun C zq zq s zq S q=>str_place hn fun t' k'=>q _ l s.heap _ (liftK.mk .str hl k) ⟨S.F,S.N,S.D⟩⟩⟩
theorem strs_of {F:Led}:∀ {ys:List Str} {us:List Value},RVs w F (ys.map P.str) us→StrsAre us ys
 |[],_,h=>by rw [h.nil_inv];exact .nil
 |n::ns,_,h=>by
  obtain ⟨v,vs,rfl,a,b⟩:=h.cons_inv
  obtain ⟨t,rfl⟩:=a.strI
  exact .cons _ _ (strs_of b)
theorem OP.joinS {l:Led} {sep:Str} {t:Tok} {a:Addr} {vs:List Value} {n:Nat} {ys:List Str} {K:Value→Led→Prop} (hm:(a,listOf vs.toArray n)∈l) (hv:StrsAre vs ys) (hs:sep.length≤16) (hz:(ys.map (·.length)).sum+ys.length≤1048576) (k:∀ t,K (.str (Txt.join sep ys) t) l):OP w D (call (.builtin "str.join") [.str sep t,.ref a]) l K:=
 ⟨fun C zq zq s zq S q=>join_listW (lm_list S.N (List.mem_append_left C.hid hm)) hv hs hz fun t' k'=>q _ l s.heap k' (k t') ⟨S.F,S.N,S.D⟩⟩
theorem PMe.joinS {W:PL→KPs→Prop} {b:Str} (h:W pl fun ps pl=>PCall w D (.builtin "str.join") (.str b::ps) pl K):PMe w D (.str b) (Str.ofString "join") W pl K:=
 ⟨.builtin "str.join",trivial,fun F l x hx hl=>by
   obtain ⟨_,rfl⟩:=hx.strI
   exact ⟨fun zq zq zq zq s zq S q=>PySem.GM.join (q _ l s.heap s.toks ⟨rfl,rfl⟩ S)⟩,h⟩
theorem PCall.joinS {sep:Str} {a:Addr} {ys:List Str} (hm:(a,PO.list (ys.map P.str))∈pl) (hs:sep.length≤16) (hz:(ys.map (·.length)).sum+ys.length≤1048576) (k:K (.str (Txt.join sep ys)) pl):PCall w D (.builtin "str.join") [.str sep,.val (.ref a)] pl K:=⟨fun F l us hps hl=>by
 obtain ⟨vs,n,h1,h2⟩:=hl.mem hm
 obtain ⟨v,u,rfl,e1,e2⟩:=hps.two
 obtain ⟨t,rfl⟩:=e1.strI
 rw [e2.valI]
 exact OP.joinS h1 (strs_of h2) hs hz fun t=>liftK.mk .str hl k⟩
theorem PCall.joinSL {sep:Str} {ys:List Str} (hs:sep.length≤16) (hz:(ys.map (·.length)).sum+ys.length≤1048576) (k:K (.str (Txt.join sep ys)) pl):PCall w D (.builtin "str.join") [.str sep,.lst (ys.map P.str)] pl K:=⟨fun F l us hps hl=>by
 obtain ⟨v,u,rfl,e1,e2⟩:=hps.two
 obtain ⟨t,rfl⟩:=e1.strI
 obtain ⟨a,us,n,rfl,h,m⟩:=e2.lstI
 exact OP.joinS (hl.sub _ m) (strs_of h) hs hz fun t=>liftK.mk .str hl k⟩
theorem PCall.bytesL {ns:List Int} (hr:∀ n∈ns,0≤n∧n<256) (hz:ns.length≤16777216) (k:K (.bytes (byteArr ns)) pl):PCall w D (.type "bytes") [.lst (ns.map P.int)] pl K:=⟨fun F l us hps hl=>by
 obtain ⟨v,rfl,e2⟩:=hps.one
 obtain ⟨a,us,n,rfl,h,m⟩:=e2.lstI
 have hi:=ints_of h
 exact ⟨fun C zq zq s zq S q=>bytes_K S.F S.N (lm_list S.N (List.mem_append_left C.hid (hl.sub _ m))) hi hr (by rw [sizeLine_eq,hi.length];exact hz) rfl fun h' t k' F' N' zq=>q _ l h' k' (liftK.mk .bytes hl k) ⟨F',N',S.D⟩⟩⟩
theorem pEnc {z:Str} (hA:Asc z) (hz:z.cps.size≤1000000) (k:K (.bytes (encA z)) pl):PCp w D (.call (.g (.builtin "ord")) (.cons (.v 0) .nil)) [] (.str z) pl fun u l=>PCall w D (.type "bytes") [u] l K:=by
 refine PCp.each (ys:=(codesI z).map P.int) rfl ?_ ?_ (fun i x y hx hy K' k'=>?_) (.inl ?_)
 ·rw [List.length_map,List.length_map,codesI_len,Array.length_toList]
 ·rw [List.length_map,Array.length_toList];omega
 ·obtain ⟨c,hc,rfl⟩:=map_at hx
  obtain ⟨n,hn,rfl⟩:=map_at hy
  unfold codesI at hn
  rw [List.getElem?_map,hc] at hn
  cases hn
  exact PCall.ord k'
 ·exact PCall.bytesL (fun n hn=>⟨(hA n hn).1,by have:=(hA n hn).2;omega⟩) (by rw [codesI_len];omega) k
theorem rawP_ok {F:Led}:∀ (a:Led),RL w F (rawP a) a
 |[]=>.nil
 |_::a=>.raw (rawP_ok a)
theorem rawP_inv {F:Led}:∀ {a l:Led},RL w F (rawP a) l→l=a
 |[],_,h=>by cases h;rfl
 |_::a,_,h=>by
  cases h with
  |raw h=>rw [rawP_inv h]
theorem RS.out {F:Led} {a:Led} {r:PL} {l:Led} (h:RS w F pl l) (hp:List.Perm pl (rawP a++r)):∃ m,List.Perm l (a++(m++F))∧∀ b,RS w F (rawP b++r) (b++(m++F)):=by
 obtain ⟨core,k,q⟩:=h.perm hp
 obtain ⟨m1,m2,rfl,k1,k2⟩:=k.split
 cases rawP_inv k1
 refine ⟨m2,?_,fun b=>⟨b++m2,(rawP_ok b).app k2,?_⟩⟩
 ·rw [List.append_assoc] at q;exact q
 ·rw [List.append_assoc]
theorem pNotNone {q:PV} (hb:∀ b,q≠.bool b) (k1:q= .none→K (.bool false) pl) (k2:q≠.none→K (.bool true) pl):pCmp w D .IsNot (pvP q) .none pl K:=by
 cases q with
 |none=>exact k1 rfl
 |bool b=>exact absurd rfl (hb b)
 |_=>exact k2 (fun h=>PV.noConfusion h)
set_option tactic.hygienic true
end
end
section
section
variable {w:World} {D:Nat} {pl:PL} {K:KP}
set_option tactic.hygienic false
theorem RL.fits {i:Int} (h0:0≤i) (h1:i<1000):Builtin.List.listFitsIndex i=true:=by
 unfold Builtin.List.listFitsIndex
 simp
 omega
theorem ints_in {F:Led} {us:List Value} {ns:List Int} (h:IntsAre us ns):RVs w F (ns.map P.int) us:=by
 induction h with
 |nil=>exact .nil
 |cons _ _ _ ih=>exact .cons .int ih
theorem bytes_in {F:Led} {us:List Value} {ns:List (Array UInt8)} (h:BytesAre us ns):RVs w F (ns.map P.bytes) us:=by
 induction h with
 |nil=>exact .nil
 |cons _ _ _ ih=>exact .cons .bytes ih
theorem PCall.sortedL {ns:List Int} (h64:ns.length<64) (k:∀ c ms,ms.Perm ns→ms.Pairwise (· ≤ ·)→K (.val (.ref c)) ((c,intsP ms)::pl)):PCall w D (.builtin "sorted") [.lst (ns.map P.int)] pl K:=⟨fun F l us hps hl=>by
 obtain ⟨v,rfl,e⟩:=hps.one
 obtain ⟨a,us,n,rfl,h,m⟩:=e.lstI
 exact ⟨fun C zq zq s zq S q=>kso_sorted S.F S.N (lm_list S.N (List.mem_append_left _ (hl.sub _ m))) (ints_of h) h64 fun Da vs' ns' c h' F' N' l1 iv zq pm pw zq=>q _ _ h' s.toks (liftK.mk .val (hl.list (ints_in iv)) (k Da ns' pm pw)) (S.new F' N' l1)⟩⟩
theorem PCall.copyT {b:Addr} {xs:List P} (hT:∀ F,RV w F (.tup xs) (.ref b)) (hz:xs.length≤16777216) (k:∀ c,K (.val (.ref c)) ((c,.list xs)::pl)):PCall w D (.type "list") [.val (.ref b)] pl K:=⟨fun F l us hps hl=>by
 obtain ⟨v,rfl,e⟩:=hps.one
 rw [e.valI]
 obtain ⟨us,h,r⟩:=(hT F).tupL hl.sub
 exact OP.copyT h (by rw [r.len];exact hz) fun c n zq=>liftK.mk .val (hl.list r) (k c)⟩
theorem PSl.drop {a:Addr} {xs:List P} {i:Int} (hm:(a,PO.list xs)∈pl) (hz:(xs.length:Int)≤16777216) (h0:0≤i) (h1:i≤xs.length) (k:∀ c,K (.val (.ref c)) ((c,.list (xs.drop i.toNat))::pl)):PSl w D (.val (.ref a)) (.int i) .none pl K:=⟨fun F l x y z hx hy hz' hl=>by
 rw [hx.valI,hz'.noneI]
 obtain ⟨t,rfl⟩:=hy.intI
 obtain ⟨vs,n,h3,h4⟩:=hl.mem hm
 exact SLO.drop h3 (by rw [h4.len];exact hz) h0 (by rw [h4.len];exact h1) fun c zq=>liftK.mk .val (hl.list (h4.drop _)) (k c)⟩
theorem PSl.dropL {xs:List P} {i:Int} (hz:(xs.length:Int)≤16777216) (h0:0≤i) (h1:i≤xs.length) (k:∀ c,K (.val (.ref c)) ((c,.list (xs.drop i.toNat))::pl)):PSl w D (.lst xs) (.int i) .none pl K:=⟨fun F l x y z hx hy hz' hl=>by
 rw [hz'.noneI]
 obtain ⟨t,rfl⟩:=hy.intI
 obtain ⟨a,vs,n,rfl,h4,h3⟩:=hx.lstI
 exact SLO.drop (hl.sub _ h3) (by rw [h4.len];exact hz) h0 (by rw [h4.len];exact h1) fun c zq=>liftK.mk .val (hl.list (h4.drop _)) (k c)⟩
theorem PC.neLV {a:Addr} {bs:List (Array UInt8)} (hm:(a,PO.list (bs.map P.bytes))∈pl) (k:K (.bool false) pl):PC w D .NotEq (.lst (bs.map P.bytes)) (.val (.ref a)) pl K:=⟨fun F l x y hx hy hl=>by
 rw [hy.valI]
 obtain ⟨c,us,n,rfl,h1,h2⟩:=hx.lstI
 obtain ⟨vs,m,h3,h4⟩:=hl.mem hm
 exact OP.neL (hl.sub _ h2) h3 (bytes_of h1) (bytes_of h4) (liftK.mk .bool hl k)⟩
theorem PC.eqLL {bs:List (Array UInt8)} (k:K (.bool true) pl):PC w D .Eq (.lst (bs.map P.bytes)) (.lst (bs.map P.bytes)) pl K:=⟨fun F l x y hx hy hl=>by
 obtain ⟨c,us,n,rfl,h1,h2⟩:=hx.lstI
 obtain ⟨d,vs,m,rfl,h3,h4⟩:=hy.lstI
 exact OP.eqL (hl.sub _ h2) (hl.sub _ h4) (bytes_of h1) (bytes_of h3) (liftK.mk .bool hl k)⟩
theorem PFr.freezeV {I:Fi} {tg:Tg} {b:Ss} {pre post:PL} {a:Addr} {xs:List P} {vs:PVs} {K:KPF} (i:Nat) (hi:vs[i]? =some (some (.val (.ref a)))) (h:PFr w I tg b (.lst xs) (vs.set i (some (.lst xs))) (pre++post) K):PFr w I tg b (.val (.ref a)) vs (pre++(a,.list xs)::post) K:=⟨fun F l x rvs hp hv hl=>by
 rw [hp.valI]
 obtain ⟨us,n,h1,h2⟩:=hl.freeze
 have h3:=h1.up (F':=(a,listOf us.toArray n)::F) fun zq h=>.tail _ h
 exact (h.go _ _ _ _ (.lst h3 (.head _)) (RVo.freeze (.head _) h3 (hv.up fun zq h=>.tail _ h) hi) h2).mono fun zq zq zq k=>k.up fun zq h=>.tail _ h⟩
set_option tactic.hygienic true
end
end
section
set_option tactic.hygienic false
noncomputable def dAt:List Str→List P→Str→Option P
 |k::ks,x::xs,z=>if k=z then some x else dAt ks xs z
 |_,_,_=>none
set_option tactic.hygienic true
section
variable {w:World} {D:Nat} {pl:PL} {K:KP}
set_option tactic.hygienic false
theorem dAt_some {F:Led} {z:Str}:∀ {ks:List Str} {xs:List P} {us:List Value},RVs w F xs us→∀ {p:P},dAt ks xs z=some p→∃ v,valueAt (ks.zip us) z=some v∧RV w F p v
 |[],_,_,_,_,h=>by cases h
 |_::_,[],_,_,_,h=>by cases h
 |k::ks,x::xs,_,hu,p,h=>by
  obtain ⟨v,us,rfl,a,b⟩:=hu.cons_inv
  unfold dAt at h
  by_cases e:k=z
  ·rw [if_pos e] at h
   cases h
   exact ⟨v,by unfold valueAt;rw [List.zip_cons_cons,List.find?_cons_of_pos (by exact decide_eq_true e)];rfl,a⟩
  ·rw [if_neg e] at h
   obtain ⟨v',h1,h2⟩:=dAt_some b h
   exact ⟨v',by unfold valueAt at h1 ⊢;rw [List.zip_cons_cons,List.find?_cons_of_neg (by simpa using e)];exact h1,h2⟩
theorem OP.dsub {l:Led} {d:Addr} {o:Obj} {kvs:List (Str×Value)} {z:Str} {t:Tok} {v:Value} {K:KV} (hm:(d,o)∈l) (hd:o.IsDictOf (PySem.strKind PG w) kvs) (hv:valueAt kvs z=some v) (k:K v l):OP w D (subOp (.ref d) (.str z t)) l K:=
 ⟨fun C zq zq s zq S q=>kda_item (knd:=PySem.strKind _ _) S.N (List.mem_append_left _ hm) hd (strKind_is _ _ _ _) hv (q _ l s.heap _ k ⟨S.F,S.N,S.D⟩) (by with_unfolding_all rfl) (fun zq=>rfl)⟩
theorem OP.din {l:Led} {d:Addr} {o:Obj} {kvs:List (Str×Value)} {z:Str} {t:Tok} {v:Value} {K:KV} (hm:(d,o)∈l) (hd:o.IsDictOf (PySem.strKind PG w) kvs) (lo:(d==sysModules)=false) (hv:valueAt kvs z=some v) (k:K (.bool false) l):OP w D (compareOp .NotIn (.str z t) (.ref d)) l K:=
 ⟨fun C m hD s Q S q=>by
   have hm2:=List.mem_append_left C.hid hm
   rcases C with ⟨mean,mg,mb,dp,un,gd,cn,cs,a,ccd,cl,outer,A₀,base,h₀,L,B,X,T,hk,D,hd',hu,hid⟩
   rcases S with ⟨F,N,P⟩
   dsimp only at F N P q hm2
   show wpAny _ (ktrTop dp un gd cn cs L a ccd cl outer) _ _ _ _
   exact kdg_notin (knd:=PySem.strKind _ _) N hm2 hd lo (strKind_is _ _ _ _) true (by rw [hv];rfl) (q _ _ _ _ k ⟨F,N,P⟩)⟩
theorem PSb.dct {ks:List Str} {xs:List P} {z:Str} {p:P} (h:dAt ks xs z=some p) (k:K p pl):PSb w D (.dct ks xs) (.str z) pl K:=⟨fun F l x y hx hy hl=>by
 obtain ⟨t,us,o,rfl,hu,hm,hd,_⟩:=hx.dctI
 obtain ⟨_,rfl⟩:=hy.strI
 obtain ⟨v,h1,h2⟩:=dAt_some hu h
 exact OP.dsub (hl.sub _ hm) hd h1 (liftK.mk h2 hl k)⟩
theorem PC.notinD {ks:List Str} {xs:List P} {z:Str} {p:P} (h:dAt ks xs z=some p) (k:K (.bool false) pl):PC w D .NotIn (.str z) (.dct ks xs) pl K:=⟨fun F l x y hx hy hl=>by
 obtain ⟨t,us,o,rfl,hu,hm,hd,lo⟩:=hy.dctI
 obtain ⟨_,rfl⟩:=hx.strI
 obtain ⟨v,h1,h2⟩:=dAt_some hu h
 exact OP.din (hl.sub _ hm) hd lo h1 (liftK.mk .bool hl k)⟩
set_option tactic.hygienic true
theorem PC.neSN {z:Str} (k:K (.bool true) pl):PC w D .NotEq (.str z) .none pl K:=⟨fun F l x y hx hy hl=>by
 obtain ⟨t,rfl⟩:=hx.strI
 rw [hy.noneI]
 exact ⟨fun C m hD s Q S q=>by
  rcases C with ⟨mean,mg,mb,dp,un,gd,cn,cs,a,ccd,cl,outer,A₀,base,h₀,L,B,X,T,hk,D,hd',hu,hid⟩
  rcases S with ⟨F,N,P⟩
  dsimp only at F N P q
  show wpAny _ (ktrTop dp un gd cn cs L a ccd cl outer) _ _ _ _
  k_steps
  exact q _ _ _ _ (liftK.mk .bool hl k) ⟨F,N,P⟩⟩⟩
end
set_option tactic.hygienic false
noncomputable def strO:Option Str→P
 |none=>.none
 |some z=>.str z
noncomputable abbrev trioP (r:Int×Int×Str):P:=.tup [.int r.1,.int r.2.1,.str r.2.2]
end
section
section
variable {w:World} {D:Nat} {pl:PL} {K:KP}
set_option tactic.hygienic false
theorem PMe.ofB {W:PL→KPs→Prop} {b:Array UInt8} {nm:Str} {id:String} (g:∀ {l:Led} {t:Tok} {K:Value×List Value→Led→Prop},K (.builtin id,[.bytes b t]) l→GM w D (.bytes b t) nm l K) (h:W pl fun ps pl=>PCall w D (.builtin id) (.bytes b::ps) pl K):PMe w D (.bytes b) nm W pl K:=
 ⟨.builtin id,trivial,fun F l x hx hl=>by obtain ⟨_,rfl⟩:=hx.bytesI;exact g ⟨rfl,rfl⟩,h⟩
theorem PMe.findB {W:PL→KPs→Prop} {b:Array UInt8} (h:W pl fun ps pl=>PCall w D (.builtin "bytes.find") (.bytes b::ps) pl K):PMe w D (.bytes b) (Str.ofString "find") W pl K:=.ofB GM.findB h
theorem PMe.stripB {W:PL→KPs→Prop} {b:Array UInt8} (h:W pl fun ps pl=>PCall w D (.builtin "bytes.strip") (.bytes b::ps) pl K):PMe w D (.bytes b) (Str.ofString "strip") W pl K:=.ofB GM.stripB h
theorem PMe.splitB {W:PL→KPs→Prop} {b:Array UInt8} (h:W pl fun ps pl=>PCall w D (.builtin "bytes.split") (.bytes b::ps) pl K):PMe w D (.bytes b) (Str.ofString "split") W pl K:=.ofB GM.splitB h
theorem PMe.startsB {W:PL→KPs→Prop} {b:Array UInt8} (h:W pl fun ps pl=>PCall w D (.builtin "bytes.startswith") (.bytes b::ps) pl K):PMe w D (.bytes b) (Str.ofString "startswith") W pl K:=.ofB GM.startsB h
theorem PCall.ofBB {id:String} {b n:Array UInt8} (g:∀ F l,RS w F pl l→∀ t u,OP w D (call (.builtin id) [.bytes b t,.bytes n u]) l (liftK w F K)):PCall w D (.builtin id) [.bytes b,.bytes n] pl K:=⟨fun F l us hps hl=>by
 obtain ⟨_,_,rfl,a,e⟩:=hps.two
 obtain ⟨t,rfl⟩:=a.bytesI
 obtain ⟨u,rfl⟩:=e.bytesI
 exact g F l hl t u⟩
theorem PCall.findB {b n:Array UInt8} (k:K (.int (RB.findI b n)) pl):PCall w D (.builtin "bytes.find") [.bytes b,.bytes n] pl K:=.ofBB fun F l hl t u=>⟨fun C zq zq s zq S q=>RB.call_find fun t' k'=>q _ l s.heap k' (liftK.mk .int hl k) ⟨S.F,S.N,S.D⟩⟩
theorem PCall.stripB {b n:Array UInt8} (hz:b.size≤16777216) (k:K (.bytes (RB.stripA n b)) pl):PCall w D (.builtin "bytes.strip") [.bytes b,.bytes n] pl K:=.ofBB fun F l hl t u=>⟨fun C zq zq s zq S q=>RB.my_strip hz fun t' k' zq=>q _ l s.heap k' (liftK.mk .bytes hl k) ⟨S.F,S.N,S.D⟩⟩
theorem PCall.startsB {b n:Array UInt8} {c:Bool} (hc:RB.startsB b n=c) (k:K (.bool c) pl):PCall w D (.builtin "bytes.startswith") [.bytes b,.bytes n] pl K:=.ofBB fun F l hl t u=>by
 subst hc
 exact ⟨fun C zq zq s zq S q=>RB.call_startswith (q _ l s.heap s.toks (liftK.mk .bool hl k) S)⟩
theorem PCall.splitB {b n:Array UInt8} (hne:n.isEmpty=false) (hz:b.size≤16000000) (k:∀ a,K (.val (.ref a)) ((a,.list ((RB.splitA b n).map P.bytes))::pl)):PCall w D (.builtin "bytes.split") [.bytes b,.bytes n] pl K:=.ofBB fun F l hl t u=>⟨fun C zq zq s zq S q=>RB.my_split S.F S.N hne hz fun a vs h' k' F' N' l1 bv=>q _ _ h' k' (liftK.mk .val (hl.list (bytes_in bv)) (k a)) (S.new F' N' l1)⟩
theorem SLO.bytes {l:Led} {b:Array UInt8} {t:Tok} {x y:Value} {lo hi:Option Int} {K:KV} (hl:IsPart x lo) (hu:IsPart y hi) (hz:b.size≤16777216) (k:∀ t,K (.bytes (KBy.picked b lo hi) t) l):SLO w D (.bytes b t) x y l K:=
 ⟨fun C zq zq=>⟨fun s zq S q=>RB.my_slice S.F S.N hl hu hz (fun h' t' k' F' N' zq=>q _ l h' k' (k t') ⟨F',N',S.D⟩) (by with_unfolding_all rfl) (fun zq=>rfl)⟩⟩
theorem PSl.bytesTo {b:Array UInt8} {i:Int} (hz:b.size≤16777216) (k:K (.bytes (KBy.picked b none (some i))) pl):PSl w D (.bytes b) .none (.int i) pl K:=⟨fun F l x y z hx hy hz' hl=>by
 obtain ⟨_,rfl⟩:=hx.bytesI
 obtain ⟨_,rfl⟩:=hz'.intI
 rw [hy.noneI]
 exact SLO.bytes (by constructor) (by constructor) hz fun t=>liftK.mk .bytes hl k⟩
theorem PSl.bytesFrom {b:Array UInt8} {i:Int} (hz:b.size≤16777216) (k:K (.bytes (KBy.picked b (some i) none)) pl):PSl w D (.bytes b) (.int i) .none pl K:=⟨fun F l x y z hx hy hz' hl=>by
 obtain ⟨_,rfl⟩:=hx.bytesI
 obtain ⟨_,rfl⟩:=hy.intI
 rw [hz'.noneI]
 exact SLO.bytes (by constructor) (by constructor) hz fun t=>liftK.mk .bytes hl k⟩
theorem PC.neBs {x y:Array UInt8} {c:Bool} (hc:decide (x=y)=c) (k:K (.bool (!c)) pl):PC w D .NotEq (.bytes x) (.bytes y) pl K:=⟨fun F l zq zq hx hy hl=>by
 obtain ⟨_,rfl⟩:=hx.bytesI
 obtain ⟨_,rfl⟩:=hy.bytesI
 refine ⟨fun zq zq zq=>EV.ne_bytes (liftK.mk .bool hl ?_)⟩
 have e:(x.toList != y.toList)= !c:=by
  rw [←hc]
  by_cases h:x=y
  ·rw [h,decide_eq_true rfl];simp
  ·rw [decide_eq_false h];simpa [bne_iff_ne] using fun q=>h (Array.toList_inj.mp q)
 rw [e];exact k⟩
theorem PC.eqBs {x y:Array UInt8} {c:Bool} (hc:decide (x=y)=c) (k:K (.bool c) pl):PC w D .Eq (.bytes x) (.bytes y) pl K:=⟨fun F l zq zq hx hy hl=>by
 obtain ⟨_,rfl⟩:=hx.bytesI
 obtain ⟨_,rfl⟩:=hy.bytesI
 refine ⟨fun zq zq zq=>EV.eq_bytes (liftK.mk .bool hl ?_)⟩
 have e:(x.toList==y.toList)=c:=by
  rw [←hc]
  by_cases h:x=y
  ·rw [h,decide_eq_true rfl];simp
  ·rw [decide_eq_false h];simpa [beq_eq_false_iff_ne] using fun q=>h (Array.toList_inj.mp q)
 rw [e];exact k⟩
theorem PCall.enum {xs:List P} (k:∀ e it oI,K (.enm e oI xs) ((e,.raw (enumO it))::(it,.raw oI)::pl)):PCall w D (.type "enumerate") [.lst xs] pl K:=⟨fun F l us hps hl=>by
 obtain ⟨v,rfl,e⟩:=hps.one
 obtain ⟨ax,vs,n,rfl,h,m⟩:=e.lstI
 exact ⟨fun C m' zq s zq S q=>by
  have hm:=List.mem_append_left C.hid (hl.sub _ m)
  refine call_enumerate_list (lm_list S.N hm) fun h' hE hI hsz hkp=>?_
  obtain ⟨oI,hoI,hc,hd⟩:=hI
  have hLs:C.L<s.heap.objs.size:=S.F.ns.lt
  have lt:∀ p∈l++C.hid,p.1<s.heap.objs.size:=fun p hp=>Heap.lt_size (S.N p hp).1
  refine q (.ref (s.heap.objs.size+1)) ((s.heap.objs.size+1,enumO s.heap.objs.size)::(s.heap.objs.size,oI)::l) h' s.toks (liftK.mk (.enm h m ⟨hc,hd⟩) hl.raw.raw (k _ _ _)) ⟨S.F.keeps hkp,fun p hp=>?_,?_⟩
  ·rcases List.mem_cons.mp hp with rfl|hp
   ·exact ⟨hE,Nat.ne_of_gt (Nat.lt_succ_of_lt hLs),ktu_new S.F (Nat.le_add_right _ _)⟩
   ·rcases List.mem_cons.mp hp with rfl|hp
    ·exact ⟨hoI,Nat.ne_of_gt hLs,ktu_new S.F (Nat.le_refl _)⟩
    ·exact S.N.grown hkp p hp
  ·refine List.pairwise_cons.mpr ⟨fun p hp=>?_,List.pairwise_cons.mpr ⟨fun p hp=>Nat.ne_of_gt (lt p hp),S.D⟩⟩
   rcases List.mem_cons.mp hp with rfl|hp
   ·exact Nat.succ_ne_self _
   ·exact Nat.ne_of_gt (Nat.lt_succ_of_lt (lt p hp))⟩⟩
theorem PCall.lenB {b:Array UInt8} {n:Int} (hn:(b.size:Int)=n) (hz:b.size≤16777216) (k:K (.int n) pl):PCall w D (.builtin "len") [.bytes b] pl K:=⟨fun F l us hps hl=>by
 obtain ⟨_,rfl,a⟩:=hps.one
 obtain ⟨t,rfl⟩:=a.bytesI
 subst hn
 exact ⟨fun C zq zq s zq S q=>KBw.len_K rfl (by rw [KBw.ints_length];omega) (by rw [KBw.ints_length];exact q _ l s.heap _ (liftK.mk .int hl k) ⟨S.F,S.N,S.D⟩)⟩⟩
theorem pif {α:Type} {W₁ W₂:PL→α→Prop} {K:α} {c:Prop} [Decidable c] {pl:PL} (h1:c→W₁ pl K) (h2: ¬c→W₂ pl K):pIf W₁ W₂ K (decide c) pl:=by
 by_cases h:c
 ·rw [decide_eq_true h];exact h1 h
 ·rw [decide_eq_false h];exact h2 h
theorem pand {W:PL→KPB→Prop} {K:KPB} {c:Prop} [Decidable c] {pl:PL} (h1:c→W pl K) (h2: ¬c→K false pl):pAnd W K (decide c) pl:=by
 by_cases h:c
 ·rw [decide_eq_true h];exact h1 h
 ·rw [decide_eq_false h];exact h2 h
theorem PSl.bytesFromE {b r:Array UInt8} {i:Int} (hr:KBy.picked b (some i) none=r) (hz:b.size≤16777216) (k:K (.bytes r) pl):PSl w D (.bytes b) (.int i) .none pl K:=by subst hr;exact PSl.bytesFrom hz k
set_option tactic.hygienic true
end
end
section
section
variable {w:World} {D:Nat}
set_option tactic.hygienic false
noncomputable abbrev KF10 (w:World):Frag:=hd.heap_39 w.params
theorem OP.getI {C x dx:Addr} {l:Led} {nm:Str} {es:List DictEntry} {k:Nat} {v:Value} {attr:Option Value} {K:KV} (mx:(x,instObj C dx)∈l) (md:(dx,dictOf es k)∈l) (hg:plainGet (KF10 w) C nm=true) (hh:hasDictIn (KF10 w) C=true) (ha:findIn (KF10 w) (.ref C) nm=some attr) (hn:noGet (KF10 w) attr=true) (hl:getL nm es=some (some v)) (hv:handedIn v=true) (q0:K v l):OP w D (getAttr (.ref x) nm true) l K:=
 ⟨fun C' zq zq s zq S q=>get_own S.F C'.X (InstAt.of_news S.N (List.mem_append_left _ mx) (List.mem_append_left _ md)) hg hh ha hn hl hv (q _ _ s.heap _ q0 ⟨S.F,S.N,S.D⟩)⟩
theorem GM.getI {C x dx f:Addr} {l:Led} {nm:Str} {es:List DictEntry} {k:Nat} {K:Value×List Value→Led→Prop} (mx:(x,instObj C dx)∈l) (md:(dx,dictOf es k)∈l) (hg:plainGet (KF10 w) C nm=true) (hf:findIn (KF10 w) (.ref C) nm=some (some (.ref f))) (ht:PySem.W.isFn (KF10 w) (.ref f)=true) (hl:getL nm es=some none) (q0:K (.ref f,[.ref x]) l):GM w D (.ref x) nm l K:=
 ⟨fun C' zq zq zq s zq S q=>method_inst S.F C'.X (InstAt.of_news S.N (List.mem_append_left _ mx) (List.mem_append_left _ md)) hg hf ht hl (q _ _ s.heap _ q0 S)⟩
structure SetA (w:World) (C:Addr) (nm:Str):Prop where
 s:findIn (KF10 w) (.ref C) "__setattr__"=some (some (.builtin "object.__setattr__"))
 p:plainOver (KF10 w) C=true
 t:takerIn (KF10 w) C nm=some none
 h:hasDictIn (KF10 w) C=true
theorem OP.setI {C x dx:Addr} {r:Led} {nm:Str} {es:List DictEntry} {es':Tok→List DictEntry} {k k':Nat} {v:Value} {K:Unit→Led→Prop} (ok:SetA w C nm) (hl:(getL nm es).isSome=true) (e:∀ t,(putL nm (PyData.keyHash w.params nm) (.str nm t) v es,putN nm es k)=(es' t,k')) (hz:∀ t,(es' t).length≤1000) (q0:∀ t,K () ((x,instObj C dx)::(dx,dictOf (es' t) k')::r)):OP w D (setAttr (.ref x) nm v) ((x,instObj C dx)::(dx,dictOf es k)::r) K:=
 ⟨fun C' m hD s Q S q=>by
   obtain ⟨p1,p2⟩:=List.pairwise_cons.mp S.D
   exact set_dict (C:=C) (ox:=instObj C dx) S.F C'.X S.N (InstAt.of_news S.N (.head _) (.tail _ (.head _))) rfl ok.s ok.p ok.t ok.h hl (e _) (Upd.tail (p1 _ (.head _)) (Upd.head fun p hp=>Ne.symm ((List.pairwise_cons.mp p2).1 p hp))) (hz _) fun h' F' N'=>q _ _ h' _ (q0 _) ⟨F',N',pw_put (pre:=[_]) S.D⟩⟩
theorem OP.dinR {l:Led} {d:Addr} {o:Obj} {kvs:List (Str×Value)} {z:Str} {t:Tok} {b:Bool} {K:KV} (hm:(d,o)∈l) (hd:o.IsDictOf (PySem.strKind PG w) kvs) (lo:(d==sysModules)=false) (hv:(valueAt kvs z).isSome=b) (k:K (.bool b) l):OP w D (compareOp .In (.str z t) (.ref d)) l K:=
 ⟨fun C zq zq s zq S q=>kda_in (knd:=PySem.strKind _ _) S.N (List.mem_append_left _ hm) hd lo (strKind_is _ _ _ _) b hv (q _ _ s.heap _ k ⟨S.F,S.N,S.D⟩)⟩
theorem OP.dnotinR {l:Led} {d:Addr} {o:Obj} {kvs:List (Str×Value)} {z:Str} {t:Tok} {b:Bool} {K:KV} (hm:(d,o)∈l) (hd:o.IsDictOf (PySem.strKind PG w) kvs) (lo:(d==sysModules)=false) (hv:(valueAt kvs z).isSome=b) (k:K (.bool (!b)) l):OP w D (compareOp .NotIn (.str z t) (.ref d)) l K:=
 ⟨fun C zq zq s zq S q=>kdg_notin (knd:=PySem.strKind _ _) S.N (List.mem_append_left _ hm) hd lo (strKind_is _ _ _ _) b hv (q _ _ s.heap _ k ⟨S.F,S.N,S.D⟩)⟩
theorem OP.dgetR {l:Led} {d:Addr} {o:Obj} {kvs:List (Str×Value)} {z:Str} {t:Tok} {K:KV} (hm:(d,o)∈l) (hd:o.IsDictOf (PySem.strKind PG w) kvs) (lo:(d==sysModules)=false) (k:K ((valueAt kvs z).getD .none) l):OP w D (call (.builtin "dict.get") [.ref d,.str z t]) l K:=
 ⟨fun C zq zq s zq S q=>kdg_get1 (knd:=PySem.strKind _ _) S.N (List.mem_append_left _ hm) hd lo (strKind_is _ _ _ _) _ rfl (q _ _ s.heap _ k ⟨S.F,S.N,S.D⟩)⟩
theorem GM.dgetR {l:Led} {d:Addr} {o:Obj} {kvs:List (Str×Value)} {K:Value×List Value→Led→Prop} (hm:(d,o)∈l) (hd:o.IsDictOf (PySem.strKind PG w) kvs) (k:K (.builtin "dict.get",[.ref d]) l):GM w D (.ref d) (Str.ofString "get") l K:=
 ⟨fun C zq zq zq s zq S q=>kdg_method (knd:=PySem.strKind _ _) S.N (List.mem_append_left _ hm) hd (q _ _ s.heap s.toks k S)⟩
theorem OP.dputR {pre post:Led} {d:Addr} {o:Obj} {kvs:List (Str×Value)} {z:Str} {t:Tok} {v:Value} {K:Unit→Led→Prop} (hd:o.IsDictOf (PySem.strKind PG w) kvs) (hz:kvs.length≤16777216) (k:∀ o',o'.IsDictOf (PySem.strKind PG w) (stored kvs z v)→K () (pre++(d,o')::post)):OP w D (setItem (.ref d) (.str z t) v) (pre++(d,o)::post) K:=
 ⟨fun C zq zq s zq S q=>by
   have P:=S.D
   have N:=S.N
   rw [app_mid] at P N
   obtain ⟨h1,h2⟩:=pw_mid P
   exact kda_set (knd:=PySem.strKind _ _) S.F N (updOf h2 h1) hd (strKind_is _ _ _ _) hz fun h' o' F' N' hd'=>q _ _ h' _ (k o' hd') ⟨F',by rw [app_mid];exact N',by rw [app_mid];exact pw_put P⟩⟩
variable {pl:PL} {K:KP}
theorem PAt.starts {x dx ls lv:Addr} {d:Value} {t1 t2 t3:Tok} {k:Nat} (mx:(x,PO.raw (instObj 311 dx))∈pl) (md:(dx,PO.raw (dictOf (rmD w t1 t2 t3 d ls lv) k))∈pl) (q:K (.val (.ref ls)) pl):PAt w D (.val (.ref x)) (Str.ofString "starts") pl K:=⟨fun F l v hv hl=>by
 rw [hv.valI]
 exact OP.getI (C:=311) (hl.memR mx) (hl.memR md) (by kernel_rfl) (by kernel_rfl) (attr:=none) (by kernel_rfl) rfl (by kernel_rfl) rfl (liftK.mk .val hl q)⟩
theorem PAt.values {x dx ls lv:Addr} {d:Value} {t1 t2 t3:Tok} {k:Nat} (mx:(x,PO.raw (instObj 311 dx))∈pl) (md:(dx,PO.raw (dictOf (rmD w t1 t2 t3 d ls lv) k))∈pl) (q:K (.val (.ref lv)) pl):PAt w D (.val (.ref x)) (Str.ofString "values") pl K:=⟨fun F l v hv hl=>by
 rw [hv.valI]
 exact OP.getI (C:=311) (hl.memR mx) (hl.memR md) (by kernel_rfl) (by kernel_rfl) (attr:=none) (by kernel_rfl) rfl (by kernel_rfl) rfl (liftK.mk .val hl q)⟩
theorem PAt.maps {x dx dd dm dp dw:Addr} {t1 t2 t3 t4:Tok} {k:Nat} (mx:(x,PO.raw (instObj 367 dx))∈pl) (md:(dx,PO.raw (dictOf (daD w t1 t2 t3 t4 dd dm dp dw) k))∈pl) (q:K (.val (.ref dm)) pl):PAt w D (.val (.ref x)) (Str.ofString "maps") pl K:=⟨fun F l v hv hl=>by
 rw [hv.valI]
 exact OP.getI (C:=367) (hl.memR mx) (hl.memR md) (by kernel_rfl) (by kernel_rfl) (attr:=none) (by kernel_rfl) rfl (by kernel_rfl) rfl (liftK.mk .val hl q)⟩
theorem PAt.defaults {x dx dd dm dp dw:Addr} {t1 t2 t3 t4:Tok} {k:Nat} (mx:(x,PO.raw (instObj 367 dx))∈pl) (md:(dx,PO.raw (dictOf (daD w t1 t2 t3 t4 dd dm dp dw) k))∈pl) (q:K (.val (.ref dd)) pl):PAt w D (.val (.ref x)) (Str.ofString "defaults") pl K:=⟨fun F l v hv hl=>by
 rw [hv.valI]
 exact OP.getI (C:=367) (hl.memR mx) (hl.memR md) (by kernel_rfl) (by kernel_rfl) (attr:=none) (by kernel_rfl) rfl (by kernel_rfl) rfl (liftK.mk .val hl q)⟩
theorem RS.two {F:Led} {a b:Addr} {o p:Obj} {r:PL} {l:Led} (h:RS w F pl l) (hp:List.Perm pl ((a,.raw o)::(b,.raw p)::r)):∃ m,List.Perm l ((a,o)::(b,p)::(m++F))∧∀ o' p',RS w F ((a,.raw o')::(b,.raw p')::r) ((a,o')::(b,p')::(m++F)):=by
 obtain ⟨m,h1,h2⟩:=h.out (a:=[(a,o),(b,p)]) hp
 exact ⟨m,h1,fun o' p'=>h2 [(a,o'),(b,p')]⟩
theorem PSt.starts {x dx ls lv z:Addr} {d:Value} {t1 t2 t3:Tok} {k:Nat} {r:PL} {K:PL→Prop} (hp:List.Perm pl ((x,.raw (instObj 311 dx))::(dx,.raw (dictOf (rmD w t1 t2 t3 d ls lv) k))::r)) (q:K ((x,.raw (instObj 311 dx))::(dx,.raw (dictOf (rmD w t1 t2 t3 d z lv) k))::r)):PSt w D (.val (.ref x)) (Str.ofString "starts") (.val (.ref z)) pl K:=⟨fun F l u v hu hv hl=>by
 rw [hu.valI,hv.valI]
 obtain ⟨m,p1,p2⟩:=hl.two hp
 exact OP.perm p1 (OP.setI (es':=fun zq=>rmD w t1 t2 t3 d z lv) (k':=k) ⟨by kernel_rfl,by kernel_rfl,by kernel_rfl,by kernel_rfl⟩ (by kernel_rfl) (fun zq=>rfl) (fun zq=>Nat.le_of_ble_eq_true rfl) fun zq=>⟨_,F,p2 _ _,fun zq h=>h,q⟩)⟩
theorem PSt.values {x dx ls lv z:Addr} {d:Value} {t1 t2 t3:Tok} {k:Nat} {r:PL} {K:PL→Prop} (hp:List.Perm pl ((x,.raw (instObj 311 dx))::(dx,.raw (dictOf (rmD w t1 t2 t3 d ls lv) k))::r)) (q:K ((x,.raw (instObj 311 dx))::(dx,.raw (dictOf (rmD w t1 t2 t3 d ls z) k))::r)):PSt w D (.val (.ref x)) (Str.ofString "values") (.val (.ref z)) pl K:=⟨fun F l u v hu hv hl=>by
 rw [hu.valI,hv.valI]
 obtain ⟨m,p1,p2⟩:=hl.two hp
 exact OP.perm p1 (OP.setI (es':=fun zq=>rmD w t1 t2 t3 d ls z) (k':=k) ⟨by kernel_rfl,by kernel_rfl,by kernel_rfl,by kernel_rfl⟩ (by kernel_rfl) (fun zq=>rfl) (fun zq=>Nat.le_of_ble_eq_true rfl) fun zq=>⟨_,F,p2 _ _,fun zq h=>h,q⟩)⟩
theorem PMe.rmGet {W:PL→KPs→Prop} {x dx ls lv:Addr} {d:Value} {t1 t2 t3:Tok} {k:Nat} (mx:(x,PO.raw (instObj 311 dx))∈pl) (md:(dx,PO.raw (dictOf (rmD w t1 t2 t3 d ls lv) k))∈pl) (h:W pl fun ps pl=>PCall w D (.ref 289) (.val (.ref x)::ps) pl K):PMe w D (.val (.ref x)) (Str.ofString "get") W pl K:=
 ⟨.ref 289,rfl,fun F l v hv hl=>by rw [hv.valI];exact GM.getI (C:=311) (hl.memR mx) (hl.memR md) (by kernel_rfl) (by kernel_rfl) (by kernel_rfl) (by kernel_rfl) ⟨rfl,rfl⟩,h⟩
theorem PMe.rmPut {W:PL→KPs→Prop} {x dx ls lv:Addr} {d:Value} {t1 t2 t3:Tok} {k:Nat} (mx:(x,PO.raw (instObj 311 dx))∈pl) (md:(dx,PO.raw (dictOf (rmD w t1 t2 t3 d ls lv) k))∈pl) (h:W pl fun ps pl=>PCall w D (.ref 296) (.val (.ref x)::ps) pl K):PMe w D (.val (.ref x)) (Str.ofString "put") W pl K:=
 ⟨.ref 296,rfl,fun F l v hv hl=>by rw [hv.valI];exact GM.getI (C:=311) (hl.memR mx) (hl.memR md) (by kernel_rfl) (by kernel_rfl) (by kernel_rfl) (by kernel_rfl) ⟨rfl,rfl⟩,h⟩
theorem PMe.daMap {W:PL→KPs→Prop} {x dx dd dm dp dw:Addr} {t1 t2 t3 t4:Tok} {k:Nat} (mx:(x,PO.raw (instObj 367 dx))∈pl) (md:(dx,PO.raw (dictOf (daD w t1 t2 t3 t4 dd dm dp dw) k))∈pl) (h:W pl fun ps pl=>PCall w D (.ref 364) (.val (.ref x)::ps) pl K):PMe w D (.val (.ref x)) (Str.ofString "map_of") W pl K:=
 ⟨.ref 364,rfl,fun F l v hv hl=>by rw [hv.valI];exact GM.getI (C:=367) (hl.memR mx) (hl.memR md) (by kernel_rfl) (by kernel_rfl) (by kernel_rfl) (by kernel_rfl) ⟨rfl,rfl⟩,h⟩
theorem PC.inR {d:Addr} {o:Obj} {kvs:List (Str×Value)} {z:Str} {b:Bool} (hm:(d,PO.raw o)∈pl) (hd:o.IsDictOf (PySem.strKind PG w) kvs) (lo:(d==sysModules)=false) (hv:(valueAt kvs z).isSome=b) (k:K (.bool b) pl):PC w D .In (.str z) (.val (.ref d)) pl K:=⟨fun F l x y hx hy hl=>by
 obtain ⟨_,rfl⟩:=hx.strI
 rw [hy.valI]
 exact OP.dinR (hl.memR hm) hd lo hv (liftK.mk .bool hl k)⟩
theorem PC.notinR {d:Addr} {o:Obj} {kvs:List (Str×Value)} {z:Str} {b:Bool} (hm:(d,PO.raw o)∈pl) (hd:o.IsDictOf (PySem.strKind PG w) kvs) (lo:(d==sysModules)=false) (hv:(valueAt kvs z).isSome=b) (k:K (.bool (!b)) pl):PC w D .NotIn (.str z) (.val (.ref d)) pl K:=⟨fun F l x y hx hy hl=>by
 obtain ⟨_,rfl⟩:=hx.strI
 rw [hy.valI]
 exact OP.dnotinR (hl.memR hm) hd lo hv (liftK.mk .bool hl k)⟩
theorem PSb.dctR {d:Addr} {o:Obj} {kvs:List (Str×Value)} {z:Str} {v:Value} (hm:(d,PO.raw o)∈pl) (hd:o.IsDictOf (PySem.strKind PG w) kvs) (hv:valueAt kvs z=some v) (k:K (.val v) pl):PSb w D (.val (.ref d)) (.str z) pl K:=⟨fun F l x y hx hy hl=>by
 obtain ⟨_,rfl⟩:=hy.strI
 rw [hx.valI]
 exact OP.dsub (hl.memR hm) hd hv (liftK.mk .val hl k)⟩
theorem PMe.dictGet {W:PL→KPs→Prop} {d:Addr} {o:Obj} {kvs:List (Str×Value)} (hm:(d,PO.raw o)∈pl) (hd:o.IsDictOf (PySem.strKind PG w) kvs) (h:W pl fun ps pl=>PCall w D (.builtin "dict.get") (.val (.ref d)::ps) pl K):PMe w D (.val (.ref d)) (Str.ofString "get") W pl K:=
 ⟨.builtin "dict.get",trivial,fun F l v hv hl=>by rw [hv.valI];exact GM.dgetR (hl.memR hm) hd ⟨rfl,rfl⟩,h⟩
theorem PCall.dictGet {d:Addr} {o:Obj} {kvs:List (Str×Value)} {z:Str} (hm:(d,PO.raw o)∈pl) (hd:o.IsDictOf (PySem.strKind PG w) kvs) (lo:(d==sysModules)=false) {p:P} (hp:∀ F,RV w F p ((valueAt kvs z).getD .none)) (k:K p pl):PCall w D (.builtin "dict.get") [.val (.ref d),.str z] pl K:=⟨fun F l us hps hl=>by
 obtain ⟨_,_,rfl,e1,e2⟩:=hps.two
 obtain ⟨_,rfl⟩:=e2.strI
 rw [e1.valI]
 exact OP.dgetR (hl.memR hm) hd lo (liftK.mk (hp F) hl k)⟩
theorem PPut.dictR {d:Addr} {o:Obj} {kvs:List (Str×Value)} {z:Str} {p:P} {r:PL} {K:PL→Prop} (hp:List.Perm pl ((d,.raw o)::r)) (hd:o.IsDictOf (PySem.strKind PG w) kvs) (hz:kvs.length≤16777216) (k:∀ F v o',RV w F p v→o'.IsDictOf (PySem.strKind PG w) (stored kvs z v)→K ((d,.raw o')::r)):PPut w D (.val (.ref d)) (.str z) p pl K:=⟨fun F l x y v hx hy hv hl=>by
 obtain ⟨_,rfl⟩:=hy.strI
 rw [hx.valI]
 obtain ⟨m,p1,p2⟩:=hl.out (a:=[(d,o)]) hp
 exact OP.perm p1 (OP.dputR (pre:=[]) hd hz fun o' hd'=>⟨_,F,p2 [(d,o')],fun zq h=>h,k F v o' hv hd'⟩)⟩
set_option tactic.hygienic true
end
end
section
set_option tactic.hygienic false
noncomputable def ns_90:List Str:=[Str.ofString "code",Str.ofString "found",Str.ofString "rest"]
noncomputable def k_90:Ss:=(.cons (.asg 1 (.lst .nil)) (.cons (.asg 2 (.v 0)) (.cons (.whl (.bool .Or (.cons (.cmp .Gt (.v 2) (.k (.int 0))) (.cons (.cmp .Lt (.call (.g (.builtin "len")) (.cons (.v 1) .nil)) (.g (.int 4 200))) .nil))) (.cons (.ex (.meth (.v 1) (Str.ofString "append") (.cons (.sub (.g (.bytes #[48,49,50,51,52,53,54,55,56,57,65,66,67,68,69,70] 198)) (.bin .BitAnd (.v 2) (.k (.int 15)))) .nil))) (.cons (.asg 2 (.bin .RShift (.v 2) (.k (.int 4)))) .nil))) (.cons (.ret (.call (.g (.type "bytes")) (.cons (.stp (.v 1) (.un .USub (.k (.int 1)))) .nil))) .nil))))
set_option tactic.hygienic true
section
variable {w:World} {D:Nat} {pl:PL} {K:KP}
set_option tactic.hygienic false
theorem PB.ofI {op:Operator} {a b c:Int} (g:∀ {l:Led} {ta tb:Tok} {K':KV},(∀ t,K' (.int c t) l)→OP w D (binaryOp op (.int a ta) (.int b tb)) l K') (k:K (.int c) pl):PB w D op (.int a) (.int b) pl K:=⟨fun F l x y hx hy hl=>by
 obtain ⟨_,rfl⟩:=hx.intI
 obtain ⟨_,rfl⟩:=hy.intI
 exact g fun t=>liftK.mk .int hl k⟩
set_option tactic.hygienic true
theorem PB.floordiv {a b:Int} (hb:0<b) (hb2:b≤16) (h0:0≤a) (h1:a<68719476736) (k:K (.int (a / b)) pl):PB w D .FloorDiv (.int a) (.int b) pl K:=.ofI (fun {l ta tb K'} k'=>by
 rw [←Int.fdiv_eq_ediv_of_nonneg a (Int.le_of_lt hb)] at k'
 refine ⟨fun C m hD s Q St q=>?_⟩
 rcases C with ⟨mean,mg,mb,dp,un,gd,cn,cs,a,ccd,cl,outer,A₀,base,h₀,L,B,X,T,hk,D,hd,hu,hid⟩
 rcases St with ⟨F,N,P⟩
 dsimp only at F N P q
 have hb0:b≠0:=Int.ne_of_gt hb
 show wpAny _ (ktrTop dp un gd cn cs L a ccd cl outer) _ _ _ _
 k_steps
 rename Fr _ _ _ _=>F9
 rename News _ _ _ _=>N9
 exact q _ _ _ _ (k' _) ⟨F9,N9,P⟩) k
theorem PB.mod {a b:Int} (hb:0<b) (k:K (.int (a % b)) pl):PB w D .Mod (.int a) (.int b) pl K:=.ofI (fun {l ta tb K'} k'=>by
 rw [←Int.fmod_eq_emod_of_nonneg a (Int.le_of_lt hb)] at k'
 refine ⟨fun C m hD s Q St q=>?_⟩
 rcases C with ⟨mean,mg,mb,dp,un,gd,cn,cs,a,ccd,cl,outer,A₀,base,h₀,L,B,X,T,hk,D,hd,hu,hid⟩
 rcases St with ⟨F,N,P⟩
 dsimp only at F N P q
 have hb0:b≠0:=Int.ne_of_gt hb
 show wpAny _ (ktrTop dp un gd cn cs L a ccd cl outer) _ _ _ _
 k_steps
 rename Fr _ _ _ _=>F9
 rename News _ _ _ _=>N9
 exact q _ _ _ _ (k' _) ⟨F9,N9,P⟩) k
theorem PB.and15 {a:Int} (k:K (.int (a % 16)) pl):PB w D .BitAnd (.int a) (.int 15) pl K:=.ofI (fun {l ta tb K'} k'=>by
 rw [←bitAnd_m4] at k'
 refine ⟨fun C m hD s Q St q=>?_⟩
 rcases C with ⟨mean,mg,mb,dp,un,gd,cn,cs,a,ccd,cl,outer,A₀,base,h₀,L,B,X,T,hk,D,hd,hu,hid⟩
 rcases St with ⟨F,N,P⟩
 dsimp only at F N P q
 show wpAny _ (ktrTop dp un gd cn cs L a ccd cl outer) _ _ _ _
 k_steps
 rename Fr _ _ _ _=>F9
 rename News _ _ _ _=>N9
 exact q _ _ _ _ (k' _) ⟨F9,N9,P⟩) k
theorem PB.shr4 {a:Int} (h0:0≤a) (h1:a<68719476736) (k:K (.int (a / 16)) pl):PB w D .RShift (.int a) (.int 4) pl K:=.ofI (fun {l ta tb K'} k'=>by
 rw [←fdiv16] at k'
 refine ⟨fun C m hD s Q St q=>?_⟩
 rcases C with ⟨mean,mg,mb,dp,un,gd,cn,cs,a,ccd,cl,outer,A₀,base,h₀,L,B,X,T,hk,D,hd,hu,hid⟩
 rcases St with ⟨F,N,P⟩
 dsimp only at F N P q
 show wpAny _ (ktrTop dp un gd cn cs L a ccd cl outer) _ _ _ _
 k_steps
 rename Fr _ _ _ _=>F9
 rename News _ _ _ _=>N9
 exact q _ _ _ _ (k' _) ⟨F9,N9,P⟩) k
set_option tactic.hygienic false
theorem PSb.bytesAt {x:List UInt8} {i n:Int} (hz:x.length≤1099511627776) (h0:0≤i) (h1:i<x.length) (e:(((x.getD i.toNat 0).toNat:Nat):Int)=n) (k:K (.int n) pl):PSb w D (.bytes x.toArray) (.int i) pl K:=⟨fun F l y z hy hz' hl=>by
 obtain ⟨_,rfl⟩:=hy.bytesI
 obtain ⟨_,rfl⟩:=hz'.intI
 exact ⟨fun C zq zq s zq S q=>bytes_item_K hz h0 h1 e (q _ l s.heap _ (liftK.mk .int hl k) ⟨S.F,S.N,S.D⟩) (by with_unfolding_all rfl) (fun zq=>rfl)⟩⟩
theorem PRv.list {a:Addr} {xs:List P} (hm:(a,PO.list xs)∈pl) (hz:xs.length≤16777216) (k:∀ c,K (.val (.ref c)) ((c,.list xs.reverse)::pl)):PRv w D (.val (.ref a)) (.int (-1)) pl K:=⟨fun F l x z hx hz' hl=>by
 rw [hx.valI]
 obtain ⟨t,rfl⟩:=hz'.intI
 obtain ⟨vs,n,h1,h2⟩:=hl.mem hm
 exact ⟨fun C zq zq=>⟨fun s zq S q=>krv_lit S.F S.N (lm_list S.N (List.mem_append_left _ h1)) (.int _ _) rfl (fun c h' F' N' lt=>q _ _ h' s.toks (liftK.mk .val (hl.list h2.rev) (k c)) (S.new F' N' lt)) (by with_unfolding_all rfl) (fun zq=>rfl) (by rw [sizeLine_eq,List.size_toArray,h2.len];exact hz)⟩⟩⟩
theorem PCall.bytesV {a:Addr} {ns:List Int} (hm:(a,intsP ns)∈pl) (hr:∀ n∈ns,0≤n∧n<256) (hz:ns.length≤16777216) (k:K (.bytes (byteArr ns)) pl):PCall w D (.type "bytes") [.val (.ref a)] pl K:=⟨fun F l us hps hl=>by
 obtain ⟨v,rfl,e2⟩:=hps.one
 rw [e2.valI]
 obtain ⟨vs,n,h1,h2⟩:=hl.mem hm
 have hi:=ints_of h2
 exact ⟨fun C zq zq s zq S q=>bytes_K S.F S.N (lm_list S.N (List.mem_append_left C.hid h1)) hi hr (by rw [sizeLine_eq,hi.length];exact hz) rfl fun h' t k' F' N' zq=>q _ l h' k' (liftK.mk .bytes hl k) ⟨F',N',S.D⟩⟩⟩
set_option tactic.hygienic true
end
section
variable {w:World} {D:Nat} {pl:PL} {K:KP}
set_option tactic.hygienic false
theorem PCall.pn {f:Addr} {ps:List P} {p:P} {D':Nat} (c:PN w f ps D' [] fun q pl=>q=p∧pl=[]) (hD:D'≤D) (k:K p pl):PCall w D (.ref f) ps pl K:=
 PN.call c hD (.refl _) fun q pl' h=>by
  rw [h.1,h.2]
  exact k
set_option tactic.hygienic true
end
set_option tactic.hygienic false
theorem por {W:PL→KPB→Prop} {K:KPB} {c:Prop} [Decidable c] {pl:PL} (h1:c→K true pl) (h2: ¬c→W pl K):pOr W K (decide c) pl:=by
 by_cases h:c
 ·rw [decide_eq_true h];exact h1 h
 ·rw [decide_eq_false h];exact h2 h
theorem pifB {α:Type} {W₁ W₂:PL→α→Prop} {K:α} {b:Bool} {pl:PL} (h1:b=true→W₁ pl K) (h2:b=false→W₂ pl K):pIf W₁ W₂ K b pl:=by
 cases b with
 |true=>exact h1 rfl
 |false=>exact h2 rfl
theorem pwhl {W E:PL→Prop} {c:Prop} [Decidable c] {pl:PL} (h1:c→W pl) (h2: ¬c→E pl):pWhl W E (decide c) pl:=by
 by_cases h:c
 ·rw [decide_eq_true h];exact h1 h
 ·rw [decide_eq_false h];exact h2 h
structure HexJ (n:Int) (f:Nat) (ds:List Int) (r:Int):Prop where
 e:ds++dg f r ds.length=dg 8 n 0
 h0:0≤r
 h1:r<16 ^ f
 l:ds.length+f=8
 d:∀ x∈ds,0≤x∧x<256
theorem HexJ.start {n:Int} (h0:0≤n) (h1:n<2097152):HexJ n 8 [] n:=⟨rfl,h0,Int.lt_trans h1 (by decide),rfl,fun zq h=>absurd h List.not_mem_nil⟩
theorem HexJ.turn {n r:Int} {f:Nat} {ds:List Int} (j:HexJ n f ds r) (h:0<r∨ds.length<4):∃ f',f'<f∧HexJ n f' (ds++[hdig (r % 16)]) (r / 16):=by
 obtain ⟨e,h0,h1,l,d⟩:=j
 cases f with
 |zero=>
  rcases h with h|h
  ·exact absurd h1 (Int.not_lt.mpr h)
  ·omega
 |succ f=>
  refine ⟨f,Nat.lt_succ_self _,?_,Int.ediv_nonneg h0 (by decide),Int.ediv_lt_of_lt_mul (by decide) (by rw [←Int.pow_succ];exact h1),?_,fun x hx=>?_⟩
  ·rw [←e,List.length_append,List.append_assoc]
   show _=ds++(if 0<r∨ds.length<4 then hdig (r % 16)::dg f (r / 16) (ds.length+1) else [])
   rw [if_pos h]
   rfl
  ·rw [List.length_append,List.length_singleton];omega
  ·rcases List.mem_append.mp hx with hx|hx
   ·exact d x hx
   ·rw [List.mem_singleton.mp hx]
    have:=hdig_in r
    omega
theorem HexJ.fin {n r:Int} {f:Nat} {ds:List Int} (j:HexJ n f ds r) (h: ¬0<r) (h': ¬ds.length<4):ds=dg 8 n 0:=by
 have e:=j.e
 cases f with
 |zero=>exact (List.append_nil ds).symm.trans e
 |succ f=>
  have z:dg (f+1) r ds.length=[]:=if_neg fun q=>q.elim h h'
  rw [z,List.append_nil] at e
  exact e
theorem hex_at:∀ i:Fin 16,(((([48,49,50,51,52,53,54,55,56,57,65,66,67,68,69,70]:List UInt8).getD i.val 0).toNat:Nat):Int)=hdig (i.val:Int):=by decide
theorem mod16 (r:Int):∃ i:Fin 16,r % 16=(i.val:Int):=by
 have l0:=Int.emod_nonneg r (by decide:(16:Int)≠0)
 have l1:=Int.emod_lt_of_pos r (by decide:(0:Int)<16)
 exact ⟨⟨(r % 16).toNat,by omega⟩,(Int.toNat_of_nonneg l0).symm⟩
inductive J90 (n:Int) (a:Addr) (f:Nat) (vs:PVs) (pl:PL):Prop
 |mk (ds:List Int) (r:Int) (hv:vs=[some (.int n),some (.val (.ref a)),some (.int r)]) (hl:pl=[(a,intsP ds)]) (j:HexJ n f ds r)
theorem n_hex (w:World) {n:Int} (h0:0≤n) (h1:n<2097152):PN w 90 [.int n] 10 [] fun p pl=>p= .bytes (hexB n)∧pl=[]:=by
 refine PN.of (D:=9) ns_90 [] k_90 [some 0,none,none] [] [] [some (.int n),none,none] ⟨by kernel_rfl,by kernel_rfl⟩ (fun zq=>BndR.eq (by kernel_rfl) (by kernel_rfl)) (fun zq=>.nil) rfl fun I hI=>?_
 refine fun a=>PWh.inv (J90 n a) ⟨8,.mk [] n rfl rfl (.start h0 h1)⟩ ?_
 rintro f vs pl ⟨ds,r,rfl,rfl,j⟩
 have lz:ds.length≤8:=by have:=j.l;omega
 have up:(ds.map P.int).length≤16777216:=by rw [List.length_map];exact Nat.le_trans lz (by decide)
 have turn:(0<r∨ds.length<4)→PSs w I (.cons (.ex (.meth (.v 1) (Str.ofString "append") (.cons (.sub (.g (.bytes #[48,49,50,51,52,53,54,55,56,57,65,66,67,68,69,70] 198)) (.bin .BitAnd (.v 2) (.k (.int 15)))) .nil))) (.cons (.asg 2 (.bin .RShift (.v 2) (.k (.int 4)))) .nil)) [some (.int n),some (.val (.ref a)),some (.int r)] [(a,intsP ds)] (pTurnW w fun vs pl=>∃ m,m<f∧J90 n a m vs pl):=fun h=>by
  obtain ⟨f',hf,j'⟩:=j.turn h
  obtain ⟨i,hi⟩:=mod16 r
  have l0:=Int.emod_nonneg r (by decide:(16:Int)≠0)
  have l1:=Int.emod_lt_of_pos r (by decide:(0:Int)<16)
  have rb:r<68719476736:=Int.lt_trans j.h1 (Int.pow_lt_pow_of_lt (c:=9) (by decide) (by have:=j.l;omega))
  refine PMe.append (.head _) (PB.and15 (PSb.bytesAt (x:=[48,49,50,51,52,53,54,55,56,57,65,66,67,68,69,70]) (n:=hdig (r % 16)) (by decide) l0 l1 ?_ (PCall.append (pre:=[]) up (PB.shr4 j.h0 rb ⟨_,_,.refl,f',hf,.mk _ _ rfl (by unfold intsP;rw [List.map_append];rfl) j'⟩))))
  rw [hi]
  exact hex_at i
 refine por (fun h=>turn (.inl h)) fun h=>?_
 refine PCall.len (.head _) up ?_
 rw [List.length_map]
 refine pwhl (fun h'=>turn (.inr (by omega))) fun h'=>?_
 have e:=j.fin h (by omega)
 refine PRv.list (.head _) up fun c=>?_
 rw [←List.map_reverse]
 refine PCall.bytesV (.head _) (fun x hx=>j.d x (List.mem_reverse.mp hx)) (by rw [List.length_reverse];exact Nat.le_trans lz (by decide)) ⟨_,.nil,?_,rfl⟩
 rw [e];rfl
end
section
set_option tactic.hygienic false
noncomputable def ns_125:List Str:=[Str.ofString "octets",Str.ofString "bare"]
noncomputable def k_125:Ss:=(.cons (.asg 1 (.ife (.meth (.v 0) (Str.ofString "startswith") (.cons (.g (.bytes #[239,187,191] 336)) .nil)) (.slc (.v 0) (.call (.g (.builtin "len")) (.cons (.g (.bytes #[239,187,191] 336)) .nil)) (.k .none)) (.v 0))) (.cons (.ret (.meth (.v 1) (Str.ofString "split") (.cons (.k (.bytes [10])) .nil))) .nil))
theorem n_lines (w:World) {b:Array UInt8} (hs:RB.startsB b #[239,187,191]=false) (hz:b.size≤100000):PN w 125 [.bytes b] 10 [] fun p pl=>∃ c,p= .val (.ref c)∧pl=[(c,.list ((linesA b).map P.bytes))]:=by
 refine PN.of (D:=9) ns_125 [] k_125 [some 0,none] [] [] [some (.bytes b),none] ⟨by kernel_rfl,by kernel_rfl⟩ (fun zq=>BndR.eq (by kernel_rfl) (by kernel_rfl)) (fun zq=>.nil) rfl fun I hI=>?_
 exact PMe.startsB (PCall.startsB hs (PMe.splitB (PCall.splitB rfl (by omega) fun c=>⟨_,.refl,c,rfl,rfl⟩)))
theorem PCall.lines {w:World} {D:Nat} {pl:PL} {K:KP} {b:Array UInt8} (hD:10≤D) (hs:RB.startsB b #[239,187,191]=false) (hz:b.size≤100000) (k:∀ a,K (.val (.ref a)) ((a,.list ((linesA b).map P.bytes))::pl)):PCall w D (.ref 125) [.bytes b] pl K:=
 PN.call (n_lines w hs hz) hD (.refl _) fun p pl' ⟨c,h1,h2⟩=>by
  rw [h1,h2];exact k c
end
section
set_option tactic.hygienic false
noncomputable def ns_97:List Str:=[Str.ofString "octet"]
noncomputable def k_97:Ss:=(.cons (.ife (.cmp2 .LtE .LtE (.k (.int 48)) (.v 0) (.k (.int 57))) (.cons (.ret (.bin .Sub (.v 0) (.k (.int 48)))) .nil) .nil) (.cons (.ife (.cmp2 .LtE .LtE (.k (.int 65)) (.v 0) (.k (.int 70))) (.cons (.ret (.bin .Sub (.v 0) (.k (.int 55)))) .nil) .nil) (.cons (.ife (.cmp2 .LtE .LtE (.k (.int 97)) (.v 0) (.k (.int 102))) (.cons (.ret (.bin .Sub (.v 0) (.k (.int 87)))) .nil) .nil) (.cons (.ret (.k .none)) .nil))))
noncomputable def ns_71:List Str:=[Str.ofString "signs"]
noncomputable def k_71:Ss:=(.cons (.ret (.comp (.call (.g (.builtin "ord")) (.cons (.v 0) .nil)) (.v 0) [])) .nil)
noncomputable def ns_78:List Str:=[Str.ofString "signs",Str.ofString "numbers",Str.ofString "number"]
noncomputable def k_78:Ss:=(.cons (.asg 1 (.call (.g (.ref 71)) (.cons (.v 0) .nil))) (.cons (.for_ (.n 2) (.v 1) (.cons (.ife (.cmp .Gt (.v 2) (.k (.int 127))) (.cons .bad .nil) .nil) .nil)) (.cons (.ret (.call (.g (.type "bytes")) (.cons (.v 1) .nil))) .nil)))
noncomputable def ns_83:List Str:=[Str.ofString "octets",Str.ofString "octet"]
noncomputable def k_83:Ss:=(.cons (.for_ (.n 1) (.v 0) (.cons (.ife (.cmp .Gt (.v 1) (.k (.int 127))) (.cons .bad .nil) .nil) .nil)) (.cons (.ret (.meth (.k (.str (Str.ofString ""))) (Str.ofString "join") (.cons (.comp (.call (.g (.builtin "chr")) (.cons (.v 0) .nil)) (.v 0) []) .nil))) .nil))
noncomputable def ns_104:List Str:=[Str.ofString "octets",Str.ofString "number",Str.ofString "octet",Str.ofString "digit"]
noncomputable def k_104:Ss:=(.cons (.ife (.un .Not (.cmp2 .LtE .LtE (.k (.int 1)) (.call (.g (.builtin "len")) (.cons (.v 0) .nil)) (.g (.int 6 202)))) (.cons .bad .nil) .nil) (.cons (.asg 1 (.k (.int 0))) (.cons (.for_ (.n 2) (.v 0) (.cons (.asg 3 (.call (.g (.ref 97)) (.cons (.v 2) .nil))) (.cons (.ife (.cmp .Is (.v 3) (.k .none)) (.cons .bad .nil) .nil) (.cons (.asg 1 (.bin .Add (.bin .Mult (.k (.int 16)) (.v 1)) (.v 3))) .nil)))) (.cons (.ife (.cmp .Gt (.v 1) (.g (.int 1114111 196))) (.cons .bad .nil) .nil) (.cons (.ret (.v 1)) .nil)))))
noncomputable def ns_142:List Str:=[Str.ofString "number",Str.ofString "field"]
noncomputable def k_142:Ss:=(.cons (.ife (.cmp .Lt (.call (.g (.builtin "len")) (.cons (.v 1) .nil)) (.k (.int 4))) (.cons .bad .nil) .nil) (.cons (.try_ (.cons (.ret (.call (.g (.ref 104)) (.cons (.v 1) .nil))) .nil)) .nil))
noncomputable def ns_157:List Str:=[Str.ofString "number",Str.ofString "field"]
noncomputable def k_157:Ss:=(.cons (.try_ (.cons (.ret (.call (.g (.ref 83)) (.cons (.v 1) .nil))) .nil)) .nil)
theorem pand2 {A:PL→KPB→Prop} {K:KPB} {c d:Prop} [Decidable c] [Decidable d] {pl:PL} (e:A pl=fun K=>K (decide d) pl) (h1:c∧d→K true pl) (h2: ¬(c∧d)→K false pl):pAnd A K (decide c) pl:=by
 by_cases h:c
 ·rw [decide_eq_true h]
  show A pl K
  rw [e]
  by_cases h':d
  ·rw [decide_eq_true h'];exact h1 ⟨h,h'⟩
  ·rw [decide_eq_false h'];exact h2 fun g=>h' g.2
 ·rw [decide_eq_false h];exact h2 fun g=>h g.1
theorem pcmp2 {w:World} {D:Nat} {a b:Int} {pl:PL} {W:PL→KPB→Prop} {K:KPB} {d:Prop} [Decidable d] (e:W pl=fun K=>K (decide d) pl) (h1:a≤b∧d→K true pl) (h2: ¬(a≤b∧d)→K false pl):pCmp w D .LtE (.int a) (.int b) pl (pTruth w D (pAnd W K)):=pand2 e h1 h2
theorem pifC {w:World} {I:Fi} {t:X} {a r:Ss} {vs:PVs} {pl:PL} {K:KPF} {c d:Prop} [Decidable c] [Decidable d] (e:PT w I.D t vs pl=fun K=>pAnd (fun pl K=>K (decide d) pl) K (decide c) pl) (h1:c∧d→PSs w I a vs pl (pSeq (PSs w I r) K)) (h2: ¬(c∧d)→PSs w I r vs pl K):PSs w I (.cons (.ife t a .nil) r) vs pl K:=by
 show PT w I.D t vs pl _
 rw [e]
 exact pand2 rfl h1 h2
set_option tactic.hygienic true
theorem FORs.bytes {w:World} {I:Fi} {j0:Nat} {b:Ss} {bb:Array UInt8} {t:Tok} {vs:Vs} {l:Led} {K:KF} (J:Nat→Vs→Led→Prop) (h0:∃ l₀,SubP l₀ l∧J 0 vs l₀)
  (turn:∀ i c tc vs l,bb[i]? =some c→J i vs l→TURN w I (.n j0) b (J (i+1)) K (.int (c.toNat:Int) tc) vs l) (done:∀ vs l,J bb.size vs l→K .next vs l):FORs w I (.n j0) b (.bytes bb t) vs l K:=⟨fun C F tgt body nn ht hb s Q S q=>by
 subst hb
 obtain ⟨ps,hR,S⟩:=S
 obtain ⟨l₀,hs,h0⟩:=h0
 replace S:=S.subP (hs.app ps)
 refine lp_bytes (fun i=>JT C I (J i)) rfl S.F S.N ⟨_,_,_,rfl,hR,rfl,S.D,h0⟩ ?_ ?_ ?_
 ·rintro i c tc m₁ nx h tk It oI hi ⟨vs,l,ps,rfl,hR,rfl,P,j⟩ off F' N
  exact turn_ok F ht (turn i c tc vs l hi j) hR (List.pairwise_singleton _ _) (one_off off) P F' N q
 ·rintro m₁ nx h tk ⟨vs,l,ps,rfl,hR,rfl,P,j⟩ F' N
  exact q .next vs l h tk (done vs l j) ⟨ps,hR,F',N,P⟩
 ·intro it v
  cases tgt<;>first|rfl|(simp [trT] at ht)⟩
theorem PFr.bytes {w:World} {I:Fi} {j0:Nat} {b:Ss} {bb:Array UInt8} {vs:PVs} {pl:PL} {K:KPF} (J:Nat→PVs→PL→Prop) (h0:LpI w (J 0) vs pl)
  (turn:∀ i (c:UInt8) vs pl,bb[i]? =some c→J i vs pl→pTg (.n j0) (.int (c.toNat:Int)) vs fun vs=>PSs w I b vs pl (pTurn w (J (i+1)) K)) (done:∀ vs pl,J bb.size vs pl→EnI w (K .next) vs pl):PFr w I (.n j0) b (.bytes bb) vs pl K:=⟨fun F l x rvs hp hv hl=>by
 obtain ⟨t,rfl⟩:=hp.bytesI
 exact FORs.bytes (fun i=>JP w F (J i)) (JP.of (fun zq h=>h) hv hl h0) (fun i c tc rvs l hi ⟨vs,pl,F1,u1,v1,s1,j⟩=>pturn_ok (turn i c vs pl hi j) u1 .int v1 s1) (fun rvs l ⟨vs,pl,F1,u1,v1,s1,j⟩=>pdone_ok (done vs pl j) u1 v1 s1)⟩
section
variable {w:World} {D:Nat} {pl:PL} {K:KP}
theorem PB.mul16 {b:Int} (k:K (.int (16*b)) pl):PB w D .Mult (.int 16) (.int b) pl K:=.ofI (fun {l ta tb K'} k'=>by
 refine ⟨fun C m hD s Q St q=>?_⟩
 rcases C with ⟨mean,mg,mb,dp,un,gd,cn,cs,a,ccd,cl,outer,A₀,base,h₀,L,B,X,T,hk,D,hd,hu,hid⟩
 rcases St with ⟨F,N,P⟩
 dsimp only at F N P q
 show wpAny _ (ktrTop dp un gd cn cs L a ccd cl outer) _ _ _ _
 k_steps
 rename Fr _ _ _ _=>F9
 rename News _ _ _ _=>N9
 exact q _ _ _ _ (k' _) ⟨F9,N9,P⟩) k
end
set_option tactic.hygienic false
theorem n_hexv (w:World) {n:Int}:PN w 97 [.int n] 5 [] fun p pl=>p=optP (hexV n)∧pl=[]:=by
 refine PN.of (D:=4) ns_97 [] k_97 [some 0] [] [] [some (.int n)] ⟨by kernel_rfl,by kernel_rfl⟩ (fun zq=>BndR.eq (by kernel_rfl) (by kernel_rfl)) (fun zq=>.nil) rfl fun I hI=>?_
 refine pifC (c:=48≤n) (d:=n≤57) rfl (fun h=>⟨_,.nil,by rw [hexV,if_pos h];rfl,rfl⟩) fun g1=>pifC (c:=65≤n) (d:=n≤70) rfl (fun h=>⟨_,.nil,by rw [hexV,if_neg g1,if_pos h];rfl,rfl⟩) fun g2=>pifC (c:=97≤n) (d:=n≤102) rfl (fun h=>⟨_,.nil,by rw [hexV,if_neg g1,if_neg g2,if_pos h];rfl,rfl⟩) fun g3=>⟨_,.nil,by rw [hexV,if_neg g1,if_neg g2,if_neg g3];rfl,rfl⟩
theorem n_codes (w:World) {z:Str} (hz:z.cps.size≤1000000):PN w 71 [.str z] 10 [] fun p pl=>∃ a,p= .val (.ref a)∧pl=[(a,intsP (codesI z))]:=by
 refine PN.of (D:=9) ns_71 [] k_71 [some 0] [] [] [some (.str z)] ⟨by kernel_rfl,by kernel_rfl⟩ (fun zq=>BndR.eq (by kernel_rfl) (by kernel_rfl)) (fun zq=>.nil) rfl fun I hI=>?_
 refine PCp.each (ys:=(codesI z).map P.int) rfl ?_ ?_ (fun i x y hx hy K' k'=>?_) (.inr fun a=>⟨_,.refl,a,rfl,rfl⟩)
 ·rw [List.length_map,List.length_map,codesI_len,Array.length_toList]
 ·rw [List.length_map,Array.length_toList];exact Nat.le_trans hz (by decide)
 ·obtain ⟨c,hc,rfl⟩:=map_at hx
  obtain ⟨n,hn,rfl⟩:=map_at hy
  unfold codesI at hn
  rw [List.getElem?_map,hc] at hn
  cases hn
  exact PCall.ord k'
theorem n_octA (w:World) {z:Str} (hz:z.cps.size≤1000000) (ha:Asc z):PN w 78 [.str z] 15 [] fun p pl=>p= .bytes (encA z)∧pl=[]:=by
 refine PN.of (D:=14) ns_78 [] k_78 [some 0,none,none] [] [] [some (.str z),none,none] ⟨by kernel_rfl,by kernel_rfl⟩ (fun zq=>BndR.eq (by kernel_rfl) (by kernel_rfl)) (fun zq=>.nil) rfl fun I hI=>?_
 refine PN.call (n_codes w hz) (Nat.le_trans (by decide) (Nat.le_of_eq hI.symm)) (.refl _) ?_
 rintro p pl ⟨a,rfl,rfl⟩
 refine PFr.freezeV (pre:=[]) 1 rfl (PFr.lst (fun i vs pl=>∃ o,vs=[some (.str z),some (.lst ((codesI z).map P.int)),o]∧pl=[]) ⟨_,_,.refl,_,rfl,rfl⟩ ?_ ?_)
 ·rintro i p vs pl hp ⟨o,rfl,rfl⟩
  obtain ⟨c,hc,rfl⟩:=map_at hp
  have:=ha c (List.mem_of_getElem? hc)
  exact pif (fun h=>absurd h (by show ¬c>127;omega)) fun h=>⟨_,_,.refl,_,rfl,rfl⟩
 ·rintro vs pl ⟨o,rfl,rfl⟩
  exact ⟨_,_,.refl,PCall.bytesL (fun n hn=>⟨(ha n hn).1,by have:=(ha n hn).2;omega⟩) (by rw [codesI_len];exact Nat.le_trans hz (by decide)) ⟨_,.nil,rfl,rfl⟩⟩
theorem n_asc (w:World) {b:Array UInt8} (hz:b.size≤10000) (ha:∀ k∈KBw.bInts b,0≤k∧k<128):PN w 83 [.bytes b] 15 [] fun p pl=>p= .str (decS b)∧pl=[]:=by
 refine PN.of (D:=14) ns_83 [] k_83 [some 0,none] [] [] [some (.bytes b),none] ⟨by kernel_rfl,by kernel_rfl⟩ (fun zq=>BndR.eq (by kernel_rfl) (by kernel_rfl)) (fun zq=>.nil) rfl fun I hI=>?_
 have hle:(signsB b).length=b.size:=by unfold signsB;rw [List.length_map,Array.length_toList]
 refine PFr.bytes (fun i vs pl=>∃ o,vs=[some (.bytes b),o]∧pl=[]) ⟨_,_,.refl,_,rfl,rfl⟩ ?_ ?_
 ·rintro i c vs pl hc ⟨o,rfl,rfl⟩
  have:=ha c.toNat (List.mem_of_getElem? (KBw.ints_get hc))
  exact pif (fun h=>absurd h (by show ¬(c.toNat:Int)>127;omega)) fun h=>⟨_,_,.refl,_,rfl,rfl⟩
 ·rintro vs pl ⟨o,rfl,rfl⟩
  refine ⟨_,_,.refl,PMe.joinS (PCp.each (ys:=(signsB b).map P.str) rfl (by rw [List.length_map,hle,List.length_map,Array.length_toList]) (by rw [List.length_map,Array.length_toList];exact Nat.le_trans hz (by decide)) (fun i x y hx hy K2 k2=>?_) (.inl (PCall.joinSL (by decide) (by rw [signsB_sum,hle];omega) ⟨_,.nil,rfl,rfl⟩)))⟩
  obtain ⟨c,hc,rfl⟩:=map_at hx
  obtain ⟨s,hs,rfl⟩:=map_at hy
  unfold signsB at hs
  rw [List.getElem?_map,hc] at hs
  cases hs
  exact PCall.chr (Int.natCast_nonneg _) (by have:=c.toNat_lt;omega) k2
theorem n_cofh (w:World) {b:Array UInt8} (h1:1≤b.size) (h6:b.size≤6) (hx:∀ k∈KBw.bInts b,hexV k≠none) (hm:hexN (KBw.bInts b)≤1114111):PN w 104 [.bytes b] 15 [] fun p pl=>p= .int (hexN (KBw.bInts b))∧pl=[]:=by
 refine PN.of (D:=14) ns_104 [] k_104 [some 0,none,none,none] [] [] [some (.bytes b),none,none,none] ⟨by kernel_rfl,by kernel_rfl⟩ (fun zq=>BndR.eq (by kernel_rfl) (by kernel_rfl)) (fun zq=>.nil) rfl fun I hI=>?_
 refine PCall.lenB rfl (Nat.le_trans h6 (by decide)) (pcmp2 (d:=(b.size:Int)≤6) rfl (fun zq=>?_) fun h=>absurd ⟨Int.ofNat_le.mpr h1,Int.ofNat_le.mpr h6⟩ h)
 refine PFr.bytes (fun i vs pl=>∃ o p,vs=[some (.bytes b),some (.int (hexN ((KBw.bInts b).take i))),o,p]∧pl=[]) ⟨_,_,.refl,_,_,rfl,rfl⟩ ?_ ?_
 ·rintro i c vs pl hc ⟨o,p,rfl,rfl⟩
  have hc':=KBw.ints_get hc
  refine PCall.pn (n_hexv w) (Nat.le_trans (by decide) (Nat.le_of_eq hI.symm)) ?_
  cases hv:hexV (c.toNat:Int) with
  |none=>exact absurd hv (hx _ (List.mem_of_getElem? hc'))
  |some v=>exact PB.mul16 ⟨_,_,.refl,_,_,by rw [hexN_take hc',hv];rfl,rfl⟩
 ·rintro vs pl ⟨o,p,rfl,rfl⟩
  have e:(KBw.bInts b).take b.size=KBw.bInts b:=by rw [←KBw.ints_length,List.take_length]
  rw [e]
  exact ⟨_,_,.refl,pif (fun h=>absurd hm (Int.not_le.mpr h)) fun zq=>⟨_,.nil,rfl,rfl⟩⟩
theorem n_cofield (w:World) {b:Array UInt8} {n a:Int} (h:codeF b=some a):PN w 142 [.bytes b,.int n] 25 [] fun p pl=>p= .int a∧pl=[]:=by
 obtain ⟨h1,h2,h3,h4,h5⟩:=codeF_is h
 rw [KBw.ints_length] at h1 h2
 refine PN.of (D:=24) ns_142 [] k_142 [some 1,some 0] [] [] [some (.int n),some (.bytes b)] ⟨by kernel_rfl,by kernel_rfl⟩ (fun zq zq=>BndR.eq (by kernel_rfl) (by kernel_rfl)) (fun zq=>.nil) rfl fun I hI=>?_
 exact PCall.lenB rfl (Nat.le_trans h2 (by decide)) (pif (fun h=>absurd (Int.ofNat_le.mpr h1) (Int.not_le.mpr h)) fun zq=>PCall.pn (n_cofh w (Nat.le_trans (by decide) h1) h2 h3 h4) (Nat.le_trans (by decide) (Nat.le_of_eq hI.symm)) ⟨_,.nil,by rw [h5],rfl⟩)
theorem n_wfield (w:World) {b:Array UInt8} {n:Int} (hz:b.size≤10000) (ha:∀ k∈KBw.bInts b,0≤k∧k<128):PN w 157 [.bytes b,.int n] 25 [] fun p pl=>p= .str (decS b)∧pl=[]:=by
 refine PN.of (D:=24) ns_157 [] k_157 [some 1,some 0] [] [] [some (.int n),some (.bytes b)] ⟨by kernel_rfl,by kernel_rfl⟩ (fun zq zq=>BndR.eq (by kernel_rfl) (by kernel_rfl)) (fun zq=>.nil) rfl fun I hI=>?_
 exact PCall.pn (n_asc w hz ha) (Nat.le_trans (by decide) (Nat.le_of_eq hI.symm)) ⟨_,.nil,rfl,rfl⟩
set_option tactic.hygienic true
section
variable {w:World} {D:Nat} {pl:PL} {K:KP}
set_option tactic.hygienic false
theorem PCall.enc {z:Str} (hD:15≤D) (hz:z.cps.size≤1000000) (ha:Asc z) (k:K (.bytes (encA z)) pl):PCall w D (.ref 78) [.str z] pl K:=.pn (n_octA w hz ha) hD k
theorem PCall.wfield {b:Array UInt8} {n:Int} (hD:25≤D) (hz:b.size≤10000) (ha:∀ k∈KBw.bInts b,0≤k∧k<128) (k:K (.str (decS b)) pl):PCall w D (.ref 157) [.bytes b,.int n] pl K:=.pn (n_wfield w hz ha) hD k
theorem PCall.cofield {b:Array UInt8} {n a:Int} (hD:25≤D) (h:codeF b=some a) (k:K (.int a) pl):PCall w D (.ref 142) [.bytes b,.int n] pl K:=.pn (n_cofield w h) hD k
set_option tactic.hygienic true
end
end
section
set_option tactic.hygienic false
noncomputable def ns_424:List Str:=[Str.ofString "below",Str.ofString "well",Str.ofString "cells",Str.ofString "spot"]
noncomputable def k_424:Ss:=(.cons (.asgT [2,3] (.v 1)) (.cons (.asgI (.v 1) (.k (.int 1)) (.bin .Add (.v 3) (.k (.int 1)))) (.cons (.ret (.bin .Mod (.ife (.cmp .Lt (.v 3) (.call (.g (.builtin "len")) (.cons (.v 2) .nil))) (.sub (.v 2) (.v 3)) (.v 3)) (.v 0))) .nil)))
noncomputable def ns_431:List Str:=[Str.ofString "some",Str.ofString "well"]
noncomputable def k_431:Ss:=(.cons (.ret (.sub (.v 0) (.call (.g (.ref 424)) (.cons (.v 1) (.cons (.call (.g (.builtin "len")) (.cons (.v 0) .nil)) .nil))))) .nil)
set_option tactic.hygienic true
section
variable {w:World} {D:Nat} {pl:PL} {K:KP}
set_option tactic.hygienic false
theorem PN.callP {f:Addr} {ps:List P} {D':Nat} {a r:PL} {R:KP} (c:PN w f ps D' a R) (hD:D'≤D) (hp:List.Perm (a++r) pl) (k:∀ p pl',R p pl'→∃ pl2,List.Perm (pl'++r) pl2∧K p pl2):PCall w D (.ref f) ps pl K:=⟨fun F l us hps hl=>((PN.call c hD hp (K:=fun p pl3=>∃ pl',R p pl'∧pl3=pl'++r) fun p pl' h=>⟨pl',h,rfl⟩).go F l us hps hl).mono fun v l' ⟨p,pl3,F1,a1,b1,u1,pl',h,e⟩=>by
 obtain ⟨pl2,q,kk⟩:=k p pl' h
 exact ⟨p,pl2,F1,a1,(e▸b1).perm q,u1,kk⟩⟩
theorem OP.put1 {pre post:Led} {a:Addr} {x y v:Value} {n:Nat} {t:Tok} {K:Unit→Led→Prop} (k:K () (pre++(a,listOf #[x,v] n)::post)):OP w D (setItem (.ref a) (.int 1 t) v) (pre++(a,listOf #[x,y] n)::post) K:=⟨fun C zq zq s zq S q=>by
 obtain ⟨N,h1,h2⟩:=S.split
 refine ki_set (q:=[x,v]) S.F N (by decide) (by decide) rfl (updE h1 h2) fun h' F' N'=>q () _ h' s.toks k ⟨F',?_,?_⟩
 ·rw [app_mid];exact N'
 ·rw [app_mid];have P:=S.D;rw [app_mid] at P;exact pw_put P⟩
theorem PPut.put1 {pre post:PL} {a:Addr} {x y p:P} {K:PL→Prop} (k:K (pre++(a,.list [x,p])::post)):PPut w D (.val (.ref a)) (.int 1) p (pre++(a,.list [x,y])::post) K:=⟨fun F l o i v ho hi hv hl=>by
 obtain ⟨p1,p2,vs,n,q,h1,h2,_⟩:=hl.at
 obtain ⟨a1,a2,rfl,g1,g2⟩:=h1.two
 obtain ⟨t,rfl⟩:=hi.intI
 rw [ho.valI]
 exact OP.perm q (OP.put1 ⟨_,F,h2 (.cons g1 (.cons hv .nil)),fun zq h=>h,k⟩)⟩
theorem PUn.at {a:Addr} {n:Nat} {xs:List P} {K:KPs} (hm:(a,PO.list xs)∈pl) (hn:xs.length=n) (k:K xs pl):PUn w D (.val (.ref a)) n pl K:=⟨fun F l x hx hl=>by
 obtain ⟨us,m,h2,h1⟩:=hl.mem hm
 rw [hx.valI]
 exact ⟨fun C m hD elts kk pos env s Q S a b q=>kun_list S.F S.N (lm_list S.N (List.mem_append_left _ h2)) rfl (by rw [a,List.size_toArray,h1.len,hn]) b fun h' F' N'=>q us l h' ⟨xs,pl,F,h1,hl,fun zq h=>h,k⟩ (by rw [h1.len,hn]) ⟨F',N',S.D⟩⟩⟩
theorem PCall.lenT {xs:List P} {n:Int} (hn:(xs.length:Int)=n) (hz:xs.length≤1000000) (k:K (.int n) pl):PCall w D (.builtin "len") [.tup xs] pl K:=⟨fun F l us hps hl=>by
 obtain ⟨_,rfl,a⟩:=hps.one
 obtain ⟨vs,T,r⟩:=a.tupL hl.sub
 subst hn
 refine ⟨fun C m hD s Q S q=>?_⟩
 obtain ⟨t,rfl,ht⟩:=T.at S
 have e1:(vs.toArray.size:Int)=xs.length:=by rw [List.size_toArray,r.len]
 refine len_tuple ht (by rw [e1];omega) ?_
 rw [e1]
 exact q _ l s.heap _ (liftK.mk .int hl k) ⟨S.F,S.N,S.D⟩⟩
theorem pSub_tup {xs:List P} {i:Int} {p:P} (h0:0≤i) (hx:xs[i.toNat]? =some p) (hz:xs.length≤1000) (k:K p pl):pSub w D (.tup xs) (.int i) pl K:=by
 have hi:i.toNat<xs.length:=(List.getElem?_eq_some_iff.mp hx).1
 have e:seqIndex? i xs.length=some i.toNat:=by unfold seqIndex?;simp;omega
 show (match (decide (-(2 ^ 63)≤i)&&decide (i<2 ^ 63)) with
  |true=>(match seqIndex? i xs.length with
   |some j=>(match xs[j]? with
    |some x=>K x pl
    |none=>False)
   |none=>False)
  |false=>False)
 rw [decide_eq_true (Int.le_trans (by decide) h0),decide_eq_true (by omega:i<2 ^ 63),e]
 show (match xs[i.toNat]? with
        |some x=>K x pl
        |none=>False)
 rw [hx];exact k
theorem well_perm {pre post s t:PL} {y x':Addr×PO} (e:pre++post=s++y::t):List.Perm ([x',y]++(s++t)) (pre++x'::post):=
 (List.Perm.cons x' (List.perm_middle (a:=y) (l₁:=s) (l₂:=t)).symm).trans (by rw [←e];exact (List.perm_middle (a:=x') (l₁:=pre) (l₂:=post)).symm)
set_option tactic.hygienic true
end
inductive RDraw (w:World) (aw ac:Addr) (ns:List Int) (spot below:Int) (p:P) (pl:PL):Prop
 |mk (x:Int) (h0:0≤x) (h1:x<below) (hp:p= .int x) (hl:pl=[(aw,wellP ac (spot+1)),(ac,intsP ns)])
set_option tactic.hygienic false
theorem n_draw (w:World) {aw ac:Addr} {ns:List Int} {spot below:Int} (h0:0≤spot) (hlen:ns.length≤63) (hb:0<below):PN w 424 [.val (.ref aw),.int below] 10 [(aw,wellP ac spot),(ac,intsP ns)] (RDraw w aw ac ns spot below):=by
 refine PN.of (D:=9) ns_424 [] k_424 [some 1,some 0,none,none] [] [] [some (.int below),some (.val (.ref aw)),none,none] ⟨by kernel_rfl,by kernel_rfl⟩ (fun zq zq=>BndR.eq (by kernel_rfl) (by kernel_rfl)) (fun zq=>.nil) rfl fun I hI=>?_
 have up:(ns.map P.int).length≤16777216:=by rw [List.length_map];exact Nat.le_trans hlen (by decide)
 refine PUn.at (.head _) rfl (PPut.put1 (pre:=[]) (PCall.len (.tail _ (.head _)) up ?_))
 rw [List.length_map]
 have fin:∀ {x:Int},pBin w I.D .Mod (.int x) (.int below) [(aw,wellP ac (spot+1)),(ac,intsP ns)] fun p pl=>pRet (RDraw w aw ac ns spot below) (.ret p) [some (.int below),some (.val (.ref aw)),some (.val (.ref ac)),some (.int spot)] pl:=fun {x}=>
  PB.mod hb ⟨_,.refl,.mk _ (Int.emod_nonneg _ (Int.ne_of_gt hb)) (Int.emod_lt_of_pos _ hb) rfl rfl⟩
 refine pif (fun h=>?_) fun zq=>fin
 have hi:spot.toNat<ns.length:=by omega
 have he:(ns.map P.int)[spot.toNat]? =some (.int ns[spot.toNat]):=by rw [List.getElem?_map,List.getElem?_eq_getElem hi];rfl
 exact PSb.item (.tail _ (.head _)) h0 he up fin
inductive RPick (w:World) (aw ac:Addr) (ns:List Int) (spot:Int) (its:List P) (p:P) (pl:PL):Prop
 |mk (h:p∈its) (hl:pl=[(aw,wellP ac (spot+1)),(ac,intsP ns)])
theorem n_pick (w:World) {aw ac:Addr} {ns:List Int} {spot:Int} {its:List P} (h0:0≤spot) (hlen:ns.length≤63) (hb:0<its.length) (hlt:its.length<1000):PN w 431 [.val (.ref aw),.tup its] 20 [(aw,wellP ac spot),(ac,intsP ns)] (RPick w aw ac ns spot its):=by
 refine PN.of (D:=19) ns_431 [] k_431 [some 1,some 0] [] [] [some (.tup its),some (.val (.ref aw))] ⟨by kernel_rfl,by kernel_rfl⟩ (fun zq zq=>BndR.eq (by kernel_rfl) (by kernel_rfl)) (fun zq=>.nil) rfl fun I hI=>?_
 refine PCall.lenT rfl (Nat.le_trans (Nat.le_of_lt hlt) (by decide)) (PN.call (n_draw w h0 hlen (Int.ofNat_lt.mpr hb)) (Nat.le_trans (by decide) (Nat.le_of_eq hI.symm)) (.refl _) ?_)
 rintro p pl ⟨x,x0,x1,rfl,rfl⟩
 have hi:x.toNat<its.length:=by omega
 exact pSub_tup x0 (List.getElem?_eq_getElem hi) (Nat.le_of_lt hlt) ⟨_,.refl,.mk (List.getElem_mem hi) rfl⟩
set_option tactic.hygienic true
section
variable {w:World} {D:Nat} {K:KP}
set_option tactic.hygienic false
theorem PCall.draw {pre post:PL} {aw ac:Addr} {ns:List Int} {spot below:Int} (hD:10≤D) (hm:(ac,intsP ns)∈pre++post) (hlen:ns.length≤63) (h0:0≤spot) (hb:0<below) (_hlt:below<1000000)
  (k:∀ x,0≤x→x<below→K (.int x) (pre++(aw,wellP ac (spot+1))::post)):PCall w D (.ref 424) [.val (.ref aw),.int below] (pre++(aw,wellP ac spot)::post) K:=by
 obtain ⟨s,t,e⟩:=List.append_of_mem hm
 refine PN.callP (n_draw w h0 hlen hb) hD (well_perm (y:=(ac,intsP ns)) e) ?_
 rintro p pl' ⟨x,x0,x1,rfl,rfl⟩
 exact ⟨_,well_perm (y:=(ac,intsP ns)) e,k x x0 x1⟩
theorem PCall.pick {pre post:PL} {aw ac:Addr} {ns:List Int} {spot:Int} {its:List P} (hD:20≤D) (hm:(ac,intsP ns)∈pre++post) (hlen:ns.length≤63) (h0:0≤spot) (hb:0<its.length) (hlt:its.length<1000)
  (k:∀ p∈its,K p (pre++(aw,wellP ac (spot+1))::post)):PCall w D (.ref 431) [.val (.ref aw),.tup its] (pre++(aw,wellP ac spot)::post) K:=by
 obtain ⟨s,t,e⟩:=List.append_of_mem hm
 refine PN.callP (n_pick w h0 hlen hb hlt) hD (well_perm (y:=(ac,intsP ns)) e) ?_
 rintro p pl' ⟨hp,rfl⟩
 exact ⟨_,well_perm (y:=(ac,intsP ns)) e,k p hp⟩
theorem PCall.pickK {pre post:PL} {aw ac b:Addr} {ns:List Int} {spot:Int} {its:List P} (hT:∀ F,RV w F (.tup its) (.ref b)) (hD:20≤D) (hm:(ac,intsP ns)∈pre++post) (hlen:ns.length≤63) (h0:0≤spot) (hb:0<its.length) (hlt:its.length<1000)
  (k:∀ p∈its,K p (pre++(aw,wellP ac (spot+1))::post)):PCall w D (.ref 431) [.val (.ref aw),.val (.ref b)] (pre++(aw,wellP ac spot)::post) K:=⟨fun F l us hps hl=>by
 obtain ⟨b1,b2,rfl,g3,g4⟩:=hps.two
 rw [g3.valI,g4.valI]
 exact (PCall.pick hD hm hlen h0 hb hlt k).go F l _ (.cons .val (.cons (hT F) .nil)) hl⟩
theorem pick_map {α:Type} {f:α→P} {qs:List α} {pl:PL} (k:∀ q∈qs,K (f q) pl):∀ p∈qs.map f,K p pl:=fun p hp=>by
 obtain ⟨q,hq,rfl⟩:=List.mem_map.mp hp
 exact k q hq
set_option tactic.hygienic true
end
end
section
inductive LitD:List (Option Expr)→List Expr→List (Str×P)→Prop
 |nil:LitD [] [] []
 |str {z s:Str} {k₁ k₂:Nat} {p₁ p₂:Pos} {ks:List (Option Expr)} {vs:List Expr} {r:List (Str×P)}:LitD ks vs r→LitD (some (.Constant (.str z) k₁ p₁)::ks) (.Constant (.str s) k₂ p₂::vs) ((z,.str s)::r)
 |int {z:Str} {n:Int} {k₁ k₂:Nat} {p₁ p₂:Pos} {ks:List (Option Expr)} {vs:List Expr} {r:List (Str×P)}:LitD ks vs r→LitD (some (.Constant (.str z) k₁ p₁)::ks) (.Constant (.int n) k₂ p₂::vs) ((z,.int n)::r)
inductive PairsOK (w:World):List (Value×Value)→List (Str×P)→Prop
 |nil:PairsOK w [] []
 |cons {z:Str} {t:Tok} {v:Value} {p:P} {vs:List (Value×Value)} {r:List (Str×P)}:(∀ F,RV w F p v)→PairsOK w vs r→PairsOK w ((.str z t,v)::vs) ((z,p)::r)
section
variable {w:World} {D:Nat} {pl:PL} {K:KP}
set_option tactic.hygienic false
theorem PairsOK.keys {vs:List (Value×Value)} {r:List (Str×P)} (h:PairsOK w vs r):allStrKeys vs=true∧(strPairs vs).map (·.1)=r.map (·.1)∧vs.length=r.length:=by
 induction h with
 |nil=>exact ⟨rfl,rfl,rfl⟩
 |cons _ _ ih=>exact ⟨ih.1,congrArg (_:: ·) ih.2.1,congrArg (· +1) ih.2.2⟩
theorem PairsOK.strs {vs:List (Value×Value)} {r:List (Str×P)} (h:PairsOK w vs r):(strPairs vs).length=r.length:=by
 have:=congrArg List.length h.keys.2.1
 rwa [List.length_map,List.length_map] at this
theorem PairsOK.get {vs:List (Value×Value)} {r:List (Str×P)} (h:PairsOK w vs r) (z:Str):(valueAt (strPairs vs) z=none∧r.lookup z=none)∨∃ v p,valueAt (strPairs vs) z=some v∧r.lookup z=some p∧∀ F,RV w F p v:=by
 induction h with
 |nil=>exact .inl ⟨rfl,rfl⟩
 |@cons y t v p vs r hv _ ih=>
  have e0:strPairs ((.str y t,v)::vs)=(y,v)::strPairs vs:=rfl
  rw [e0]
  by_cases e:y=z
  ·subst e
   refine .inr ⟨v,p,?_,?_,hv⟩
   ·unfold valueAt
    rw [List.find?_cons_of_pos (p:=fun kv:Str×Value=>decide (kv.1=y)) (by simp)];rfl
   ·rw [List.lookup_cons,beq_self_eq_true]
  ·have e2:((y,p)::r).lookup z=r.lookup z:=by rw [List.lookup_cons,beq_eq_false_iff_ne.mpr (Ne.symm e)]
   have e3:valueAt ((y,v)::strPairs vs) z=valueAt (strPairs vs) z:=by
    unfold valueAt
    rw [List.find?_cons_of_neg (by simpa using e)]
   rw [e2,e3];exact ih
theorem ev_pairs {C:Cx w} {E:Value→Shared→Prop} {env:Env} {pos:Pos} {keys:List (Option Expr)} {values:List Expr} {r:List (Str×P)} (h:LitD keys values r):∀ (s:Shared) (Q:List (Value×Value)→Shared→Prop),(∀ vs tk,PairsOK w vs r→Q vs { s with toks:=tk })→wpAny (model PG w) C.A (evalPairs (pairTrees keys values env pos)) Q E s:=by
 induction h with
 |nil=>exact fun s Q q=>wpAny_pure (q [] s.toks .nil)
 |str _ ih=>exact fun s Q q=>wpAny_bind (wpAny_Constant_str (wpAny_bind (wpAny_holding (wpAny_bind (wpAny_Constant_str (wpAny_bind (wpAny_standAt (wpAny_pure (wpAny_bind (wpAny_holding (ih _ _ fun vs tk p=>wpAny_pure (q _ tk (.cons (fun zq=>.str) p)))))))))))))
 |int _ ih=>exact fun s Q q=>wpAny_bind (wpAny_Constant_str (wpAny_bind (wpAny_holding (wpAny_bind (wpAny_Constant_int (wpAny_bind (wpAny_standAt (wpAny_pure (wpAny_bind (wpAny_holding (ih _ _ fun vs tk p=>wpAny_pure (q _ tk (.cons (fun zq=>.int) p)))))))))))))
theorem PRw.dict {keys:List (Option Expr)} {values:List Expr} {pos:Pos} {r:List (Str×P)} (h:LitD keys values r) (hn:(r.map (·.1)).Nodup) (ha:keys.all (·.isSome)=true) (hl:keys.length=values.length) (h0:keys≠[]) (h15:keys.length≤15)
  (k:∀ d o vs,PairsOK w vs r→o.IsDictOf (PySem.strKind PG w) (strPairs vs)→(d==sysModules)=false→K (.val (.ref d)) ((d,.raw o)::pl)):PRw w D (.Dict keys values pos) pl K:=⟨fun F l hl'=>⟨fun C m env hD s Q S q=>by
 refine kdn_eval (knd:=PySem.strKind PG w) S.F S.N C.T.nolimit ha hl h0 h15 fun d h' o F' N' l1 lo hd=>ev_pairs h _ _ fun vs tk ok=>?_
 obtain ⟨e1,e2,_⟩:=ok.keys
 exact kdn_made_str F' N' (updOf (pre:=[]) (fun p hp=>Nat.ne_of_lt (l1 p hp)) fun zq h=>absurd h List.not_mem_nil) hd e1 (by rw [e2];exact hn) fun h'' o' F'' N'' hd'=>q _ _ h'' _ (liftK.mk .val hl'.raw (k d o' vs ok hd' lo)) ⟨F'',N'',List.pairwise_cons.mpr ⟨fun p hp=>Nat.ne_of_gt (l1 p hp),S.D⟩⟩⟩⟩
theorem PRw.none {pos:Pos} (k:∀ d o,o.IsDictOf (PySem.strKind PG w) ([]:List (Str×Value))→(d==sysModules)=false→K (.val (.ref d)) ((d,.raw o)::pl)):PRw w D (.Dict [] [] pos) pl K:=⟨fun F l hl'=>⟨fun C m env hD s Q S q=>
 newDict_K S.F S.N C.T.nolimit fun d h' o F' N' l1 lo hd zq zq zq=>q _ _ h' _ (liftK.mk .val hl'.raw (k d o hd lo)) ⟨F',N',List.pairwise_cons.mpr ⟨fun p hp=>Nat.ne_of_gt (l1 p hp),S.D⟩⟩⟩⟩
set_option tactic.hygienic true
end
set_option tactic.hygienic false
noncomputable def ns_329:List Str:=[Str.ofString "found",Str.ofString "name"]
noncomputable def raw1 (w:World) (f:Addr):Expr:=match fnBody (fnRec w f) with
 | .Assign _ e _::_=>e
 | .Return (some e) _::_=>e
 |_=>.Constant .none 0 ⟨0,0,0,0⟩
noncomputable def k_329 (w:World):Ss:=(.cons (.asg 0 (.raw (raw1 w 329))) (.cons (.for_ (.n 1) (.tup (.cons (.k (.str (Str.ofString "gcb"))) (.cons (.k (.str (Str.ofString "wb"))) (.cons (.k (.str (Str.ofString "sb"))) .nil)))) (.cons (.asgI (.v 0) (.v 1) (.k (.str (Str.ofString "Other")))) .nil)) (.cons (.for_ (.n 1) (.tup (.cons (.k (.str (Str.ofString "ex"))) (.cons (.k (.str (Str.ofString "sd"))) (.cons (.k (.str (Str.ofString "cased"))) (.cons (.k (.str (Str.ofString "ci"))) (.cons (.k (.str (Str.ofString "ep"))) (.cons (.k (.str (Str.ofString "di"))) (.cons (.k (.str (Str.ofString "ids"))) (.cons (.k (.str (Str.ofString "idc"))) (.cons (.k (.str (Str.ofString "xids"))) (.cons (.k (.str (Str.ofString "xidc"))) (.cons (.k (.str (Str.ofString "pat_syn"))) (.cons (.k (.str (Str.ofString "pat_ws"))) (.cons (.k (.str (Str.ofString "idst"))) .nil)))))))))))))) (.cons (.asgI (.v 0) (.v 1) (.k (.bool false))) .nil)) (.cons (.for_ (.n 1) (.tup (.cons (.k (.str (Str.ofString "dm"))) (.cons (.k (.str (Str.ofString "uc"))) (.cons (.k (.str (Str.ofString "lc"))) (.cons (.k (.str (Str.ofString "tc"))) (.cons (.k (.str (Str.ofString "cf"))) (.cons (.k (.str (Str.ofString "bm"))) (.cons (.k (.str (Str.ofString "bpb"))) (.cons (.k (.str (Str.ofString "scx"))) (.cons (.k (.str (Str.ofString "nt"))) (.cons (.k (.str (Str.ofString "nv"))) (.cons (.k (.str (Str.ofString "name"))) (.cons (.k (.str (Str.ofString "conf"))) (.cons (.k (.str (Str.ofString "nfkc_cf"))) .nil)))))))))))))) (.cons (.asgI (.v 0) (.v 1) (.k .none)) .nil)) (.cons (.for_ (.n 1) (.tup (.cons (.k (.str (Str.ofString "suc"))) (.cons (.k (.str (Str.ofString "slc"))) (.cons (.k (.str (Str.ofString "stc"))) (.cons (.k (.str (Str.ofString "alias"))) .nil))))) (.cons (.asgI (.v 0) (.v 1) (.tup .nil)) .nil)) (.cons (.asgI (.v 0) (.k (.str (Str.ofString "idna"))) (.tup (.cons (.k (.str (Str.ofString "disallowed"))) (.cons (.tup .nil) .nil)))) (.cons (.ret (.v 0)) .nil)))))))
inductive J329 (w:World) (d:Addr) (b:Nat) (vs:PVs) (pl:PL):Prop
 |mk (o:Obj) (kvs:List (Str×Value)) (q:Option P) (hv:vs=[some (.val (.ref d)),q]) (hl:pl=[(d,.raw o)]) (hd:o.IsDictOf (PySem.strKind PG w) kvs) (df:DefOK kvs) (hz:kvs.length≤b)
theorem J329.put {w:World} {I:Fi} {d:Addr} {b:Nat} {o:Obj} {kvs:List (Str×Value)} {y:Str} {p:P} {q:Option P} {K:PL→Prop} (hd:o.IsDictOf (PySem.strKind PG w) kvs) (df:DefOK kvs) (hz:kvs.length≤b) (hb:b≤100) (hn:y∉usedNames∨(p= .none∧dflt y= .none)) (k:∀ pl,J329 w d (b+1) [some (.val (.ref d)),q] pl→K pl):PPut w I.D (.val (.ref d)) (.str y) p [(d,.raw o)] K:=
 PPut.dictR (.refl _) hd (Nat.le_trans hz (Nat.le_trans hb (by decide))) fun F v o' hv hd'=>k _ (.mk o' _ q rfl rfl hd' (df.put (hn.imp id fun ⟨e,e2⟩=>⟨by subst e;exact hv.noneI,e2⟩)) (Nat.le_trans (stored_length_le _ _ _) (Nat.succ_le_succ hz)))
theorem def_loop {w:World} {I:Fi} (names:List Str) {x:X} {p:P} {r:Ss} {d:Addr} {b:Nat} {vs:PVs} {pl:PL} {K:KPF} (hx:∀ {vs:PVs} {pl:PL} {K:KP},K p pl→PX w I.D x vs pl K) (hb:b+names.length≤100) (hn:∀ y∈names,y∉usedNames∨(p= .none∧dflt y= .none))
  (j:J329 w d b vs pl) (k:∀ vs pl,J329 w d (b+names.length) vs pl→PSs w I r vs pl K):PFr w I (.n 1) (.cons (.asgI (.v 0) (.v 1) x) .nil) (.tup (names.map P.str)) vs pl (pSeq (PSs w I r) K):=by
 refine PFr.tup (fun i=>J329 w d (b+i)) ⟨_,_,.refl,j⟩ ?_ fun vs pl j=>⟨_,_,.refl,k vs pl (by rw [List.length_map] at j;exact j)⟩
 rintro i p' vs pl hp ⟨o,kvs,q,rfl,rfl,hd,df,hz⟩
 obtain ⟨y,hy,rfl⟩:=map_at hp
 have hi:=(List.getElem?_eq_some_iff.mp hy).1
 exact hx (J329.put hd df hz (by omega) (hn y (List.mem_of_getElem? hy)) fun pl j=>⟨_,_,.refl,j⟩)
inductive RDef (w:World) (p:P) (pl:PL):Prop
 |mk (d:Addr) (o:Obj) (kvs:List (Str×Value)) (hp:p= .val (.ref d)) (hl:pl=[(d,.raw o)]) (hd:o.IsDictOf (PySem.strKind PG w) kvs) (df:DefOK kvs) (lo:(d==sysModules)=false)
noncomputable def lit329:List (Str×P):=[(Str.ofString "gc",.str (Str.ofString "Cn")),(Str.ofString "ccc",.int 0),(Str.ofString "bc",.str (Str.ofString "L")),(Str.ofString "lb",.str (Str.ofString "XX")),(Str.ofString "ea",.str (Str.ofString "N")),(Str.ofString "sc",.str (Str.ofString "Zzzz")),(Str.ofString "jt",.str (Str.ofString "U")),(Str.ofString "incb",.str (Str.ofString "None"))]
noncomputable def litB (n:Str):Bool:=match lit329.lookup n with
 |some (.str s)=>dflt n==.str s
 |some (.int i)=>dflt n==.int i
 |none=>dflt n==.none
 |_=>false
theorem lit_ok:∀ n∈usedNames,litB n=true:=by decide+kernel
theorem lit_def {w:World} {vs:List (Value×Value)} (h:PairsOK w vs lit329):DefOK (strPairs vs):=fun n hn=>by
 have hb:=lit_ok n hn
 unfold litB at hb
 rcases h.get n with ⟨e1,e2⟩|⟨v,p,e1,e2,e3⟩
 ·rw [e2] at hb
  rw [e1,eq_of_beq hb]
  exact .none
 ·rw [e2] at hb
  rw [e1]
  have r:=e3 []
  cases p with
  |str s=>obtain ⟨t,rfl⟩:=r.strI;rw [eq_of_beq hb];exact .str _ _
  |int i=>obtain ⟨t,rfl⟩:=r.intI;rw [eq_of_beq hb];exact .int _ _
  |_=>cases hb
theorem n_defaults (w:World):PN w 329 [] 10 [] (RDef w):=by
 refine PN.of (D:=9) ns_329 [] (k_329 w) [none,none] [] [] [none,none] ⟨by kernel_rfl,by kernel_rfl⟩ (BndR.eq (by kernel_rfl) (by kernel_rfl)) (fun zq=>.nil) rfl fun I hI=>?_
 refine PRw.dict (r:=lit329) (.str (.int (.str (.str (.str (.str (.str (.str .nil)))))))) (by decide+kernel) rfl rfl (List.cons_ne_nil _ _) (Nat.le_of_ble_eq_true rfl) fun d o vs ok hd lo=>?_
 refine def_loop namesA (fun k=>k) (Nat.le_of_ble_eq_true rfl) (fun y hy=>.inl (offA y hy)) (.mk (b:=8) o _ none rfl rfl hd (lit_def ok) (Nat.le_of_eq ok.strs)) fun vs pl j=>?_
 refine def_loop namesB (fun k=>k) (Nat.le_of_ble_eq_true rfl) (fun y hy=>.inl (offB y hy)) j fun vs pl j=>?_
 refine def_loop namesC (fun k=>k) (Nat.le_of_ble_eq_true rfl) (fun y hy=>.inr ⟨rfl,offC y hy⟩) j fun vs pl j=>?_
 refine def_loop namesD (fun k=>k) (Nat.le_of_ble_eq_true rfl) (fun y hy=>.inl (offD y hy)) j fun vs pl j=>?_
 obtain ⟨o,kvs,q,rfl,rfl,hd,df,hz⟩:=j
 refine J329.put (q:=q) hd df hz (Nat.le_of_ble_eq_true rfl) (.inl offE) fun pl j=>?_
 obtain ⟨o,kvs,q',hv,rfl,hd,df,hz⟩:=j
 exact ⟨_,.refl,.mk d o kvs rfl rfl hd df lo⟩
end
section
section
variable {w:World} {D:Nat} {pl:PL} {K:KP}
set_option tactic.hygienic false
theorem under_cls (A:Around) {C:Addr} {vs:List Value}:A.under (.builtin "type.__call__" ⟨.ref C::vs,[]⟩)={ A with depth:=A.depth+1,units:=A.units+1 }:=by
 obtain ⟨h,d,f,g,u⟩:=A
 have e1:Code.weight (.builtin "type.__call__" ⟨.ref C::vs,[]⟩)=1:=by kernel_rfl
 have e2:Code.cUnits (.builtin "type.__call__" ⟨.ref C::vs,[]⟩)=1:=by kernel_rfl
 have e3:Code.envs (.builtin "type.__call__" ⟨.ref C::vs,[]⟩)=[]:=by kernel_rfl
 have e4:Code.guards (.builtin "type.__call__" ⟨.ref C::vs,[]⟩)=[]:=by kernel_rfl
 unfold Around.under
 rw [e1,e2,e3,e4]
 rfl
theorem PCall.cls {f C:Addr} {ps:List P} {D':Nat} (hm:makesIn (KF10 w) C=true) (hi:findIn (KF10 w) (.ref C) "__init__"=some (some (.ref f))) (hf:PySem.W.isFn (KF10 w) (.ref f)=true) (hD:D'+1≤D)
  (c:∀ x dx,PNc w f (.val (.ref x)::ps) D' ((x,.raw (instObj C dx))::(dx,.raw (dictOf [] 0))::pl) fun p pl'=>p= .none∧K (.val (.ref x)) pl'):PCall w D (.ref C) ps pl K:=⟨fun F l us hps hl=>⟨fun X m hX s Q S q=>by
 refine call_cls S.F X.X S.N hm hi hf fun x dx h' F' N' l1 l2=>?_
 have hX1:1≤X.D:=Nat.le_trans (Nat.le_add_left 1 D') (Nat.le_trans hD hX)
 have h1:=room_d hX1 X.hd
 have h2:X.un+1+10*(X.D - 1)<cLine:=Nat.lt_of_le_of_lt (Nat.add_le_add_right (Nat.add_le_add_left (by decide) _) _) (room_u hX1 X.hu)
 have e:X.A.under (.builtin "type.__call__" ⟨.ref C::us,[]⟩)=Cx.A { X with dp:=X.dp+1,un:=X.un+1,D:=X.D - 1,hd:=h1,hu:=h2 }:=under_cls X.A
 rw [e]
 refine codeAny_mono (c x dx F _ (.ref x::us) (.cons .val hps) hl.raw.raw { X with dp:=X.dp+1,un:=X.un+1,D:=X.D - 1,hd:=h1,hu:=h2 } m (Nat.le_sub_one_of_lt (Nat.lt_of_lt_of_le (Nat.lt_of_succ_le hD) hX)) { s with heap:=h' } (fun v s'=>v= .none∧Q (.ref x) s') ⟨F',N',?_⟩ ?_) fun r s' h=>?_
 ·exact List.pairwise_cons.mpr ⟨fun p hp=>(List.mem_cons.mp hp).elim (fun e=>e▸Nat.ne_of_gt l2) fun hp=>Nat.ne_of_gt (Nat.lt_trans (l1 p hp) l2),List.pairwise_cons.mpr ⟨fun p hp=>Nat.ne_of_gt (l1 p hp),S.D⟩⟩
 ·rintro v l' h'' tk' ⟨p,pl',F1,a,b,u,rfl,k⟩ S'
  exact ⟨a.noneI,q _ l' h'' tk' ⟨.val (.ref x),pl',F1,.val,b,u,k⟩ ⟨S'.F,S'.N,S'.D⟩⟩
 ·match r,h with
  | .ok (.ret _),h=>exact h
  | .error _,h=>exact h⟩⟩
theorem PSt.new {C x dx:Addr} {r:PL} {nm:Str} {es:List DictEntry} {es':Tok→Value→List DictEntry} {k k':Nat} {p:P} {K:PL→Prop} (ok:SetA w C nm) (hl:(getL nm es).isSome=true) (e:∀ t v,(putL nm (PyData.keyHash w.params nm) (.str nm t) v es,putN nm es k)=(es' t v,k')) (hz:∀ t v,(es' t v).length≤1000)
  (hp:List.Perm pl ((x,.raw (instObj C dx))::(dx,.raw (dictOf es k))::r)) (q:∀ t v,(∀ u,p= .val u→v=u)→K ((x,.raw (instObj C dx))::(dx,.raw (dictOf (es' t v) k'))::r)):PSt w D (.val (.ref x)) nm p pl K:=⟨fun F l u v hu hv hl'=>by
 rw [hu.valI]
 obtain ⟨m,p1,p2⟩:=hl'.two hp
 exact OP.perm p1 (OP.setI ok hl (fun t=>e t v) (fun t=>hz t v) fun t=>⟨_,F,p2 _ _,fun zq h=>h,q t v fun u e=>by subst e;exact hv.valI⟩)⟩
set_option tactic.hygienic true
end
section
variable {w:World} {D:Nat} {pl:PL} {K:KP}
set_option tactic.hygienic false
theorem setA (w:World):(∀ nm,nm∈[Str.ofString "default",Str.ofString "starts",Str.ofString "values"]→SetA w 311 nm)∧∀ nm,nm∈[Str.ofString "defaults",Str.ofString "maps",Str.ofString "properties",Str.ofString "words"]→SetA w 367 nm:=by
 have h1:([Str.ofString "default",Str.ofString "starts",Str.ofString "values"].all fun nm=>decide (takerIn (KF10 w) 311 nm=some none))=true:=by kernel_rfl
 have h2:([Str.ofString "defaults",Str.ofString "maps",Str.ofString "properties",Str.ofString "words"].all fun nm=>decide (takerIn (KF10 w) 367 nm=some none))=true:=by kernel_rfl
 exact ⟨fun nm h=>⟨by kernel_rfl,by kernel_rfl,of_decide_eq_true (List.all_eq_true.mp h1 nm h),by kernel_rfl⟩,fun nm h=>⟨by kernel_rfl,by kernel_rfl,of_decide_eq_true (List.all_eq_true.mp h2 nm h),by kernel_rfl⟩⟩
noncomputable def ns_282:List Str:=[Str.ofString "default",Str.ofString "self"]
noncomputable def k_282:Ss:=(.cons (.asgA (.v 1) (Str.ofString "default") (.v 0)) (.cons (.asgA (.v 1) (Str.ofString "starts") (.lst (.cons (.k (.int 0)) .nil))) (.cons (.asgA (.v 1) (Str.ofString "values") (.lst (.cons (.v 0) .nil))) .nil)))
noncomputable abbrev de1 (w:World) (t:Tok) (d:Value):DictEntry:=⟨PyData.keyHash w.params (Str.ofString "default"),.str (Str.ofString "default") t,d⟩
noncomputable abbrev de2 (w:World) (t:Tok) (d:Value):DictEntry:=⟨PyData.keyHash w.params (Str.ofString "starts"),.str (Str.ofString "starts") t,d⟩
theorem PCall.rnew {p:P} (hD:15≤D) (k:∀ x dx ls lv d t1 t2 t3,K (.val (.ref x)) ((x,.raw (instObj 311 dx))::(dx,.raw (dictOf (rmD w t1 t2 t3 d ls lv) 3))::(ls,intsP [0])::(lv,.list [p])::pl)):PCall w D (.ref 311) [p] pl K:=by
 refine PCall.cls (f:=282) (D':=10) (by kernel_rfl) (by kernel_rfl) (by kernel_rfl) (Nat.le_trans (by decide) hD) fun x dx=>?_
 refine PNc.of (D:=9) ns_282 [] k_282 [some 1,some 0] [] [] [some p,some (.val (.ref x))] ⟨by kernel_rfl,by kernel_rfl⟩ (fun zq zq=>BndR.eq (by kernel_rfl) (by kernel_rfl)) (fun zq=>.nil) rfl fun I hI=>?_
 refine PSt.new (C:=311) (es':=fun t v=>[de1 w t v]) (k':=1) ((setA w).1 _ (.head _)) (by kernel_rfl) (fun zq zq=>rfl) (fun zq zq=>Nat.le_of_ble_eq_true rfl) (.refl _) fun t1 d zq ls=>?_
 refine PSt.new (C:=311) (es':=fun t v=>[de1 w t1 d,de2 w t v]) (k':=2) ((setA w).1 _ (.tail _ (.head _))) (by kernel_rfl) (fun zq zq=>rfl) (fun zq zq=>Nat.le_of_ble_eq_true rfl) (List.perm_middle (l₁:=[_,_])).symm fun t2 v2 e2 lv=>?_
 refine PSt.new (C:=311) (es':=fun t v=>[de1 w t1 d,de2 w t2 v2,⟨PyData.keyHash w.params (Str.ofString "values"),.str (Str.ofString "values") t,v⟩]) (k':=3) ((setA w).1 _ (.tail _ (.tail _ (.head _)))) (by kernel_rfl) (fun zq zq=>rfl) (fun zq zq=>Nat.le_of_ble_eq_true rfl) (List.perm_middle (l₁:=[_,_])).symm fun t3 v3 e3=>?_
 rw [e2 _ rfl,e3 _ rfl]
 exact ⟨_,⟨[],by rw [List.append_nil];exact .cons _ (.cons _ (.swap _ _ _))⟩,rfl,k x dx ls lv d t1 t2 t3⟩
noncomputable def ns_343:List Str:=[Str.ofString "self"]
noncomputable def rawN (w:World) (f:Addr) (i:Nat):Expr:=match (fnBody (fnRec w f))[i]? with
 |some (.Assign _ e _)=>e
 |_=>.Constant .none 0 ⟨0,0,0,0⟩
noncomputable def k_343 (w:World):Ss:=(.cons (.asgA (.v 0) (Str.ofString "defaults") (.call (.g (.ref 329)) .nil)) (.cons (.asgA (.v 0) (Str.ofString "maps") (.raw (rawN w 343 1))) (.cons (.asgA (.v 0) (Str.ofString "properties") (.raw (rawN w 343 2))) (.cons (.asgA (.v 0) (Str.ofString "words") (.raw (rawN w 343 3))) .nil))))
noncomputable abbrev dn (w:World) (nm:Str) (t:Tok) (d:Value):DictEntry:=⟨PyData.keyHash w.params nm,.str nm t,d⟩
inductive NewDP (w:World) (pl:PL) (K:KP):Prop
 |mk (k:∀ x dx dd dm dp dw t1 t2 t3 t4 od om dk,od.IsDictOf (PySem.strKind PG w) dk→DefOK dk→(dd==sysModules)=false→om.IsDictOf (PySem.strKind PG w) ([]:List (Str×Value))→(dm==sysModules)=false→K (.val (.ref x)) ((x,.raw (instObj 367 dx))::(dx,.raw (dictOf (daD w t1 t2 t3 t4 dd dm dp dw) 4))::(dd,.raw od)::(dm,.raw om)::pl))
theorem PCall.dnew0 (hD:30≤D) (k:NewDP w pl K):PCall w D (.ref 367) [] pl K:=by
 refine PCall.cls (f:=343) (D':=20) (by kernel_rfl) (by kernel_rfl) (by kernel_rfl) (Nat.le_trans (by decide) hD) fun x dx=>?_
 refine PNc.of (D:=19) ns_343 [] (k_343 w) [some 0] [] [] [some (.val (.ref x))] ⟨by kernel_rfl,by kernel_rfl⟩ (fun zq=>BndR.eq (by kernel_rfl) (by kernel_rfl)) (fun zq=>.nil) rfl fun I hI=>?_
 refine PN.call (n_defaults w) (Nat.le_trans (by decide) (Nat.le_of_eq hI.symm)) (.refl _) ?_
 rintro _ _ ⟨dd,od,dk,rfl,rfl,hd,df,ld⟩
 refine PSt.new (C:=367) (es':=fun t v=>[dn w (Str.ofString "defaults") t v]) (k':=1) ((setA w).2 _ (.head _)) (by kernel_rfl) (fun zq zq=>rfl) (fun zq zq=>Nat.le_of_ble_eq_true rfl) (List.perm_middle (l₁:=[_,_])).symm fun t1 v1 e1=>?_
 refine PRw.none fun dm om hm lm=>PSt.new (C:=367) (es':=fun t v=>[dn w (Str.ofString "defaults") t1 v1,dn w (Str.ofString "maps") t v]) (k':=2) ((setA w).2 _ (.tail _ (.head _))) (by kernel_rfl) (fun zq zq=>rfl) (fun zq zq=>Nat.le_of_ble_eq_true rfl) (List.perm_middle (l₁:=[_,_])).symm fun t2 v2 e2=>?_
 refine PRw.none fun dp zq zq zq=>PSt.new (C:=367) (es':=fun t v=>[dn w (Str.ofString "defaults") t1 v1,dn w (Str.ofString "maps") t2 v2,dn w (Str.ofString "properties") t v]) (k':=3) ((setA w).2 _ (.tail _ (.tail _ (.head _)))) (by kernel_rfl) (fun zq zq=>rfl) (fun zq zq=>Nat.le_of_ble_eq_true rfl) (List.perm_middle (l₁:=[_,_])).symm fun t3 v3 e3=>?_
 refine PRw.none fun dw zq zq zq=>PSt.new (C:=367) (es':=fun t v=>[dn w (Str.ofString "defaults") t1 v1,dn w (Str.ofString "maps") t2 v2,dn w (Str.ofString "properties") t3 v3,dn w (Str.ofString "words") t v]) (k':=4) ((setA w).2 _ (.tail _ (.tail _ (.tail _ (.head _))))) (by kernel_rfl) (fun zq zq=>rfl) (fun zq zq=>Nat.le_of_ble_eq_true rfl) (List.perm_middle (l₁:=[_,_])).symm fun t4 v4 e4=>?_
 rw [e1 _ rfl,e2 _ rfl,e3 _ rfl,e4 _ rfl]
 exact ⟨_,.take (pre:=[]) (.take (pre:=[]) (.take (pre:=[_,_,_]) (.take (pre:=[_,_]) (.right (r:=[_,_]))))),rfl,k.1 x dx dd dm dp dw t1 t2 t3 t4 od om dk hd df ld hm lm⟩
set_option tactic.hygienic true
end
end
section
set_option tactic.hygienic false
noncomputable def ns_111:List Str:=[Str.ofString "number",Str.ofString "found",Str.ofString "rest"]
noncomputable def k_111:Ss:=(.cons (.asg 1 (.lst (.cons (.bin .Add (.k (.int 48)) (.bin .Mod (.v 0) (.k (.int 10)))) .nil))) (.cons (.asg 2 (.bin .FloorDiv (.v 0) (.k (.int 10)))) (.cons (.whl (.cmp .Gt (.v 2) (.k (.int 0))) (.cons (.ex (.meth (.v 1) (Str.ofString "append") (.cons (.bin .Add (.k (.int 48)) (.bin .Mod (.v 2) (.k (.int 10)))) .nil))) (.cons (.asg 2 (.bin .FloorDiv (.v 2) (.k (.int 10)))) .nil))) (.cons (.ret (.call (.g (.type "bytes")) (.cons (.stp (.v 1) (.un .USub (.k (.int 1)))) .nil))) .nil))))
noncomputable def ns_118:List Str:=[Str.ofString "number",Str.ofString "firsts",Str.ofString "low",Str.ofString "high",Str.ofString "middle"]
noncomputable def k_118:Ss:=(.cons (.asg 2 (.k (.int 0))) (.cons (.asg 3 (.call (.g (.builtin "len")) (.cons (.v 1) .nil))) (.cons (.whl (.cmp .Lt (.v 2) (.v 3)) (.cons (.asg 4 (.bin .FloorDiv (.bin .Add (.v 2) (.v 3)) (.k (.int 2)))) (.cons (.ife (.cmp .LtE (.sub (.v 1) (.v 4)) (.v 0)) (.cons (.asg 2 (.bin .Add (.v 4) (.k (.int 1)))) .nil) (.cons (.asg 3 (.v 4)) .nil)) .nil))) (.cons (.ret (.bin .Sub (.v 2) (.k (.int 1)))) .nil))))
noncomputable def ns_438:List Str:=[Str.ofString "code",Str.ofString "told"]
noncomputable def k_438:Ss:=(.cons (.asg 1 (.k (.str (Str.ofString "")))) (.cons (.whl (.bool .Or (.cons (.cmp .Gt (.v 0) (.k (.int 0))) (.cons (.cmp .Lt (.call (.g (.builtin "len")) (.cons (.v 1) .nil)) (.k (.int 4))) .nil))) (.cons (.asg 1 (.bin .Add (.sub (.k (.str (Str.ofString "0123456789ABCDEF"))) (.bin .Mod (.v 0) (.k (.int 16)))) (.v 1))) (.cons (.asg 0 (.bin .FloorDiv (.v 0) (.k (.int 16)))) .nil))) (.cons (.ret (.v 1)) .nil)))
noncomputable def ns_212:List Str:=[Str.ofString "last",Str.ofString "first"]
noncomputable def k_212:Ss:=(.cons (.ret (.ife (.cmp .Eq (.v 1) (.v 0)) (.call (.g (.ref 90)) (.cons (.v 1) .nil)) (.bin .Add (.bin .Add (.call (.g (.ref 90)) (.cons (.v 1) .nil)) (.k (.bytes [46,46]))) (.call (.g (.ref 90)) (.cons (.v 0) .nil))))) .nil)
noncomputable def ns_239:List Str:=[Str.ofString "told",Str.ofString "codes"]
noncomputable def k_239:Ss:=(.cons (.ife (.cmp .Is (.v 0) (.k .none)) (.cons (.ret (.k (.bytes []))) .nil) .nil) (.cons (.asg 1 (.meth (.k (.bytes [32])) (Str.ofString "join") (.cons (.comp (.call (.g (.ref 90)) (.cons (.v 0) .nil)) (.sub (.v 0) (.k (.int 1))) []) .nil))) (.cons (.ret (.ife (.cmp .Eq (.sub (.v 0) (.k (.int 0))) (.k (.str (Str.ofString "")))) (.v 1) (.bin .Add (.bin .Add (.bin .Add (.k (.bytes [60])) (.call (.g (.ref 78)) (.cons (.sub (.v 0) (.k (.int 0))) .nil))) (.k (.bytes [62,32]))) (.v 1)))) .nil)))
noncomputable def ns_253:List Str:=[Str.ofString "code"]
noncomputable def k_253:Ss:=(.cons (.ret (.ife (.cmp .Is (.v 0) (.k .none)) (.k (.bytes [])) (.call (.g (.ref 90)) (.cons (.v 0) .nil)))) .nil)
noncomputable def ns_445:List Str:=[Str.ofString "code"]
noncomputable def k_445:Ss:=(.cons (.ret (.ife (.cmp .Is (.v 0) (.k .none)) (.k (.str (Str.ofString ""))) (.call (.g (.ref 438)) (.cons (.v 0) .nil)))) .nil)
noncomputable def ns_450:List Str:=[Str.ofString "told"]
noncomputable def k_450:Ss:=(.cons (.ife (.cmp .Is (.v 0) (.k .none)) (.cons (.ret (.k (.str (Str.ofString "")))) .nil) .nil) (.cons (.ret (.bin .Add (.ife (.cmp .NotEq (.sub (.v 0) (.k (.int 0))) (.k (.str (Str.ofString "")))) (.bin .Add (.bin .Add (.k (.str (Str.ofString "<"))) (.sub (.v 0) (.k (.int 0)))) (.k (.str (Str.ofString "> ")))) (.k (.str (Str.ofString "")))) (.meth (.k (.str (Str.ofString " "))) (Str.ofString "join") (.cons (.comp (.call (.g (.ref 438)) (.cons (.v 0) .nil)) (.sub (.v 0) (.k (.int 1))) []) .nil)))) .nil))
noncomputable def ns_472:List Str:=[Str.ofString "word",Str.ofString "last",Str.ofString "first",Str.ofString "told"]
noncomputable def k_472:Ss:=(.cons (.asg 3 (.bin .Add (.bin .Add (.bin .Add (.call (.g (.ref 438)) (.cons (.v 2) .nil)) (.ife (.cmp .NotEq (.v 2) (.v 1)) (.bin .Add (.k (.str (Str.ofString ".."))) (.call (.g (.ref 438)) (.cons (.v 1) .nil))) (.k (.str (Str.ofString ""))))) (.k (.str (Str.ofString " ; ")))) (.v 0))) (.cons (.ret (.bin .Add (.call (.g (.type "bytes")) (.cons (.comp (.call (.g (.builtin "ord")) (.cons (.v 0) .nil)) (.v 3) []) .nil)) (.k (.bytes [10])))) .nil))
set_option tactic.hygienic true
section
variable {w:World} {D:Nat} {pl:PL} {K:KP}
set_option tactic.hygienic false
theorem PCall.hex {n:Int} (hD:10≤D) (h0:0≤n) (h1:n<2097152) (k:K (.bytes (hexB n)) pl):PCall w D (.ref 90) [.int n] pl K:=by
 refine PN.call (n_hex w h0 h1) hD (.refl _) ?_
 rintro p pl ⟨rfl,rfl⟩
 exact k
set_option tactic.hygienic true
theorem PCall.lenS {z:Str} (hz:z.length≤16777216) (k:K (.int z.length) pl):PCall w D (.builtin "len") [.str z] pl K:=⟨fun F l us hps hl=>by
 obtain ⟨_,rfl,a⟩:=hps.one
 obtain ⟨t,rfl⟩:=a.strI
 refine ⟨fun C m hD s Q St q=>?_⟩
 rcases C with ⟨mean,mg,mb,dp,un,gd,cn,cs,a,ccd,cl,outer,A₀,base,h₀,L,B,X,T,hk,D,hd,hu,hid⟩
 rcases St with ⟨F,N,P⟩
 dsimp only at F N P q
 show wpAny _ (ktrTop dp un gd cn cs L a ccd cl outer) _ _ _ _
 k_steps
 rename Fr _ _ _ _=>F9
 rename News _ _ _ _=>N9
 exact q _ _ _ _ (liftK.mk .int hl k) ⟨F9,N9,P⟩⟩
set_option tactic.hygienic false
theorem PSb.strAt {z:Str} {i:Int} {n:Nat} {y:Str} (hk:z.length=n) (h0:0≤i) (h1:i<n) (hn:n≤16777216) (e:Txt.item z i=y) (k:K (.str y) pl):PSb w D (.str z) (.int i) pl K:=⟨fun F l x u hx hu hl=>by
 obtain ⟨_,rfl⟩:=hx.strI
 obtain ⟨_,rfl⟩:=hu.intI
 subst e
 exact ⟨fun C zq zq s zq S q=>KXi.item hk (by omega) h1 hn (fun zq=>q _ l s.heap _ (liftK.mk .str hl k) ⟨S.F,S.N,S.D⟩) (by with_unfolding_all rfl) (fun zq=>rfl)⟩⟩
set_option tactic.hygienic true
end
set_option tactic.hygienic false
theorem hexs_at:∀ i:Fin 16,Txt.item (Str.ofString "0123456789ABCDEF") (i.val:Int)=⟨#[(hdig (i.val:Int)).toNat]⟩:=by decide+kernel
theorem strOf_snoc' (ds:List Int) (d:Int):(⟨#[d.toNat]⟩:Str)++strOf ds=strOf (ds++[d]):=by
 show (⟨#[d.toNat]++((ds.reverse.map Int.toNat).toArray)⟩:Str)=_
 unfold strOf
 simp
inductive J438 (n:Int) (f:Nat) (vs:PVs) (pl:PL):Prop
 |mk (ds:List Int) (r:Int) (hv:vs=[some (.int r),some (.str (strOf ds))]) (hl:pl=[]) (j:HexJ n f ds r)
theorem n_lhex (w:World) {n:Int} (h0:0≤n) (h1:n<2097152):PN w 438 [.int n] 10 [] fun p pl=>p= .str (hexS n)∧pl=[]:=by
 refine PN.of (D:=9) ns_438 [] k_438 [some 0,none] [] [] [some (.int n),none] ⟨by kernel_rfl,by kernel_rfl⟩ (fun zq=>BndR.eq (by kernel_rfl) (by kernel_rfl)) (fun zq=>.nil) rfl fun I hI=>?_
 refine PWh.inv (J438 n) ⟨8,.mk [] n rfl rfl (.start h0 h1)⟩ ?_
 rintro f vs pl ⟨ds,r,rfl,rfl,j⟩
 have lz:ds.length≤8:=by have:=j.l;omega
 have up:(strOf ds).length≤16777216:=Nat.le_trans (Nat.le_of_eq (strOf_len ds)) (Nat.le_trans lz (by decide))
 have turn:(0<r∨ds.length<4)→PSs w I (match k_438 with| .cons _ (.cons (.whl _ b) _)=>b|_=>.nil) [some (.int r),some (.str (strOf ds))] [] (pTurnW w fun vs pl=>∃ m,m<f∧J438 n m vs pl):=fun h=>by
  obtain ⟨f',hf,j'⟩:=j.turn h
  obtain ⟨i,hi⟩:=mod16 r
  have l0:=Int.emod_nonneg r (by decide:(16:Int)≠0)
  have l1:=Int.emod_lt_of_pos r (by decide:(0:Int)<16)
  have rb:r<68719476736:=Int.lt_trans j.h1 (Int.pow_lt_pow_of_lt (c:=9) (by decide) (by have:=j.l;omega))
  refine PB.mod (by decide) (PSb.strAt (n:=16) (y:=⟨#[(hdig (r % 16)).toNat]⟩) (by decide+kernel) l0 l1 (by decide) (by rw [hi];exact hexs_at i) (PB.str (Nat.le_trans (Nat.add_le_add_left (Nat.le_trans (Nat.le_of_eq (strOf_len ds)) lz) _) (by show 1+8≤16777216;decide)) (PB.floordiv (by decide) (by decide) j.h0 rb ⟨_,_,.refl,f',hf,.mk _ _ (by rw [strOf_snoc'];rfl) rfl j'⟩)))
 have ln:(strOf ds).length=ds.length:=strOf_len ds
 refine por (fun h=>turn (.inl h)) fun h=>PCall.lenS up ?_
 rw [ln]
 refine pwhl (fun h'=>turn (.inr (by omega))) fun h'=>⟨_,.nil,?_,rfl⟩
 rw [j.fin h (by omega)];rfl
theorem pwhlT {A:KPB→Prop} {W E:PL→Prop} {c:Prop} [Decidable c] {pl:PL} (e:A=fun K=>K (decide c) pl) (h1:c→W pl) (h2: ¬c→E pl):A (pWhl W E):=by
 rw [e]
 exact pwhl h1 h2
structure DecJ (n:Int) (f:Nat) (ds:List Int) (r:Int):Prop where
 e:ds++ddg f r=(48+n % 10)::ddg 9 (n / 10)
 h0:0≤r
 h1:r<10 ^ f
 l:ds.length+f=10
 f9:f≤9
 d:∀ x∈ds,0≤x∧x<256
theorem dig10 (r:Int):0≤48+r % 10∧48+r % 10<256:=by
 have l0:=Int.emod_nonneg r (by decide:(10:Int)≠0)
 have l1:=Int.emod_lt_of_pos r (by decide:(0:Int)<10)
 omega
theorem DecJ.start {n:Int} (h0:0≤n) (h1:n<2097152):DecJ n 9 [48+n % 10] (n / 10):=⟨rfl,Int.ediv_nonneg h0 (by decide),Int.ediv_lt_of_lt_mul (by decide) (Int.lt_trans h1 (by decide)),rfl,Nat.le_refl _,fun x hx=>by rw [List.mem_singleton.mp hx];exact dig10 n⟩
theorem DecJ.turn {n r:Int} {f:Nat} {ds:List Int} (j:DecJ n f ds r) (h:0<r):∃ f',f'<f∧DecJ n f' (ds++[48+r % 10]) (r / 10):=by
 obtain ⟨e,h0,h1,l,f9,d⟩:=j
 cases f with
 |zero=>exact absurd h1 (Int.not_lt.mpr h)
 |succ f=>
  refine ⟨f,Nat.lt_succ_self _,?_,Int.ediv_nonneg h0 (by decide),Int.ediv_lt_of_lt_mul (by decide) (by rw [←Int.pow_succ];exact h1),?_,Nat.le_of_succ_le f9,fun x hx=>?_⟩
  ·rw [←e,List.append_assoc]
   show _=ds++(if 0<r then (48+r % 10)::ddg f (r / 10) else [])
   rw [if_pos h]
   rfl
  ·rw [List.length_append,List.length_singleton];omega
  ·rcases List.mem_append.mp hx with hx|hx
   ·exact d x hx
   ·rw [List.mem_singleton.mp hx];exact dig10 r
theorem DecJ.fin {n r:Int} {f:Nat} {ds:List Int} (j:DecJ n f ds r) (h: ¬0<r):ds=(48+n % 10)::ddg 9 (n / 10):=by
 have e:=j.e
 cases f with
 |zero=>exact (List.append_nil ds).symm.trans e
 |succ f=>
  have z:ddg (f+1) r=[]:=if_neg h
  rw [z,List.append_nil] at e
  exact e
inductive J111 (n:Int) (a:Addr) (f:Nat) (vs:PVs) (pl:PL):Prop
 |mk (ds:List Int) (r:Int) (hv:vs=[some (.int n),some (.val (.ref a)),some (.int r)]) (hl:pl=[(a,intsP ds)]) (j:DecJ n f ds r)
theorem n_dec (w:World) {n:Int} (h0:0≤n) (h1:n<2097152):PN w 111 [.int n] 10 [] fun p pl=>p= .bytes (decB n)∧pl=[]:=by
 refine PN.of (D:=9) ns_111 [] k_111 [some 0,none,none] [] [] [some (.int n),none,none] ⟨by kernel_rfl,by kernel_rfl⟩ (fun zq=>BndR.eq (by kernel_rfl) (by kernel_rfl)) (fun zq=>.nil) rfl fun I hI=>?_
 refine PB.mod (by decide) fun a=>PB.floordiv (by decide) (by decide) h0 (Int.lt_trans h1 (by decide)) (PWh.inv (J111 n a) ⟨9,.mk [48+n % 10] (n / 10) rfl rfl (.start h0 h1)⟩ ?_)
 rintro f vs pl ⟨ds,r,rfl,rfl,j⟩
 have lz:ds.length≤10:=by have:=j.l;omega
 have up:(ds.map P.int).length≤16777216:=by rw [List.length_map];exact Nat.le_trans lz (by decide)
 refine pwhlT (c:=r>0) rfl (fun h=>?_) fun h=>?_
 ·obtain ⟨f',hf,j'⟩:=j.turn h
  have rb:r<68719476736:=Int.lt_trans j.h1 (Int.lt_trans (Int.pow_lt_pow_of_lt (c:=10) (by decide) (Nat.lt_succ_of_le j.f9)) (by decide))
  exact PMe.append (.head _) (PB.mod (by decide) (PCall.append (pre:=[]) up (PB.floordiv (by decide) (by decide) j.h0 rb ⟨_,_,.refl,f',hf,.mk _ _ rfl (by unfold intsP;rw [List.map_append];rfl) j'⟩)))
 ·refine PRv.list (.head _) up fun c=>?_
  rw [←List.map_reverse]
  refine PCall.bytesV (.head _) (fun x hx=>j.d x (List.mem_reverse.mp hx)) (by rw [List.length_reverse];exact Nat.le_trans lz (by decide)) ⟨_,.nil,?_,rfl⟩
  rw [j.fin h];rfl
inductive J118 (n:Int) (l:Addr) (ns:List Int) (f:Nat) (vs:PVs) (pl:PL):Prop
 |mk (x y:Nat) (o:Option P) (hv:vs=[some (.int n),some (.val (.ref l)),some (.int x),some (.int y),o]) (hl:pl=[(l,intsP ns)]) (h1:x≤cnt ns n) (h2:cnt ns n≤y) (h3:y≤ns.length) (hf:f=y - x)
theorem half {x y:Nat} (h:x<y):x≤(x+y) / 2∧(x+y) / 2<y:=by omega
theorem n_place (w:World) {l:Addr} {ns:List Int} {n:Int} (hz:ns.length≤100000) (hs:ns.Pairwise (· < ·)):PN w 118 [.val (.ref l),.int n] 10 [(l,intsP ns)] fun p pl=>p= .int ((cnt ns n:Nat) - 1)∧pl=[(l,intsP ns)]:=by
 refine PN.of (D:=9) ns_118 [] k_118 [some 1,some 0,none,none,none] [] [] [some (.int n),some (.val (.ref l)),none,none,none] ⟨by kernel_rfl,by kernel_rfl⟩ (fun zq zq=>BndR.eq (by kernel_rfl) (by kernel_rfl)) (fun zq=>.nil) rfl fun I hI=>?_
 have up:(ns.map P.int).length≤16777216:=by rw [List.length_map];exact Nat.le_trans hz (by decide)
 refine PCall.len (.head _) up ?_
 rw [List.length_map]
 refine PWh.inv (J118 n l ns) ⟨_,.mk 0 ns.length none rfl rfl (Nat.zero_le _) (cnt_le _ _) (Nat.le_refl _) rfl⟩ ?_
 rintro f vs pl ⟨x,y,o,rfl,rfl,h1,h2,h3,rfl⟩
 refine pwhlT (c:=(x:Int)<y) rfl (fun h=>?_) fun h=>?_
 ·have hxy:=Int.ofNat_lt.mp h
  obtain ⟨m1,m2⟩:=half hxy
  have em:((x:Int)+y) / 2=(((x+y) / 2:Nat):Int):=rfl
  refine PB.floordiv (by decide) (by decide) (Int.natCast_nonneg (x+y)) (by omega) ?_
  rw [em]
  generalize (x+y) / 2=m at *
  have hm:m<ns.length:=Nat.lt_of_lt_of_le m2 h3
  have hg:=List.getElem?_eq_getElem hm
  have he:(ns.map P.int)[(m:Int).toNat]? =some (.int ns[m]):=by rw [Int.toNat_natCast,List.getElem?_map,hg];rfl
  refine PSb.item (.head _) (Int.natCast_nonneg m) he up (pif (fun hq=>?_) fun hq=>?_)
  ·exact ⟨_,_,.refl,y - (m+1),by omega,.mk (m+1) y _ rfl rfl (place_ge hs hg hq) h2 h3 rfl⟩
  ·exact ⟨_,_,.refl,m - x,by omega,.mk x m _ rfl rfl h1 (place_le hs hg hq) (Nat.le_of_lt hm) rfl⟩
 ·have e:x=cnt ns n:=by omega
  exact ⟨_,.refl,by rw [e],rfl⟩
theorem n_ucode (w:World) {o:Option Int} (hb:∀ n,o=some n→0≤n∧n<2097152):PN w 253 [optP o] 15 [] fun p pl=>p= .bytes (ucB o)∧pl=[]:=by
 refine PN.of (D:=14) ns_253 [] k_253 [some 0] [] [] [some (optP o)] ⟨by kernel_rfl,by kernel_rfl⟩ (fun zq=>BndR.eq (by kernel_rfl) (by kernel_rfl)) (fun zq=>.nil) rfl fun I hI=>?_
 cases o with
 |none=>exact ⟨_,.nil,rfl,rfl⟩
 |some n=>exact PCall.hex (Nat.le_trans (by decide) (Nat.le_of_eq hI.symm)) (hb n rfl).1 (hb n rfl).2 ⟨_,.nil,rfl,rfl⟩
theorem n_rngo (w:World) {a b:Int} (h1:0≤a) (h2:a<2097152) (h3:0≤b) (h4:b<2097152):PN w 212 [.int a,.int b] 15 [] fun p pl=>p= .bytes (rngB a b)∧pl=[]:=by
 refine PN.of (D:=14) ns_212 [] k_212 [some 1,some 0] [] [] [some (.int b),some (.int a)] ⟨by kernel_rfl,by kernel_rfl⟩ (fun zq zq=>BndR.eq (by kernel_rfl) (by kernel_rfl)) (fun zq=>.nil) rfl fun I hI=>?_
 have d10:10≤I.D:=Nat.le_trans (by decide) (Nat.le_of_eq hI.symm)
 have za:=hexB_size a
 have zb:=hexB_size b
 unfold rngB
 refine pif (fun e=>?_) fun e=>?_
 ·exact PCall.hex d10 h1 h2 ⟨_,.nil,by rw [if_pos e],rfl⟩
 ·have z2:(hexB a++#[46,46]).size≤10:=by rw [Array.size_append];exact Nat.add_le_add_right za 2
  exact PCall.hex d10 h1 h2 (PB.bytes (Nat.le_trans (Nat.add_le_add_right za 2) (by decide)) (PCall.hex d10 h3 h4 (PB.bytes (Nat.le_trans (Nat.add_le_add z2 zb) (by decide)) ⟨_,.nil,by rw [if_neg e],rfl⟩)))
theorem n_lcode (w:World) {o:Option Int} (hb:∀ n,o=some n→0≤n∧n<2097152):PN w 445 [optP o] 15 [] fun p pl=>p= .str (codeS o)∧pl=[]:=by
 refine PN.of (D:=14) ns_445 [] k_445 [some 0] [] [] [some (optP o)] ⟨by kernel_rfl,by kernel_rfl⟩ (fun zq=>BndR.eq (by kernel_rfl) (by kernel_rfl)) (fun zq=>.nil) rfl fun I hI=>?_
 cases o with
 |none=>exact ⟨_,.nil,rfl,rfl⟩
 |some n=>
  refine PN.call (n_lhex w (hb n rfl).1 (hb n rfl).2) (Nat.le_trans (by decide) (Nat.le_of_eq hI.symm)) (.refl _) ?_
  rintro p pl ⟨rfl,rfl⟩
  exact ⟨_,.nil,rfl,rfl⟩
set_option tactic.hygienic true
section
variable {w:World} {D:Nat} {pl:PL} {K:KP}
set_option tactic.hygienic false
theorem PCall.dec {n:Int} (hD:10≤D) (h0:0≤n) (h1:n<2097152) (k:K (.bytes (decB n)) pl):PCall w D (.ref 111) [.int n] pl K:=.pn (n_dec w h0 h1) hD k
theorem PCall.rng {a b:Int} (hD:15≤D) (h1:0≤a) (h2:a<2097152) (h3:0≤b) (h4:b<2097152) (k:K (.bytes (rngB a b)) pl):PCall w D (.ref 212) [.int a,.int b] pl K:=.pn (n_rngo w h1 h2 h3 h4) hD k
theorem PCall.ucode {o:Option Int} (hD:15≤D) (hb:∀ n,o=some n→0≤n∧n<2097152) (k:K (.bytes (ucB o)) pl):PCall w D (.ref 253) [optP o] pl K:=.pn (n_ucode w hb) hD k
theorem PCall.lhex {n:Int} (hD:10≤D) (h0:0≤n) (h1:n<2097152) (k:K (.str (hexS n)) pl):PCall w D (.ref 438) [.int n] pl K:=.pn (n_lhex w h0 h1) hD k
theorem PCall.lcode {o:Option Int} (hD:15≤D) (hb:∀ n,o=some n→0≤n∧n<2097152) (k:K (.str (codeS o)) pl):PCall w D (.ref 445) [optP o] pl K:=.pn (n_lcode w hb) hD k
theorem PCall.place {l:Addr} {ns:List Int} {n:Int} (hD:10≤D) (hm:(l,intsP ns)∈pl) (hz:ns.length≤100000) (hs:ns.Pairwise (· < ·)) (k:K (.int ((cnt ns n:Nat) - 1)) pl):PCall w D (.ref 118) [.val (.ref l),.int n] pl K:=by
 obtain ⟨r1,r2,rfl⟩:=List.append_of_mem hm
 refine PN.callP (n_place w hz hs) hD (r:=r1++r2) (List.perm_middle (a:=(l,intsP ns)) (l₁:=r1) (l₂:=r2)).symm ?_
 rintro p pl' ⟨rfl,rfl⟩
 exact ⟨_,(List.perm_middle (a:=(l,intsP ns)) (l₁:=r1) (l₂:=r2)).symm,k⟩
theorem PCall.asT {w:World} {D:Nat} {pl:PL} {K:KP} {f a:Addr} {xs:List P} (h:∀ F,RV w F (.tup xs) (.ref a)) (c:PCall w D (.ref f) [.tup xs] pl K):PCall w D (.ref f) [.val (.ref a)] pl K:=⟨fun F l us hps hl=>by
 obtain ⟨_,rfl,e⟩:=hps.one
 rw [e.valI]
 exact c.go F l _ (.cons (h F) .nil) hl⟩
set_option tactic.hygienic true
end
set_option tactic.hygienic false
structure MapOK (tag:Str) (ns:List Int):Prop where
 b:∀ n∈ns,0≤n∧n<2097152
 l:ns.length≤10
 s:tag.cps.size≤100
 a:Asc tag
noncomputable def mapT:Option (Str×List Int)→P
 |none=>.none
 |some (tag,ns)=>.tup [.str tag,.tup (ns.map P.int)]
set_option tactic.hygienic true
theorem map_p {w:World} {q:PV} {sp:Option (Str×List Int)} (h:∀ v,IsV v q→MapV w v sp):(∀ x,sp=some x→MapOK x.1 x.2)∧((pvP q= .none∧sp=none)∨∃ a tag ns,sp=some (tag,ns)∧q= .ref a∧∀ F,RV w F (.tup [.str tag,.tup (ns.map P.int)]) (.ref a)):=by
 obtain ⟨v,hv⟩:=pv_some q
 have k:=h v hv
 cases k<;>cases hv
 ·exact ⟨(fun x h=>nomatch h),.inl ⟨rfl,rfl⟩⟩
 ·rename_i T1 T2 iv hb hl hs ha
  exact ⟨fun x h=>by cases h;exact ⟨hb,hl,hs,ha⟩,.inr ⟨_,_,_,rfl,rfl,fun F=>.tupK (.cons .str (.cons (.tupK (ints_in iv) T2) .nil)) T1⟩⟩
set_option tactic.hygienic false
theorem PCall.map {w:World} {D:Nat} {pl:PL} {K:KP} {f:Addr} {q:PV} {sp:Option (Str×List Int)} (h:∀ v,IsV v q→MapV w v sp) (c:(∀ x,sp=some x→MapOK x.1 x.2)→PCall w D (.ref f) [mapT sp] pl K):PCall w D (.ref f) [pvP q] pl K:=by
 obtain ⟨b,⟨e,rfl⟩|⟨a,tag,ns,rfl,rfl,T⟩⟩:=map_p h
 ·rw [e];exact c b
 ·exact .asT T (c b)
theorem n_umap (w:World) {sp:Option (Str×List Int)} (hb:∀ x,sp=some x→MapOK x.1 x.2):PN w 239 [mapT sp] 20 [] fun p pl=>p= .bytes (mapB sp)∧pl=[]:=by
 refine PN.of (D:=19) ns_239 [] k_239 [some 0,none] [] [] [some (mapT sp),none] ⟨by kernel_rfl,by kernel_rfl⟩ (fun zq=>BndR.eq (by kernel_rfl) (by kernel_rfl)) (fun zq=>.nil) rfl fun I hI=>?_
 cases sp with
 |none=>exact ⟨_,.nil,rfl,rfl⟩
 |some x=>
  obtain ⟨tag,ns⟩:=x
  have ⟨b,l,s,a⟩:MapOK tag ns:=hb _ rfl
  have lz:(ns.map hexB).length≤10:=Nat.le_trans (Nat.le_of_eq (List.length_map _)) l
  have fz:RB.foldSize #[32] (ns.map hexB)≤90:=Nat.le_trans (foldSize_le (K:=8) fun x hx=>by obtain ⟨n,_,rfl⟩:=List.mem_map.mp hx;exact hexB_size n) (Nat.mul_le_mul_left 9 (lz:(ns.map hexB).length≤10))
  have jz:(joinB #[32] (ns.map hexB)).size≤90:=Nat.le_trans joinB_size fz
  have ez:(encA tag).size≤100:=by rw [encA_size];exact s
  refine PMe.joinB (PCp.each (xs:=ns.map P.int) (ys:=(ns.map hexB).map P.bytes) rfl (by rw [List.length_map,List.length_map,List.length_map]) (by rw [List.length_map];exact Nat.le_trans l (by decide)) (fun i y z hy hz K2 k2=>?_) (.inl (PCall.joinBL (Nat.le_trans fz (by decide)) ?_)))
  ·obtain ⟨n,hn,rfl⟩:=map_at hy
   rw [List.getElem?_map,List.getElem?_map,hn] at hz
   cases hz
   have:=b n (List.mem_of_getElem? hn)
   exact PCall.hex (Nat.le_trans (by decide) (Nat.le_of_eq hI.symm)) this.1 this.2 k2
  ·refine pifB (fun h=>?_) fun h=>?_
   ·exact ⟨_,.nil,by unfold mapB;dsimp only;rw [if_pos h],rfl⟩
   ·refine PCall.enc (Nat.le_trans (by decide) (Nat.le_of_eq hI.symm)) (Nat.le_trans s (by decide)) a (PB.bytes ?_ (PB.bytes ?_ (PB.bytes ?_ ⟨_,.nil,by unfold mapB;dsimp only;rw [if_neg (by rw [h];exact Bool.false_ne_true)],rfl⟩)))
    ·exact Nat.le_trans (Nat.add_le_add_left ez 1) (by decide)
    ·rw [Array.size_append];exact Nat.le_trans (Nat.add_le_add_right (Nat.add_le_add_left ez 1) 2) (by decide)
    ·rw [Array.size_append,Array.size_append];exact Nat.le_trans (Nat.add_le_add (Nat.add_le_add_right (Nat.add_le_add_left ez 1) 2) jz) (by decide)
theorem n_lmap (w:World) {sp:Option (Str×List Int)} (hb:∀ x,sp=some x→MapOK x.1 x.2):PN w 450 [mapT sp] 20 [] fun p pl=>p= .str (mapS sp)∧pl=[]:=by
 refine PN.of (D:=19) ns_450 [] k_450 [some 0] [] [] [some (mapT sp)] ⟨by kernel_rfl,by kernel_rfl⟩ (fun zq=>BndR.eq (by kernel_rfl) (by kernel_rfl)) (fun zq=>.nil) rfl fun I hI=>?_
 cases sp with
 |none=>exact ⟨_,.nil,rfl,rfl⟩
 |some x=>
  obtain ⟨tag,ns⟩:=x
  have ⟨b,l,s,a⟩:MapOK tag ns:=hb _ rfl
  have el:∀ n,(hexS n).length≤8:=fun n=>Nat.le_trans (Nat.le_of_eq (strOf_len _)) (dg_len 8 n 0)
  have fin:∀ {z:Str},z.length≤103→PX w I.D (.meth (.k (.str (Str.ofString " "))) (Str.ofString "join") (.cons (.comp (.call (.g (.ref 438)) (.cons (.v 0) .nil)) (.sub (.v 0) (.k (.int 1))) []) .nil)) [some (mapT (some (tag,ns)))] [] fun p pl=>pBin w I.D .Add (.str z) p pl fun p pl=>pRet (fun p pl=>p= .str (z++Txt.join (Str.ofString " ") (ns.map hexS))∧pl=[]) (.ret p) [some (mapT (some (tag,ns)))] pl:=fun {z} hz=>by
   have lz:(ns.map hexS).length≤10:=Nat.le_trans (Nat.le_of_eq (List.length_map _)) l
   have sz:((ns.map hexS).map (·.length)).sum≤80:=Nat.le_trans (sum_le fun y hy=>by obtain ⟨n,_,rfl⟩:=List.mem_map.mp hy;exact el n) (Nat.mul_le_mul_left 8 lz)
   have jz:(Txt.join (Str.ofString " ") (ns.map hexS)).cps.size≤90:=by
    rw [←encA_size,encA_join]
    refine Nat.le_trans joinB_size (Nat.le_trans (foldSize_le (K:=8) fun x hx=>?_) (Nat.mul_le_mul_left 9 (Nat.le_trans (Nat.le_of_eq (List.length_map _)) lz)))
    obtain ⟨y,hy,rfl⟩:=List.mem_map.mp hx
    obtain ⟨n,_,rfl⟩:=List.mem_map.mp hy
    rw [encA_size];exact el n
   refine PMe.joinS (PCp.each (xs:=ns.map P.int) (ys:=(ns.map hexS).map P.str) rfl (by rw [List.length_map,List.length_map,List.length_map]) (by rw [List.length_map];exact Nat.le_trans l (by decide)) (fun i y z hy hz K2 k2=>?_) (.inl (PCall.joinSL (by decide) ?_ (PB.str ?_ ⟨_,.nil,rfl,rfl⟩))))
   ·obtain ⟨n,hn,rfl⟩:=map_at hy
    rw [List.getElem?_map,List.getElem?_map,hn] at hz
    cases hz
    have:=b n (List.mem_of_getElem? hn)
    exact PCall.lhex (Nat.le_trans (by decide) (Nat.le_of_eq hI.symm)) this.1 this.2 k2
   ·rw [List.length_map];exact Nat.le_trans (Nat.add_le_add sz l) (by decide)
   ·exact Nat.le_trans (Nat.add_le_add hz jz) (by decide)
  refine pifB (fun h=>?_) fun h=>?_
  ·have h:(tag==Str.ofString "")=false:=by rw [bne] at h;exact Bool.not_eq_true' _▸h
   rw [show mapS (some (tag,ns))=(Str.ofString "<"++tag++Str.ofString "> ")++Txt.join (Str.ofString " ") (ns.map hexS) from congrArg (· ++Txt.join (Str.ofString " ") (ns.map hexS)) (if_neg (by rw [h];exact Bool.false_ne_true))]
   exact PB.str (by show 1+tag.length≤_;exact Nat.le_trans (Nat.add_le_add_left s 1) (by decide)) (PB.str (by show (Str.ofString "<"++tag).cps.size+2≤_;rw [size_app];exact Nat.le_trans (Nat.add_le_add_right (Nat.add_le_add_left s 1) 2) (by decide)) (fin (by show (Str.ofString "<"++tag++Str.ofString "> ").cps.size≤_;rw [size_app,size_app];exact Nat.add_le_add_right (Nat.add_le_add_left s 1) 2)))
  ·have h:(tag==Str.ofString "")=true:=by rw [bne] at h;exact Bool.not_eq_false' _▸h
   rw [show mapS (some (tag,ns))=Str.ofString ""++Txt.join (Str.ofString " ") (ns.map hexS) from congrArg (· ++Txt.join (Str.ofString " ") (ns.map hexS)) (if_pos h)]
   exact fin (by decide)
theorem PCall.umap {w:World} {D:Nat} {pl:PL} {K:KP} {q:PV} {sp:Option (Str×List Int)} (hD:20≤D) (h:∀ v,IsV v q→MapV w v sp) (k:K (.bytes (mapB sp)) pl):PCall w D (.ref 239) [pvP q] pl K:=.map h fun b=>.pn (n_umap w b) hD k
theorem PCall.lmap {w:World} {D:Nat} {pl:PL} {K:KP} {q:PV} {sp:Option (Str×List Int)} (hD:20≤D) (h:∀ v,IsV v q→MapV w v sp) (k:K (.str (mapS sp)) pl):PCall w D (.ref 450) [pvP q] pl K:=.map h fun b=>.pn (n_lmap w b) hD k
theorem n_lline (w:World) {a b:Int} {z:Str} (h1:0≤a) (h2:a<2097152) (h3:0≤b) (h4:b<2097152) (hz:z.cps.size≤1000) (ha:Asc z):PN w 472 [.int a,.int b,.str z] 20 [] fun p pl=>p= .bytes (encA (lineS a b z)++#[10])∧pl=[]:=by
 refine PN.of (D:=19) ns_472 [] k_472 [some 2,some 1,some 0,none] [] [] [some (.str z),some (.int b),some (.int a),none] ⟨by kernel_rfl,by kernel_rfl⟩ (fun zq zq zq=>BndR.eq (by kernel_rfl) (by kernel_rfl)) (fun zq=>.nil) rfl fun I hI=>?_
 have d10:10≤I.D:=Nat.le_trans (by decide) (Nat.le_of_eq hI.symm)
 have za:=Nat.le_trans (Nat.le_of_eq (strOf_len _)) (dg_len 8 a 0)
 have zb:=Nat.le_trans (Nat.le_of_eq (strOf_len _)) (dg_len 8 b 0)
 have zl:=lineS_size a b z
 have e3:(Str.ofString " ; ").cps.size=3:=by decide+kernel
 have e2:(Str.ofString "..").cps.size=2:=by decide+kernel
 have fin:∀ {x:Str},x.cps.size≤18→x++Str.ofString " ; "++z=lineS a b z→pBin w I.D .Add (.str x) (.str (Str.ofString " ; ")) [] fun x l=>PX w I.D (.v 0) [some (.str z),some (.int b),some (.int a),none] l fun y l=>pBin w I.D .Add x y l fun p pl=>PSs w I (match k_472 with| .cons _ c=>c|_=>.nil) [some (.str z),some (.int b),some (.int a),some p] pl (pRet fun p pl=>p= .bytes (encA (lineS a b z)++#[10])∧pl=[]):=fun {x} hx e=>by
  have hy:(x++Str.ofString " ; ").cps.size≤21:=by rw [size_app,e3];exact Nat.add_le_add_right hx 3
  refine PB.str (Nat.le_trans (Nat.add_le_add hx (Nat.le_of_eq e3)) (by decide)) (PB.str (Nat.le_trans (Nat.add_le_add hy hz) (by decide)) ?_)
  rw [e]
  exact pEnc (lineS_asc ha) (by omega) (PB.bytes (by rw [encA_size];show _+1≤_;omega) ⟨_,.nil,rfl,rfl⟩)
 refine PCall.lhex d10 h1 h2 (pifB (fun h=>?_) fun h=>?_)
 ·refine PCall.lhex d10 h3 h4 (PB.str (Nat.le_trans (Nat.add_le_add (Nat.le_of_eq e2) zb) (by decide)) (PB.str ?_ (fin ?_ ?_)))
  ·show (hexS a).cps.size+(Str.ofString ".."++hexS b).cps.size≤_
   rw [size_app,e2];exact Nat.le_trans (Nat.add_le_add za (Nat.add_le_add_left zb 2)) (by decide)
  ·rw [size_app,size_app,e2];exact Nat.add_le_add za (Nat.add_le_add_left zb 2)
  ·unfold lineS;rw [if_pos (by simpa using h)];rfl
 ·refine PB.str ?_ (fin ?_ ?_)
  ·exact Nat.le_trans (Nat.add_le_add_right za 0) (by decide)
  ·rw [size_app];exact Nat.le_trans (Nat.add_le_add_right za 0) (by decide)
  ·unfold lineS;rw [if_neg (by simpa using h)];rfl
theorem PCall.line {w:World} {D:Nat} {pl:PL} {K:KP} {a b:Int} {z:Str} (hD:20≤D) (h1:0≤a) (h2:a<2097152) (h3:0≤b) (h4:b<2097152) (hz:z.cps.size≤1000) (ha:Asc z) (k:K (.bytes (encA (lineS a b z)++#[10])) pl):PCall w D (.ref 472) [.int a,.int b,.str z] pl K:=.pn (n_lline w h1 h2 h3 h4 hz ha) hD k
end
section
set_option tactic.hygienic false
noncomputable def ns_268:List Str:=[]
noncomputable def cn_268:List Str:=[Str.ofString "other",Str.ofString "one"]
noncomputable def k_268:Ss:=(.cons (.ife (.bool .And (.cons (.call (.g (.builtin "isinstance")) (.cons (.v 1) (.cons (.g (.type "tuple")) .nil))) (.cons (.call (.g (.builtin "isinstance")) (.cons (.v 0) (.cons (.g (.type "tuple")) .nil))) .nil))) (.cons (.ret (.bool .And (.cons (.cmp .Eq (.call (.g (.builtin "len")) (.cons (.v 1) .nil)) (.call (.g (.builtin "len")) (.cons (.v 0) .nil))) (.cons (.call (.g (.builtin "all")) (.cons (.comp (.call (.g (.ref 268)) (.cons (.sub (.v 2) (.v 0)) (.cons (.sub (.v 1) (.v 0)) .nil))) (.call (.g (.type "range")) (.cons (.call (.g (.builtin "len")) (.cons (.v 1) .nil)) .nil)) [0,1]) .nil)) .nil)))) .nil) .nil) (.cons (.ret (.bool .And (.cons (.cmp .Eq (.v 1) (.v 0)) (.cons (.cmp .Eq (.call (.g (.builtin "isinstance")) (.cons (.v 1) (.cons (.g (.type "bool")) .nil))) (.call (.g (.builtin "isinstance")) (.cons (.v 0) (.cons (.g (.type "bool")) .nil)))) .nil)))) .nil))
set_option tactic.hygienic true
section
variable {w:World} {D:Nat} {pl:PL} {K:KP}
set_option tactic.hygienic false
noncomputable def NotT (w:World) (p:P) (T:String):Prop:=∀ F v,RV w F p v→Meets (Builtin.«isinstance» ⟨[v,.type T],[]⟩) fun zq R s=>R (.ok (.ret (.bool false))) { s with toks:=s.toks+1 }
theorem NotT.none {T:String} (h:(Value.type "NoneType"==Value.type T)=false) (ht:typeOf (.type T)=pure (.type "type")) (hs:isSubtype (.type "NoneType") (.type T)=pure false):NotT w .none T:=fun F v r=>by
 rw [r.noneI];exact isinstance_false_none h ht hs
theorem NotT.str {z:Str} {T:String} (h:(Value.type "str"==Value.type T)=false) (ht:typeOf (.type T)=pure (.type "type")) (hs:isSubtype (.type "str") (.type T)=pure false):NotT w (.str z) T:=fun F v r=>by
 obtain ⟨t,rfl⟩:=r.strI;exact isinstance_false_str h ht hs
theorem NotT.int {n:Int} {T:String} (h:(Value.type "int"==Value.type T)=false) (ht:typeOf (.type T)=pure (.type "type")) (hs:isSubtype (.type "int") (.type T)=pure false):NotT w (.int n) T:=fun F v r=>by
 obtain ⟨t,rfl⟩:=r.intI;exact isinstance_false_int h ht hs
theorem PCall.isinF {p:P} {T:String} (h:NotT w p T) (k:K (.bool false) pl):PCall w D (.builtin "isinstance") [p,.val (.type T)] pl K:=⟨fun F l us hps hl=>by
 obtain ⟨x,y,rfl,a,b⟩:=hps.two
 rw [b.valI]
 exact ⟨fun C m hD s Q S q=>call_isinstance (h F x a) (q _ l s.heap _ (liftK.mk .bool hl k) ⟨S.F,S.N,S.D⟩)⟩⟩
theorem PC.bools {b:Bool} (k:K (.bool true) pl):PC w D .Eq (.bool b) (.bool b) pl K:=⟨fun F l x y hx hy hl=>by
 rw [hx.boolI,hy.boolI]
 exact ⟨fun C m hD s Q S q=>by
  refine eq_bool ?_
  rw [beq_self_eq_true]
  exact q _ l s.heap s.toks (liftK.mk .bool hl k) S⟩⟩
theorem PC.none {q:P} (h:∀ F y,RV w F q y→∀ (C:Cx w) m l s Q,St C m l s→Q (.bool false) s→wpAny (model PG w) C.A (compareOp .Eq .none y) Q NoE s) (k:K (.bool false) pl):PC w D .Eq .none q pl K:=⟨fun F l x y hx hy hl=>by
 rw [hx.noneI]
 exact ⟨fun C m hD s Q S q=>h F y hy C m l s Q S (q _ l s.heap s.toks (liftK.mk .bool hl k) S)⟩⟩
theorem PC.noneQ {q:PV} (h:Likeable w .none q) (k:K (.bool false) pl):PC w D .Eq .none (pvP q) pl K:=by
 refine PC.none (fun F y hy C m l s Q S hq=>?_) k
 cases q with
 |int n=>obtain ⟨t,rfl⟩:=RV.intI hy;exact EqNone.eq_none_int hq
 |str z=>obtain ⟨t,rfl⟩:=RV.strI hy;exact EqNone.eq_none_str hq
 |bytes b=>obtain ⟨t,rfl⟩:=RV.bytesI hy;exact RL.eq_none_bytes hq
 |ref a=>
  rw [RV.valI hy]
  obtain ⟨its,hT⟩:=h
  exact SeqAt.RcAt.none_tuple ((hT _ C.X).at fun o e=>S.F.keep _ _ e) (by have:=C.hu;show C.un<_;omega) _ _ _ _ hq
 |_=>exact h.elim
theorem pEq_int {a b:Int} (k:K (.bool (decide (a=b))) pl):pCmp w D .Eq (.int a) (.int b) pl K:=k
theorem pEq_str {a b:Str} (k:K (.bool (a==b)) pl):pCmp w D .Eq (.str a) (.str b) pl K:=k
theorem like_body {I:Fi} {p q:P} {c:Bool} (h1:NotT w p "tuple") (h2:∀ K:KP,(c=true→PX w I.D (.cmp .Eq (.call (.g (.builtin "isinstance")) (.cons (.v 1) (.cons (.g (.type "bool")) .nil))) (.call (.g (.builtin "isinstance")) (.cons (.v 0) (.cons (.g (.type "bool")) .nil)))) [some q,some p] [] K)→(c=false→K (.bool false) [])→pCmp w I.D .Eq p q [] fun x l=>pTruth w I.D (pAndV2 x (PX w I.D (.cmp .Eq (.call (.g (.builtin "isinstance")) (.cons (.v 1) (.cons (.g (.type "bool")) .nil))) (.call (.g (.builtin "isinstance")) (.cons (.v 0) (.cons (.g (.type "bool")) .nil)))) [some q,some p]) K) x l)
  (h3:c=true→NotT w p "bool"∧NotT w q "bool"):PSs w I k_268 [some q,some p] [] (pRet fun r pl=>r= .bool c∧pl=[]):=
 PCall.isinF h1 (h2 _ (fun e=>PCall.isinF (h3 e).1 (PCall.isinF (h3 e).2 (PC.bools ⟨_,.refl,by rw [e],rfl⟩))) fun e=>⟨_,.refl,by rw [e],rfl⟩)
theorem n_like (w:World) {p q:PV} (h:Likeable w p q):PN w 268 [pvP p,pvP q] 10 [] fun r pl=>r= .bool (decide (p=q))∧pl=[]:=by
 refine PN.of (D:=9) ns_268 cn_268 k_268 [some 1,some 0] [] [] [some (pvP q),some (pvP p)] ⟨by kernel_rfl,by kernel_rfl⟩ (fun zq zq=>BndR.eq (by kernel_rfl) (by kernel_rfl)) (fun zq=>.nil) rfl fun I hI=>?_
 cases p with
 |none=>
  have e:decide (PV.none=q)=false:=decide_eq_false fun e=>by subst e;exact h.elim
  rw [e]
  exact like_body (.none rfl (by kernel_rfl) F.sub_NoneType_tuple) (fun K zq k=>PC.noneQ h (k rfl)) (fun e=>nomatch e)
 |int a=>
  cases q with
  |int b=>
   have e:decide (PV.int a=PV.int b)=decide (a=b):=decide_eq_decide.mpr ⟨fun e=>by cases e;rfl,fun e=>by rw [e]⟩
   rw [e]
   refine like_body (.int rfl (by kernel_rfl) F.sub_int_tuple) (fun K k1 k2=>?_) (fun zq=>⟨.int rfl meta_bool F.sub_int_bool,.int rfl meta_bool F.sub_int_bool⟩)
   refine pEq_int ?_
   generalize decide (a=b)=c at k1 k2 ⊢
   cases c
   ·exact k2 rfl
   ·exact k1 rfl
  |_=>exact h.elim
 |str a=>
  cases q with
  |str b=>
   have e:decide (PV.str a=PV.str b)=(a==b):=by
    by_cases h:a=b
    ·subst h;rw [beq_self_eq_true];exact decide_eq_true rfl
    ·rw [decide_eq_false fun q=>h (by cases q;rfl),beq_eq_false_iff_ne.mpr h]
   rw [e]
   refine like_body (.str rfl (by kernel_rfl) F.sub_str_tuple) (fun K k1 k2=>?_) (fun zq=>⟨.str rfl meta_bool F.sub_str_bool,.str rfl meta_bool F.sub_str_bool⟩)
   refine pEq_str ?_
   generalize (a==b)=c at k1 k2 ⊢
   cases c
   ·exact k2 rfl
   ·exact k1 rfl
  |_=>exact h.elim
 |_=>exact h.elim
theorem PCall.like {p q:PV} (hD:10≤D) (h:Likeable w p q) (k:K (.bool (decide (p=q))) pl):PCall w D (.ref 268) [pvP p,pvP q] pl K:=PCall.pn (n_like w h) hD k
set_option tactic.hygienic true
end
end
section
set_option tactic.hygienic false
noncomputable def ns_289:List Str:=[Str.ofString "code",Str.ofString "self"]
noncomputable def k_289:Ss:=(.cons (.ret (.sub (.attr (.v 1) (Str.ofString "values")) (.call (.g (.ref 118)) (.cons (.attr (.v 1) (Str.ofString "starts")) (.cons (.v 0) .nil))))) .nil)
noncomputable def ns_296:List Str:=[Str.ofString "value",Str.ofString "last",Str.ofString "first",Str.ofString "self",Str.ofString "low",Str.ofString "high",Str.ofString "behind",Str.ofString "starts",Str.ofString "values"]
noncomputable def k_296:Ss:=(.cons (.asgS [2,1] (.tup (.cons (.call (.g (.builtin "max")) (.cons (.v 2) (.cons (.k (.int 0)) .nil))) (.cons (.call (.g (.builtin "min")) (.cons (.v 1) (.cons (.g (.int 1114111 196)) .nil))) .nil)))) (.cons (.ife (.cmp .Gt (.v 2) (.v 1)) (.cons .retN .nil) .nil) (.cons (.asg 4 (.bin .Add (.call (.g (.ref 118)) (.cons (.attr (.v 3) (Str.ofString "starts")) (.cons (.bin .Sub (.v 2) (.k (.int 1))) .nil))) (.k (.int 1)))) (.cons (.asg 5 (.bin .Add (.call (.g (.ref 118)) (.cons (.attr (.v 3) (Str.ofString "starts")) (.cons (.bin .Add (.v 1) (.k (.int 1))) .nil))) (.k (.int 1)))) (.cons (.asg 6 (.sub (.attr (.v 3) (Str.ofString "values")) (.bin .Sub (.v 5) (.k (.int 1))))) (.cons (.asgS [7,8] (.tup (.cons (.lst (.cons (.v 2) .nil)) (.cons (.lst (.cons (.v 0) .nil)) .nil)))) (.cons (.ife (.bool .And (.cons (.cmp .Lt (.v 1) (.g (.int 1114111 196))) (.cons (.un .Not (.call (.g (.ref 268)) (.cons (.v 6) (.cons (.v 0) .nil)))) .nil))) (.cons (.ex (.meth (.v 7) (Str.ofString "append") (.cons (.bin .Add (.v 1) (.k (.int 1))) .nil))) (.cons (.ex (.meth (.v 8) (Str.ofString "append") (.cons (.v 6) .nil))) .nil)) .nil) (.cons (.ife (.bool .And (.cons (.cmp .Gt (.v 4) (.k (.int 0))) (.cons (.call (.g (.ref 268)) (.cons (.sub (.attr (.v 3) (Str.ofString "values")) (.bin .Sub (.v 4) (.k (.int 1)))) (.cons (.v 0) .nil))) .nil))) (.cons (.asgS [7,8] (.tup (.cons (.slc (.v 7) (.k (.int 1)) (.k .none)) (.cons (.slc (.v 8) (.k (.int 1)) (.k .none)) .nil)))) .nil) .nil) (.cons (.asgA (.v 3) (Str.ofString "starts") (.bin .Add (.bin .Add (.slc (.attr (.v 3) (Str.ofString "starts")) (.k .none) (.v 4)) (.v 7)) (.slc (.attr (.v 3) (Str.ofString "starts")) (.v 5) (.k .none)))) (.cons (.asgA (.v 3) (Str.ofString "values") (.bin .Add (.bin .Add (.slc (.attr (.v 3) (Str.ofString "values")) (.k .none) (.v 4)) (.v 8)) (.slc (.attr (.v 3) (Str.ofString "values")) (.v 5) (.k .none)))) .nil))))))))))
set_option tactic.hygienic true
section
variable {w:World} {D:Nat} {pl:PL} {K:KP}
theorem PCall.max0 {a:Int} (h:0≤a) (k:K (.int a) pl):PCall w D (.builtin "max") [.int a,.int 0] pl K:=⟨fun F l us hps hl=>by
 obtain ⟨_,_,rfl,e1,e2⟩:=hps.two
 obtain ⟨_,rfl⟩:=e1.intI
 obtain ⟨_,rfl⟩:=e2.intI
 refine ⟨fun C m hD s Q St q=>?_⟩
 rcases C with ⟨mean,mg,mb,dp,un,gd,cn,cs,a,ccd,cl,outer,A₀,base,h₀,L,B,X,T,hk,D,hd,hu,hid⟩
 rcases St with ⟨F,N,P⟩
 dsimp only at F N P q
 show wpAny _ (ktrTop dp un gd cn cs L a ccd cl outer) _ _ _ _
 k_steps
 rename Fr _ _ _ _=>F9
 rename News _ _ _ _=>N9
 rw [if_neg (Int.not_lt.mpr h)]
 exact q _ _ _ _ (liftK.mk .int hl k) ⟨F9,N9,P⟩⟩
theorem PCall.minM {a:Int} (h:a≤1114111) (k:K (.int a) pl):PCall w D (.builtin "min") [.int a,.int 1114111] pl K:=⟨fun F l us hps hl=>by
 obtain ⟨_,_,rfl,e1,e2⟩:=hps.two
 obtain ⟨_,rfl⟩:=e1.intI
 obtain ⟨_,rfl⟩:=e2.intI
 refine ⟨fun C m hD s Q St q=>?_⟩
 rcases C with ⟨mean,mg,mb,dp,un,gd,cn,cs,a,ccd,cl,outer,A₀,base,h₀,L,B,X,T,hk,D,hd,hu,hid⟩
 rcases St with ⟨F,N,P⟩
 dsimp only at F N P q
 show wpAny _ (ktrTop dp un gd cn cs L a ccd cl outer) _ _ _ _
 k_steps
 rename Fr _ _ _ _=>F9
 rename News _ _ _ _=>N9
 rw [if_neg (Int.not_lt.mpr h)]
 exact q _ _ _ _ (liftK.mk .int hl k) ⟨F9,N9,P⟩⟩
set_option tactic.hygienic false
theorem PSl.takeE {a:Addr} {xs:List P} {i:Int} {n:Nat} (hi:i=n) (hm:(a,PO.list xs)∈pl) (hz:xs.length≤16777216) (h1:n≤xs.length) (k:∀ c,K (.val (.ref c)) ((c,.list (xs.take n))::pl)):PSl w D (.val (.ref a)) .none (.int i) pl K:=⟨fun F l x y z hx hy hz' hl=>by
 subst hi
 rw [hx.valI,hy.noneI]
 obtain ⟨t,rfl⟩:=hz'.intI
 obtain ⟨vs,m,h3,h4⟩:=hl.mem hm
 exact SLO.take h3 (by rw [h4.len];exact Int.ofNat_le.mpr hz) (Int.natCast_nonneg n) (by rw [h4.len];exact Int.ofNat_le.mpr h1) fun c zq=>liftK.mk .val (hl.list (h4.take _)) (k c)⟩
theorem PSl.dropE {a:Addr} {xs:List P} {i:Int} {n:Nat} (hi:i=n) (hm:(a,PO.list xs)∈pl) (hz:xs.length≤16777216) (h1:n≤xs.length) (k:∀ c,K (.val (.ref c)) ((c,.list (xs.drop n))::pl)):PSl w D (.val (.ref a)) (.int i) .none pl K:=by
 subst hi
 exact PSl.drop hm (Int.ofNat_le.mpr hz) (Int.natCast_nonneg n) (Int.ofNat_le.mpr h1) k
theorem PSb.itemE {a:Addr} {xs:List P} {p:P} {i:Int} {n:Nat} (hi:i=n) (hm:(a,PO.list xs)∈pl) (hx:xs[n]? =some p) (hz:xs.length≤16777216) (k:K p pl):PSb w D (.val (.ref a)) (.int i) pl K:=by
 subst hi
 exact PSb.item hm (Int.natCast_nonneg n) hx hz k
set_option tactic.hygienic true
end
set_option tactic.hygienic false
structure RM' where
 nm:Str
 x:Addr
 dx:Addr
 ls:Addr
 lv:Addr
 d:Value
 t1:Tok
 t2:Tok
 t3:Tok
 k:Nat
 ns:List Int
 ps:List PV
noncomputable def RM'.pl (w:World) (r:RM'):PL:=[(r.x,.raw (instObj 311 r.dx)),(r.dx,.raw (dictOf (rmD w r.t1 r.t2 r.t3 r.d r.ls r.lv) r.k)),(r.ls,intsP r.ns),(r.lv,.list (r.ps.map pvP))]
theorem cnt_pred {c:Nat} (h:0<c):((c:Int) - 1+1 - 1)=((c - 1:Nat):Int):=by omega
theorem n_rget (w:World) {r:RM'} {f:Int→PV} {n:Int} (R:RMok r.ns r.ps f) (hz:r.ns.length≤1000) (h0:0≤n) (h1:n≤MX):
  PN w 289 [.val (.ref r.x),.int n] 15 (r.pl w) fun p pl=>p=pvP (f n)∧pl=r.pl w:=by
 refine PN.of (D:=14) ns_289 [] k_289 [some 1,some 0] [] [] [some (.int n),some (.val (.ref r.x))] ⟨by kernel_rfl,by kernel_rfl⟩ (fun zq zq=>BndR.eq (by kernel_rfl) (by kernel_rfl)) (fun zq=>.nil) rfl fun I hI=>?_
 have hz2:(r.ps.map pvP).length≤16777216:=by rw [List.length_map,R.len];exact Nat.le_trans hz (by decide)
 refine PAt.values (.head _) (.tail _ (.head _)) (PAt.starts (.head _) (.tail _ (.head _)) (PCall.place (Nat.le_trans (by decide) (Nat.le_of_eq hI.symm)) (.tail _ (.tail _ (.head _))) (Nat.le_trans hz (by decide)) R.srt ?_))
 have hc:=cnt_pos R.zero h0
 exact PSb.itemE (n:=cnt r.ns n - 1) (by omega) (.tail _ (.tail _ (.tail _ (.head _)))) (by rw [List.getElem?_map,R.look n h0 h1];rfl) hz2 ⟨_,.refl,rfl,rfl⟩
noncomputable def putF (f:Int→PV) (a b:Int) (q:PV):Int→PV:=fun c=>if a≤c∧c≤b then q else f c
noncomputable def r_296:Ss:=match k_296 with
 | .cons _ (.cons _ (.cons _ (.cons _ (.cons _ (.cons _ (.cons _ c))))))=>c
 |_=>.nil
noncomputable def e_296:Ss:=match r_296 with
 | .cons _ c=>c
 |_=>.nil
theorem perm_two {α:Type} {x y:α} {A B:List α}:(A++x::y::B).Perm (x::y::(A++B)):=List.perm_middle.trans (List.perm_middle.cons x)
theorem n_rput_end (w:World) {I:Fi} {K:KPF} {r:RM'} {a b:Int} {q y:PV} {l7 l8:Addr} {S:List Int} {V:List PV} {lo hi:Nat} {Z:PL} (hz:r.ns.length≤1000) (hl:r.ps.length=r.ns.length) (h1:lo≤r.ns.length) (h2:hi≤r.ns.length) (hS:S.length≤2) (hV:V.length≤2)
  (m7:(l7,intsP S)∈Z) (m8:(l8,PO.list (V.map pvP))∈Z)
  (k:∀ ls lv vs pl,PSubP (RM'.pl w { r with ls:=ls,lv:=lv,ns:=r.ns.take lo++S++r.ns.drop hi,ps:=r.ps.take lo++V++r.ps.drop hi }) pl→K .next vs pl):
  PSs w I e_296 [some (pvP q),some (.int b),some (.int a),some (.val (.ref r.x)),some (.int ((lo:Int) - 1+1)),some (.int ((hi:Int) - 1+1)),some (pvP y),some (.val (.ref l7)),some (.val (.ref l8))] (Z++r.pl w) K:=by
 have ln1:(r.ns.map P.int).length≤1000:=by rw [List.length_map];exact hz
 have ln2:(r.ps.map pvP).length≤1000:=by rw [List.length_map,hl];exact hz
 have up:∀ {n:Nat},n≤1000→n≤16777216:=fun h=>Nat.le_trans h (by decide)
 have a1:lo≤(r.ns.map P.int).length:=by rw [List.length_map];exact h1
 have a2:hi≤(r.ns.map P.int).length:=by rw [List.length_map];exact h2
 have b1:lo≤(r.ps.map pvP).length:=by rw [List.length_map,hl];exact h1
 have b2:hi≤(r.ps.map pvP).length:=by rw [List.length_map,hl];exact h2
 have e1:∀ {n:Nat},(n:Int) - 1+1=n:=fun {n}=>Int.sub_add_cancel _ _
 have t1:∀ {xs ys:List P},xs.length≤1000→ys.length≤2→(xs.take lo).length+ys.length≤16384:=fun {xs ys} g1 g2=>by
  have:=List.length_take_le' lo xs
  omega
 have t2:∀ {xs ys:List P},xs.length≤1000→ys.length≤2→(xs.take lo++ys).length+(xs.drop hi).length≤16384:=fun {xs ys} g1 g2=>by
  have:=List.length_take_le' lo xs
  rw [List.length_append,List.length_drop]
  omega
 have s2:(S.map P.int).length≤2:=by rw [List.length_map];exact hS
 have v2:(V.map pvP).length≤2:=by rw [List.length_map];exact hV
 have mx:∀ {o:PO} {x:Addr},(x,o)∈r.pl w→(x,o)∈Z++r.pl w:=fun h=>List.mem_append_right _ h
 have mz:∀ {o:PO} {x:Addr} {B:PL},(x,o)∈Z→(x,o)∈Z++B:=fun h=>List.mem_append_left _ h
 refine PAt.starts (mx (.head _)) (mx (.tail _ (.head _))) (PSl.takeE e1 (mx (.tail _ (.tail _ (.head _)))) (up ln1) a1 fun c1=>PB.lists (.head _) (.tail _ (mz m7)) (t1 ln1 s2) fun c2=>?_)
 refine PAt.starts (.tail _ (.tail _ (mx (.head _)))) (.tail _ (.tail _ (mx (.tail _ (.head _))))) (PSl.dropE e1 (.tail _ (.tail _ (mx (.tail _ (.tail _ (.head _)))))) (up ln1) a2 fun c3=>PB.lists (.tail _ (.head _)) (.head _) (t2 ln1 s2) fun c4=>?_)
 refine PSt.starts (perm_two (A:=_::_::_::_::Z)) ?_
 have mv:∀ {x:Addr×PO} {y:PO} {z:Addr},(z,y)∈Z++[x,(z,y)]:=List.mem_append_right _ (.tail _ (.head _))
 refine PAt.values (.head _) (.tail _ (.head _)) (PSl.takeE e1 (.tail _ (.tail _ (.tail _ (.tail _ (.tail _ (.tail _ mv)))))) (up ln2) b1 fun d1=>PB.lists (.head _) (.tail _ (.tail _ (.tail _ (.tail _ (.tail _ (.tail _ (.tail _ (mz m8)))))))) (t1 ln2 v2) fun d2=>?_)
 refine PAt.values (.tail _ (.tail _ (.head _))) (.tail _ (.tail _ (.tail _ (.head _)))) (PSl.dropE e1 (.tail _ (.tail _ (.tail _ (.tail _ (.tail _ (.tail _ (.tail _ (.tail _ mv)))))))) (up ln2) b2 fun d3=>PB.lists (.tail _ (.head _)) (.head _) (t2 ln2 v2) fun d4=>?_)
 refine PSt.values (perm_two (A:=[_,_,_,_])) (k c4 d4 _ _ ?_)
 unfold RM'.pl
 dsimp only
 rw [←List.map_take,←List.map_drop,←List.map_append,←List.map_append,←List.map_take,←List.map_drop,←List.map_append,←List.map_append]
 exact .take (pre:=[]) (.take (pre:=[]) (.take (pre:=[_,_,_,_]) (.take (pre:=[]) .nil)))
theorem pandN {W:PL→KPB→Prop} {K:KPB} {c:Prop} [Decidable c] {pl:PL} (h1: ¬c→W pl K) (h2:c→K false pl):pAnd W K (!decide c) pl:=by
 by_cases h:c
 ·rw [decide_eq_true h];exact h2 h
 ·rw [decide_eq_false h];exact h1 h
set_option tactic.hygienic true
theorem n_rput (w:World) {r:RM'} {f:Int→PV} {a b:Int} {q:PV} (R:RMok r.ns r.ps f) (hz:r.ns.length≤900) (ha:0≤a) (hab:a≤b) (hb:b≤1114111) (l1:b<1114111→Likeable w (f (b+1)) q) (l2:0<a→Likeable w (f (a - 1)) q):
  PN w 296 [.val (.ref r.x),.int a,.int b,pvP q] 15 (r.pl w) fun p pl=>∃ r':RM',p= .none∧pl=r'.pl w∧r'.x=r.x∧r'.nm=r.nm∧RMok r'.ns r'.ps (putF f a b q)∧r'.ns.length≤r.ns.length+2:=by
 refine PN.of (D:=14) ns_296 [] k_296 [some 3,some 2,some 1,some 0,none,none,none,none,none] [] [] [some (pvP q),some (.int b),some (.int a),some (.val (.ref r.x)),none,none,none,none,none] ⟨by kernel_rfl,by kernel_rfl⟩ (fun zq zq zq zq=>BndR.eq (by kernel_rfl) (by kernel_rfl)) (fun zq=>.nil) rfl fun I hI=>?_
 have d10:10≤I.D:=Nat.le_trans (by decide) (Nat.le_of_eq hI.symm)
 have z5:r.ns.length≤100000:=Nat.le_trans hz (by decide)
 have z6:(r.ps.map pvP).length≤16777216:=by rw [List.length_map,R.len];exact Nat.le_trans hz (by decide)
 have hc:=cnt_pos R.zero (c:=b+1) (by omega)
 obtain ⟨y,hy⟩:∃ y,r.ps[cnt r.ns (b+1) - 1]? =some y:=⟨_,List.getElem?_eq_getElem (by have:=cnt_le r.ns (b+1);rw [R.len];omega)⟩
 have yf:b<MX→y=f (b+1):=fun h=>by
  have:=R.look (b+1) (by omega) (by unfold MX at *;omega)
  rw [hy] at this
  exact Option.some.inj this
 refine PCall.max0 ha (PCall.minM hb (pif (fun h=>absurd h (Int.not_lt.mpr hab)) fun zq=>?_))
 refine PAt.starts (.head _) (.tail _ (.head _)) (PCall.place d10 (.tail _ (.tail _ (.head _))) z5 R.srt ?_)
 refine PAt.starts (.head _) (.tail _ (.head _)) (PCall.place d10 (.tail _ (.tail _ (.head _))) z5 R.srt ?_)
 refine PAt.values (.head _) (.tail _ (.head _)) (PSb.itemE (cnt_pred hc) (.tail _ (.tail _ (.tail _ (.head _)))) (by rw [List.getElem?_map,hy];rfl) z6 fun l7 l8=>?_)
 have fin:∀ (c1 c2:Bool) (vs:PVs) (pl:PL) (ls lv:Addr),(b<MX→c1=true→f (b+1)=q)→(b=MX→c1=true)→(c2=true→0<a∧f (a - 1)=q)→PSubP (RM'.pl w { r with ls:=ls,lv:=lv,ns:=r.ns.take (cnt r.ns (a - 1))++midS a (b+1) c1 c2++r.ns.drop (cnt r.ns (b+1)),ps:=r.ps.take (cnt r.ns (a - 1))++midV q y c1 c2++r.ps.drop (cnt r.ns (b+1)) }) pl→pRet (fun p pl=>∃ r':RM',p= .none∧pl=r'.pl w∧r'.x=r.x∧r'.nm=r.nm∧RMok r'.ns r'.ps (putF f a b q)∧r'.ns.length≤r.ns.length+2) .next vs pl:=fun c1 c2 vs pl ls lv h1 h1' h2 hp=>by
  refine ⟨_,hp,_,rfl,rfl,rfl,rfl,rm_put R ha hab hb yf (fun e h=>h1 h e) h2,?_⟩
  have:=midS_len a (b+1) c1 c2
  have:=cnt_mono r.ns (show a - 1≤b+1 by omega)
  have:=cnt_le r.ns (b+1)
  dsimp only
  rw [List.length_append,List.length_append,List.length_take,List.length_drop]
  omega
 have z9:r.ns.length≤1000:=Nat.le_trans hz (by decide)
 have lo9:=Nat.le_trans (cnt_mono r.ns (show a - 1≤b+1 by omega)) (cnt_le r.ns (b+1))
 have rest:∀ c1:Bool,(b<MX→c1=true→f (b+1)=q)→(b=MX→c1=true)→PSs w I r_296 [some (pvP q),some (.int b),some (.int a),some (.val (.ref r.x)),some (.int ((cnt r.ns (a - 1):Int) - 1+1)),some (.int ((cnt r.ns (b+1):Int) - 1+1)),some (pvP y),some (.val (.ref l7)),some (.val (.ref l8))] ((l8,.list ((midV q y c1 false).map pvP))::(l7,intsP (midS a (b+1) c1 false))::r.pl w) (pRet fun p pl=>∃ r':RM',p= .none∧pl=r'.pl w∧r'.x=r.x∧r'.nm=r.nm∧RMok r'.ns r'.ps (putF f a b q)∧r'.ns.length≤r.ns.length+2):=fun c1 h1 h1'=>by
  have ms:∀ c2,(midS a (b+1) c1 c2).length≤2:=fun c2=>midS_len _ _ _ _
  have mv:∀ c2,(midV q y c1 c2).length≤2:=fun c2=>midV_len _ _ _ _
  have no:∀ {vs:PVs},vs=[some (pvP q),some (.int b),some (.int a),some (.val (.ref r.x)),some (.int ((cnt r.ns (a - 1):Int) - 1+1)),some (.int ((cnt r.ns (b+1):Int) - 1+1)),some (pvP y),some (.val (.ref l7)),some (.val (.ref l8))]→PSs w I e_296 vs ((l8,.list ((midV q y c1 false).map pvP))::(l7,intsP (midS a (b+1) c1 false))::r.pl w) (pRet fun p pl=>∃ r':RM',p= .none∧pl=r'.pl w∧r'.x=r.x∧r'.nm=r.nm∧RMok r'.ns r'.ps (putF f a b q)∧r'.ns.length≤r.ns.length+2):=fun e=>by
   subst e
   exact n_rput_end w (Z:=[_,_]) z9 R.len lo9 (cnt_le _ _) (ms false) (mv false) (.tail _ (.head _)) (.head _) fun ls lv vs pl hp=>fin c1 false vs pl ls lv h1 h1' (fun h=>absurd h Bool.false_ne_true) hp
  refine pand (fun h=>?_) fun zq=>no rfl
  have lo0:0<cnt r.ns (a - 1):=by omega
  have a0:0<a:=by
   rcases Int.lt_or_le 0 a with h'|h'
   ·exact h'
   ·have:cnt r.ns (a - 1)=0:=cnt_no fun x hx=>by have:=ns_nonneg R.srt R.zero x hx;omega
    omega
  refine PAt.values (.tail _ (.tail _ (.head _))) (.tail _ (.tail _ (.tail _ (.head _)))) (PSb.itemE (cnt_pred lo0) (.tail _ (.tail _ (.tail _ (.tail _ (.tail _ (.head _)))))) (by rw [List.getElem?_map,R.look (a - 1) (by omega) (by unfold MX;omega)];rfl) z6 (PCall.like d10 (l2 a0) (pand (fun hq=>?_) fun zq=>no rfl)))
  have up:∀ {n:Nat},n≤2→n≤16777216:=fun h=>Nat.le_trans h (by decide)
  refine PSl.dropE (n:=1) rfl (.tail _ (.head _)) (by rw [List.length_map];exact up (ms false)) (by rw [List.length_map];cases c1<;>exact Nat.le_add_left _ _) fun c7=>PSl.dropE (n:=1) rfl (.tail _ (.head _)) (by rw [List.length_map];exact up (mv false)) (by rw [List.length_map];cases c1<;>exact Nat.le_add_left _ _) fun c8=>?_
  rw [←List.map_drop,←List.map_drop,midS_pop,midV_pop]
  exact n_rput_end w (Z:=[_,_,_,_]) z9 R.len lo9 (cnt_le _ _) (ms true) (mv true) (.tail _ (.head _)) (.head _) fun ls lv vs pl hp=>fin c1 true vs pl ls lv h1 h1' (fun zq=>⟨a0,hq⟩) hp
 refine pand (fun hb'=>?_) fun hb'=>rest true (fun h=>absurd h hb') fun zq=>rfl
 have L:Likeable w y q:=by rw [yf hb'];exact l1 hb'
 refine PCall.like d10 L (pandN (fun zq=>?_) fun e=>rest true (fun h zq=>(yf h).symm.trans e) fun zq=>rfl)
 exact PMe.append (.tail _ (.head _)) (PCall.append (pre:=[_]) (Nat.le_of_ble_eq_true rfl) (PMe.append (.head _) (PCall.append (pre:=[]) (Nat.le_of_ble_eq_true rfl) (rest false (fun zq h=>absurd h Bool.false_ne_true) fun h=>absurd hb' (by unfold MX at h;omega)))))
end
section
set_option tactic.hygienic false
noncomputable def ns_350:List Str:=[Str.ofString "value",Str.ofString "last",Str.ofString "first",Str.ofString "name",Str.ofString "self"]
noncomputable def k_350:Ss:=(.cons (.ex (.meth (.meth (.v 4) (Str.ofString "map_of") (.cons (.v 3) .nil)) (Str.ofString "put") (.cons (.v 2) (.cons (.v 1) (.cons (.v 0) .nil))))) .nil)
noncomputable def ns_357:List Str:=[Str.ofString "code",Str.ofString "name",Str.ofString "self"]
noncomputable def k_357:Ss:=(.cons (.ife (.cmp .In (.v 1) (.attr (.v 2) (Str.ofString "maps"))) (.cons (.ret (.meth (.sub (.attr (.v 2) (Str.ofString "maps")) (.v 1)) (Str.ofString "get") (.cons (.v 0) .nil))) .nil) .nil) (.cons (.ret (.meth (.attr (.v 2) (Str.ofString "defaults")) (Str.ofString "get") (.cons (.v 1) .nil))) .nil))
noncomputable def ns_364:List Str:=[Str.ofString "name",Str.ofString "self"]
noncomputable def k_364:Ss:=(.cons (.ife (.cmp .NotIn (.v 0) (.attr (.v 1) (Str.ofString "maps"))) (.cons (.asgI (.attr (.v 1) (Str.ofString "maps")) (.v 0) (.call (.g (.ref 311)) (.cons (.meth (.attr (.v 1) (Str.ofString "defaults")) (Str.ofString "get") (.cons (.v 0) .nil)) .nil))) .nil) .nil) (.cons (.ret (.sub (.attr (.v 1) (Str.ofString "maps")) (.v 0))) .nil))
structure DS where
 x:Addr
 dx:Addr
 dd:Addr
 dm:Addr
 dp:Addr
 dw:Addr
 t1:Tok
 t2:Tok
 t3:Tok
 t4:Tok
 od:Obj
 om:Obj
 dk:List (Str×Value)
 mv:List (Str×Value)
 rms:List RM'
noncomputable def DS.pl (w:World) (S:DS):PL:=(S.x,.raw (instObj 367 S.dx))::(S.dx,.raw (dictOf (daD w S.t1 S.t2 S.t3 S.t4 S.dd S.dm S.dp S.dw) 4))::(S.dd,.raw S.od)::(S.dm,.raw S.om)::S.rms.flatMap (RM'.pl w)
structure DK (w:World) (S:DS) (sg:Str→Int→PV) (len:Nat):Prop where
 hd:S.od.IsDictOf (PySem.strKind PG w) S.dk
 dfl:DefOK S.dk
 lod:(S.dd==sysModules)=false
 hm:S.om.IsDictOf (PySem.strKind PG w) S.mv
 lom:(S.dm==sysModules)=false
 mlen:S.mv.length≤len
 inn:∀ r∈S.rms,valueAt S.mv r.nm=some (.ref r.x)
 out:∀ n,(∀ r∈S.rms,r.nm≠n)→valueAt S.mv n=none
 rok:∀ r∈S.rms,RMok r.ns r.ps (sg r.nm)
 rlen:∀ r∈S.rms,r.ns.length≤1+2*len
 nom:∀ n∈usedNames,(∀ r∈S.rms,r.nm≠n)→sg n=fun zq=>dflt n
 nmd:(S.rms.map (·.nm)).Nodup
theorem DK.mono {w:World} {S:DS} {sg:Str→Int→PV} {a b:Nat} (h:DK w S sg a) (e:a≤b):DK w S sg b:=
 { h with mlen:=Nat.le_trans h.mlen e,rlen:=fun r hr=>Nat.le_trans (h.rlen r hr) (Nat.add_le_add_left (Nat.mul_le_mul_left 2 e) 1) }
theorem DS.cut {w:World} {S:DS} {r:RM'} {R1 R2:List RM'} (e:S.rms=R1++r::R2):(r.pl w++(DS.pl w { S with rms:=R1++R2 })).Perm (S.pl w):=by
 unfold DS.pl
 dsimp only
 rw [e,List.flatMap_append,List.flatMap_append,List.flatMap_cons]
 show (r.pl w++([_,_,_,_]++(R1.flatMap (RM'.pl w)++R2.flatMap (RM'.pl w)))).Perm ([_,_,_,_]++(R1.flatMap (RM'.pl w)++(r.pl w++R2.flatMap (RM'.pl w))))
 refine (List.perm_append_comm_assoc _ _ _).trans (List.Perm.append_left _ (List.perm_append_comm_assoc _ _ _))
theorem DS.in {w:World} {S:DS} {r:RM'} (h:r∈S.rms):∀ p∈r.pl w,p∈S.pl w:=fun p hp=>.tail _ (.tail _ (.tail _ (.tail _ (List.mem_flatMap.mpr ⟨r,h,hp⟩))))
theorem n_get (w:World) {S:DS} {sg:Str→Int→PV} {len:Nat} {nm:Str} {c:Int} (Ok:DK w S sg len) (hl:len≤400) (hn:nm∈usedNames) (hc:0≤c) (hc2:c≤MX):
  PN w 357 [.val (.ref S.x),.str nm,.int c] 25 (S.pl w) fun p pl=>p=pvP (sg nm c)∧pl=S.pl w:=by
 refine PN.of (D:=24) ns_357 [] k_357 [some 2,some 1,some 0] [] [] [some (.int c),some (.str nm),some (.val (.ref S.x))] ⟨by kernel_rfl,by kernel_rfl⟩ (fun zq zq zq=>BndR.eq (by kernel_rfl) (by kernel_rfl)) (fun zq=>.nil) rfl fun I hI=>?_
 refine PAt.maps (.head _) (.tail _ (.head _)) ?_
 by_cases h:∃ r∈S.rms,r.nm=nm
 ·obtain ⟨r,hr,rfl⟩:=h
  have hv:=Ok.inn r hr
  obtain ⟨R1,R2,e⟩:=List.append_of_mem hr
  refine PC.inR (b:=true) (.tail _ (.tail _ (.tail _ (.head _)))) Ok.hm Ok.lom (by rw [hv];rfl) ?_
  refine PAt.maps (.head _) (.tail _ (.head _)) (PSb.dctR (.tail _ (.tail _ (.tail _ (.head _)))) Ok.hm hv (PMe.rmGet (DS.in hr _ (.head _)) (DS.in hr _ (.tail _ (.head _))) (PN.call (n_rget w (Ok.rok r hr) (by have:=Ok.rlen r hr;omega) hc hc2) (Nat.le_trans (by decide) (Nat.le_of_eq hI.symm)) (DS.cut e) ?_)))
  rintro p pl ⟨rfl,rfl⟩
  exact ⟨_,⟨[],by rw [List.append_nil];exact (DS.cut e).symm⟩,rfl,rfl⟩
 ·have h':∀ r∈S.rms,r.nm≠nm:=fun r hr e=>h ⟨r,hr,e⟩
  have hv:=Ok.out nm h'
  refine PC.inR (b:=false) (.tail _ (.tail _ (.tail _ (.head _)))) Ok.hm Ok.lom (by rw [hv];rfl) ?_
  refine PAt.defaults (.head _) (.tail _ (.head _)) (PMe.dictGet (.tail _ (.tail _ (.head _))) Ok.hd (PCall.dictGet (.tail _ (.tail _ (.head _))) Ok.hd Ok.lod (fun F=>pvP_ok (Ok.dfl nm hn)) ⟨_,.refl,?_,rfl⟩))
  rw [Ok.nom nm hn h']
theorem n_mapof (w:World) {S:DS} {sg:Str→Int→PV} {len:Nat} {nm:Str} (Ok:DK w S sg len) (hl:len≤400) (hn:nm∈usedNames):
  PN w 364 [.val (.ref S.x),.str nm] 30 (S.pl w) fun p pl=>∃ (S':DS) (r:RM'),p= .val (.ref r.x)∧pl=S'.pl w∧S'.x=S.x∧r∈S'.rms∧r.nm=nm∧DK w S' sg (len+1):=by
 refine PN.of (D:=29) ns_364 [] k_364 [some 1,some 0] [] [] [some (.str nm),some (.val (.ref S.x))] ⟨by kernel_rfl,by kernel_rfl⟩ (fun zq zq=>BndR.eq (by kernel_rfl) (by kernel_rfl)) (fun zq=>.nil) rfl fun I hI=>?_
 refine PAt.maps (.head _) (.tail _ (.head _)) ?_
 by_cases h:∃ r∈S.rms,r.nm=nm
 ·obtain ⟨r,hr,rfl⟩:=h
  have hv:=Ok.inn r hr
  refine PC.notinR (b:=true) (.tail _ (.tail _ (.tail _ (.head _)))) Ok.hm Ok.lom (by rw [hv];rfl) ?_
  exact PAt.maps (.head _) (.tail _ (.head _)) (PSb.dctR (.tail _ (.tail _ (.tail _ (.head _)))) Ok.hm hv ⟨_,.refl,S,r,rfl,rfl,rfl,hr,rfl,Ok.mono (Nat.le_succ _)⟩)
 ·have hno:∀ r∈S.rms,r.nm≠nm:=fun r hr e=>h ⟨r,hr,e⟩
  have hv:=Ok.out nm hno
  refine PC.notinR (b:=false) (.tail _ (.tail _ (.tail _ (.head _)))) Ok.hm Ok.lom (by rw [hv];rfl) ?_
  refine PAt.defaults (.head _) (.tail _ (.head _)) (PMe.dictGet (.tail _ (.tail _ (.head _))) Ok.hd (PCall.dictGet (.tail _ (.tail _ (.head _))) Ok.hd Ok.lod (fun F=>pvP_ok (Ok.dfl nm hn)) (PCall.rnew (Nat.le_trans (by decide) (Nat.le_of_eq hI.symm)) fun x dx ls lv d t1 t2 t3=>?_)))
  refine PAt.maps (.tail _ (.tail _ (.tail _ (.tail _ (.head _))))) (.tail _ (.tail _ (.tail _ (.tail _ (.tail _ (.head _)))))) (PPut.dictR (List.perm_middle (l₁:=[_,_,_,_,_,_,_])) Ok.hm (Nat.le_trans Ok.mlen (Nat.le_trans hl (by decide))) fun F' v o' hv' ho'=>?_)
  rw [hv'.valI] at ho'
  refine PAt.maps (.tail _ (.tail _ (.tail _ (.tail _ (.tail _ (.head _)))))) (.tail _ (.tail _ (.tail _ (.tail _ (.tail _ (.tail _ (.head _))))))) (PSb.dctR (.head _) ho' (by rw [valueAt_stored,if_pos rfl]) ?_)
  refine ⟨DS.pl w { S with om:=o',mv:=stored S.mv nm (.ref x),rms:=⟨nm,x,dx,ls,lv,d,t1,t2,t3,3,[0],[dflt nm]⟩::S.rms },?_,_,_,rfl,rfl,rfl,.head _,rfl,Ok.hd,Ok.dfl,Ok.lod,ho',Ok.lom,?_,fun r hr=>?_,fun n hn'=>?_,fun r hr=>?_,fun r hr=>?_,fun n hu hn'=>?_,?_⟩
  ·exact .take (pre:=[_,_,_,_,_]) (.take (pre:=[_,_,_,_,_]) (.take (pre:=[_,_,_,_,_]) (.take (pre:=[]) .refl)))
  ·exact Nat.le_trans (stored_length_le S.mv nm (.ref x)) (Nat.succ_le_succ Ok.mlen)
  ·dsimp only at hr ⊢
   rw [valueAt_stored]
   rcases List.mem_cons.mp hr with rfl|hr
   ·rw [if_pos rfl]
   ·rw [if_neg (hno r hr)];exact Ok.inn r hr
  ·dsimp only at hn' ⊢
   rw [valueAt_stored,if_neg (fun q=>hn' _ (.head _) q.symm)]
   exact Ok.out n fun r hr=>hn' r (.tail _ hr)
  ·dsimp only at hr
   rcases List.mem_cons.mp hr with rfl|hr
   ·dsimp only
    rw [Ok.nom nm hn hno];exact rm_new _
   ·exact Ok.rok r hr
  ·dsimp only at hr
   rcases List.mem_cons.mp hr with rfl|hr
   ·exact Nat.le_add_right _ _
   ·exact Nat.le_trans (Ok.rlen r hr) (by omega)
  ·exact Ok.nom n hu fun r hr=>hn' r (.tail _ hr)
  ·rw [List.map_cons,List.nodup_cons]
   refine ⟨fun q=>?_,Ok.nmd⟩
   obtain ⟨r,hr,hq⟩:=List.mem_map.mp q
   exact hno r hr hq
theorem n_put (w:World) {S:DS} {sg:Str→Int→PV} {len:Nat} {nm:Str} {a b:Int} {q:PV} (Ok:DK w S sg len) (hl:len≤300) (hn:nm∈usedNames) (ha:0≤a) (hab:a≤b) (hb:b≤1114111) (l1:b<1114111→Likeable w (sg nm (b+1)) q) (l2:0<a→Likeable w (sg nm (a - 1)) q):
  PN w 350 [.val (.ref S.x),.str nm,.int a,.int b,pvP q] 50 (S.pl w) fun p pl=>∃ S':DS,p= .none∧pl=S'.pl w∧S'.x=S.x∧DK w S' (updS sg nm a b q) (len+2):=by
 refine PN.of (D:=49) ns_350 [] k_350 [some 4,some 3,some 2,some 1,some 0] [] [] [some (pvP q),some (.int b),some (.int a),some (.str nm),some (.val (.ref S.x))] ⟨by kernel_rfl,by kernel_rfl⟩ (fun zq zq zq zq zq=>BndR.eq (by kernel_rfl) (by kernel_rfl)) (fun zq=>.nil) rfl fun I hI=>?_
 have d30:30≤I.D:=Nat.le_trans (by decide) (Nat.le_of_eq hI.symm)
 refine PMe.daMap (.head _) (.tail _ (.head _)) (PN.call (n_mapof w Ok (Nat.le_trans hl (by decide)) hn) d30 (r:=[]) (by rw [List.append_nil]) ?_)
 rintro p pl ⟨S',r,rfl,rfl,hx,hr,rfl,Ok'⟩
 rw [List.append_nil]
 obtain ⟨R1,R2,e⟩:=List.append_of_mem hr
 refine PMe.rmPut (DS.in hr _ (.head _)) (DS.in hr _ (.tail _ (.head _))) (PN.call (n_rput w (Ok'.rok r hr) (by have:=Ok'.rlen r hr;omega) ha hab hb l1 l2) (Nat.le_trans (by decide) d30) (DS.cut e) ?_)
 rintro p pl ⟨r',rfl,rfl,ex,en,R,rl⟩
 have nd:=Ok'.nmd
 rw [e,List.map_append,List.map_cons] at nd
 have sgo:∀ z∈R1++R2,z.nm≠r.nm:=fun z hz ez=>by
  have nd:=(List.perm_middle (a:=r.nm) (l₁:=R1.map (·.nm)) (l₂:=R2.map (·.nm))).nodup_iff.mp nd
  refine (List.nodup_cons.mp nd).1 ?_
  rw [←ez,←List.map_append]
  exact List.mem_map_of_mem hz
 have old:∀ z,z∈R1++r'::R2→z=r'∨(z∈R1++R2∧z∈S'.rms):=fun z hz=>by
  rw [e]
  rcases List.mem_append.mp hz with h|h
  ·exact .inr ⟨List.mem_append_left _ h,List.mem_append_left _ h⟩
  ·rcases List.mem_cons.mp h with h|h
   ·exact .inl h
   ·exact .inr ⟨List.mem_append_right _ h,List.mem_append_right _ (.tail _ h)⟩
 have oth:∀ z∈R1++R2,updS sg r.nm a b q z.nm=sg z.nm:=fun z hz=>by funext c;unfold updS;rw [if_neg (sgo z hz)]
 have cov:∀ (n:Str),(∀ z∈R1++r'::R2,z.nm≠n)→∀ z∈S'.rms,z.nm≠n:=fun n h9 z hz=>by
  rw [e] at hz
  rcases List.mem_append.mp hz with hz|hz
  ·exact h9 z (List.mem_append_left _ hz)
  ·rcases List.mem_cons.mp hz with rfl|hz
   ·rw [←en];exact h9 r' (List.mem_append_right _ (.head _))
   ·exact h9 z (List.mem_append_right _ (.tail _ hz))
 refine ⟨DS.pl w { S' with rms:=R1++r'::R2 },⟨[],by rw [List.append_nil];exact (DS.cut (S:={ S' with rms:=R1++r'::R2 }) rfl).symm⟩,_,rfl,rfl,hx,Ok'.hd,Ok'.dfl,Ok'.lod,Ok'.hm,Ok'.lom,Nat.le_succ_of_le Ok'.mlen,fun z hz=>?_,fun n h=>Ok'.out n (cov n h),fun z hz=>?_,fun z hz=>?_,fun n hu h9=>?_,?_⟩
 ·rcases old z hz with rfl|⟨_,h⟩
  ·rw [en,ex];exact Ok'.inn r hr
  ·exact Ok'.inn z h
 ·rcases old z hz with rfl|⟨h,h'⟩
  ·refine RMok.congr R fun c=>?_
   unfold putF updS
   rw [en,if_pos rfl]
  ·rw [oth z h];exact Ok'.rok z h'
 ·rcases old z hz with rfl|⟨_,h⟩
  ·have:=Ok'.rlen r hr
   omega
  ·exact Nat.le_trans (Ok'.rlen z h) (by omega)
 ·have ne:n≠r.nm:=fun q=>h9 r' (List.mem_append_right _ (.head _)) (en.trans q.symm)
  have:updS sg r.nm a b q n=sg n:=by funext c;unfold updS;rw [if_neg ne]
  rw [this]
  exact Ok'.nom n hu (cov n h9)
 ·rw [List.map_append,List.map_cons,en];exact nd
theorem PCall.dnew {w:World} {D:Nat} {pl:PL} {K:KP} (hD:30≤D) (k:∀ S,DK w S (fun n zq=>dflt n) 0→K (.val (.ref S.x)) (S.pl w++pl)):PCall w D (.ref 367) [] pl K:=
 PCall.dnew0 hD ⟨fun x dx dd dm dp dw t1 t2 t3 t4 od om dk a1 a2 a3 a4 a5=>k ⟨x,dx,dd,dm,dp,dw,t1,t2,t3,t4,od,om,dk,[],[]⟩ ⟨a1,a2,a3,a4,a5,Nat.le_refl _,fun r hr=>absurd hr List.not_mem_nil,fun zq zq=>rfl,fun r hr=>absurd hr List.not_mem_nil,fun r hr=>absurd hr List.not_mem_nil,fun zq zq zq=>rfl,List.nodup_nil⟩⟩
set_option tactic.hygienic true
section
variable {w:World} {D:Nat} {pl:PL} {K:KP}
set_option tactic.hygienic false
noncomputable abbrev Sub (a pl:PL):Prop:=PSubP a pl
theorem Sub.refl {a r:PL}:Sub a (a++r):=⟨r,.refl _⟩
theorem Sub.tail {a:PL} {x:Addr×PO} (h:Sub a pl):Sub a (x::pl):=by
 obtain ⟨r,h⟩:=h
 exact ⟨x::r,List.perm_middle.trans (h.cons x)⟩
theorem Sub.mem {a:PL} {x:Addr×PO} (h:Sub a pl) (m:x∈a):x∈pl:=by
 obtain ⟨r,h⟩:=h
 exact h.mem_iff.mp (List.mem_append_left _ m)
theorem sub_app {a:PL} (r:PL):Sub a (r++a):=.right
theorem PMe.dget {W:PL→KPs→Prop} {S:DS} (sub:Sub (S.pl w) pl) (h:W pl fun ps pl=>PCall w D (.ref 357) (.val (.ref S.x)::ps) pl K):PMe w D (.val (.ref S.x)) (Str.ofString "get") W pl K:=
 ⟨.ref 357,rfl,fun F l v hv hl=>by rw [hv.valI];exact GM.getI (C:=367) (hl.memR (sub.mem (.head _))) (hl.memR (sub.mem (.tail _ (.head _)))) (by kernel_rfl) (by kernel_rfl) (by kernel_rfl) (by kernel_rfl) ⟨rfl,rfl⟩,h⟩
theorem PMe.dput {W:PL→KPs→Prop} {S:DS} {x0:Addr} (hx:S.x=x0) (sub:Sub (S.pl w) pl) (h:W pl fun ps pl=>PCall w D (.ref 350) (.val (.ref x0)::ps) pl K):PMe w D (.val (.ref x0)) (Str.ofString "put") W pl K:=
 ⟨.ref 350,rfl,fun F l v hv hl=>by
   subst hx
   rw [hv.valI];exact GM.getI (C:=367) (hl.memR (sub.mem (.head _))) (hl.memR (sub.mem (.tail _ (.head _)))) (by kernel_rfl) (by kernel_rfl) (by kernel_rfl) (by kernel_rfl) ⟨rfl,rfl⟩,h⟩
theorem PCall.dget {S:DS} {sg:Str→Int→PV} {len:Nat} {nm:Str} {c:Int} (Ok:DK w S sg len) (hD:25≤D) (sub:Sub (S.pl w) pl) (hl:len≤400) (hn:nm∈usedNames) (hc:0≤c) (hc2:c≤MX) (k:K (pvP (sg nm c)) pl):PCall w D (.ref 357) [.val (.ref S.x),.str nm,.int c] pl K:=by
 obtain ⟨r,hp⟩:=sub
 refine PN.callP (n_get w Ok hl hn hc hc2) hD hp ?_
 rintro p pl' ⟨rfl,rfl⟩
 exact ⟨pl,hp,k⟩
theorem PCall.dput {S:DS} {x0:Addr} {sg:Str→Int→PV} {len:Nat} {nm:Str} {a b:Int} {q:PV} {r:PL} (Ok:DK w S sg len) (hx:S.x=x0) (hD:50≤D) (hl:len≤300) (hn:nm∈usedNames) (ha:0≤a) (hab:a≤b) (hb:b≤1114111)
  (l1:b<1114111→Likeable w (sg nm (b+1)) q) (l2:0<a→Likeable w (sg nm (a - 1)) q) (hp:List.Perm pl (S.pl w++r)) (k:∀ S',S'.x=x0→DK w S' (updS sg nm a b q) (len+2)→K .none (S'.pl w++r)):PCall w D (.ref 350) [.val (.ref x0),.str nm,.int a,.int b,pvP q] pl K:=by
 subst hx
 refine PN.call (n_put w Ok hl hn ha hab hb l1 l2) hD hp.symm ?_
 rintro p pl ⟨S',rfl,rfl,hx,Ok'⟩
 exact k S' hx Ok'
set_option tactic.hygienic true
end
end
section
set_option tactic.hygienic false
noncomputable def ns_234:List Str:=[Str.ofString "told",Str.ofString "above"]
noncomputable def k_234:Ss:=(.cons (.asg 1 (.ife (.cmp .Lt (.sub (.v 0) (.k (.int 0))) (.k (.int 0))) (.bin .Add (.k (.bytes [45])) (.call (.g (.ref 111)) (.cons (.un .USub (.sub (.v 0) (.k (.int 0)))) .nil))) (.call (.g (.ref 111)) (.cons (.sub (.v 0) (.k (.int 0))) .nil)))) (.cons (.ret (.ife (.cmp .Eq (.sub (.v 0) (.k (.int 1))) (.k (.int 1))) (.v 1) (.bin .Add (.bin .Add (.v 1) (.k (.bytes [47]))) (.call (.g (.ref 111)) (.cons (.sub (.v 0) (.k (.int 1))) .nil))))) .nil))
noncomputable def ns_246:List Str:=[Str.ofString "code",Str.ofString "data",Str.ofString "kind",Str.ofString "value",Str.ofString "told"]
noncomputable def k_246:Ss:=(.cons (.asgS [2,3] (.tup (.cons (.meth (.v 1) (Str.ofString "get") (.cons (.k (.str (Str.ofString "nt"))) (.cons (.v 0) .nil))) (.cons (.meth (.v 1) (Str.ofString "get") (.cons (.k (.str (Str.ofString "nv"))) (.cons (.v 0) .nil))) .nil)))) (.cons (.ife (.bool .Or (.cons (.cmp .Is (.v 2) (.k .none)) (.cons (.cmp .Is (.v 3) (.k .none)) .nil))) (.cons (.ret (.lst (.cons (.k (.bytes [])) (.cons (.k (.bytes [])) (.cons (.k (.bytes [])) .nil))))) .nil) .nil) (.cons (.asg 4 (.call (.g (.ref 234)) (.cons (.v 3) .nil))) (.cons (.ret (.lst (.cons (.ife (.cmp .Eq (.v 2) (.k (.str (Str.ofString "de")))) (.v 4) (.k (.bytes []))) (.cons (.ife (.cmp .In (.v 2) (.tup (.cons (.k (.str (Str.ofString "de"))) (.cons (.k (.str (Str.ofString "di"))) .nil)))) (.v 4) (.k (.bytes []))) (.cons (.v 4) .nil))))) .nil))))
set_option tactic.hygienic true
section
variable {w:World} {D:Nat} {pl:PL} {K:KP}
set_option tactic.hygienic false
theorem PC.inStrs {z:Str} {ys:List Str} (k:K (.bool (ys.any (· ==z))) pl):PC w D .In (.str z) (.tup (ys.map P.str)) pl K:=⟨fun F l x y hx hy hl=>by
 obtain ⟨_,rfl⟩:=hx.strI
 obtain ⟨us,T,r⟩:=hy.tupL hl.sub
 exact ⟨fun C m hD s Q S q=>by
  obtain ⟨t,rfl,ht⟩:=T.at S
  exact in_tuple_strs ht (strs_of r) (q _ l s.heap _ (liftK.mk .bool hl k) ⟨S.F,S.N,S.D⟩)⟩⟩
set_option tactic.hygienic true
end
set_option tactic.hygienic false
theorem n_frac (w:World) {n d:Int} (h1: -2097152<n) (h2:n<2097152) (h3:0<d) (h4:d<2097152):PN w 234 [.tup [.int n,.int d]] 15 [] fun p pl=>p= .bytes (fracB n d)∧pl=[]:=by
 refine PN.of (D:=14) ns_234 [] k_234 [some 0,none] [] [] [some (.tup [.int n,.int d]),none] ⟨by kernel_rfl,by kernel_rfl⟩ (fun zq=>BndR.eq (by kernel_rfl) (by kernel_rfl)) (fun zq=>.nil) rfl fun I hI=>?_
 have d10:10≤I.D:=Nat.le_trans (by decide) (Nat.le_of_eq hI.symm)
 have zd:=decB_size d
 have fin:∀ {B:Array UInt8},B.size≤11→PSs w I (match k_234 with| .cons _ c=>c|_=>.nil) [some (.tup [.int n,.int d]),some (.bytes B)] [] (pRet fun p pl=>p= .bytes (B++(if d=1 then #[] else #[47]++decB d))∧pl=[]):=fun {B} z=>by
  refine pif (fun h=>?_) fun h=>?_
  ·exact ⟨_,.nil,by rw [if_pos h,Array.append_empty],rfl⟩
  ·refine PB.bytes (Nat.le_trans (Nat.add_le_add_right z _) (by decide)) (PCall.dec d10 (Int.le_of_lt h3) h4 (PB.bytes ?_ ⟨_,.nil,by rw [if_neg h,Array.append_assoc],rfl⟩))
   rw [Array.size_append]
   exact Nat.le_trans (Nat.add_le_add (Nat.add_le_add_right z _) zd) (by decide)
 unfold fracB
 refine pif (fun h=>?_) fun h=>?_
 ·rw [if_pos h]
  have z:=decB_size (-n)
  have hs:=Nat.le_trans (Nat.add_le_add_left z (#[45]:Array UInt8).size) (by decide:_≤11)
  exact PCall.dec d10 (by omega) (by omega) (PB.bytes (Nat.le_trans hs (by decide)) (fin (by rw [Array.size_append];exact hs)))
 ·rw [if_neg h]
  exact PCall.dec d10 (Int.not_lt.mp h) h2 (fin (Nat.le_trans (decB_size n) (by decide)))
theorem kind_p {q:PV} {o:Option Str} (h:∀ v,IsV v q→KindV v o):pvP q=strO o∧(∀ z,o=some z→z=Str.ofString "de"∨z=Str.ofString "di"∨z=Str.ofString "nu"):=by
 obtain ⟨v,hv⟩:=pv_some q
 have k:=h v hv
 cases k<;>cases hv
 ·exact ⟨rfl,fun z h=>nomatch h⟩
 ·exact ⟨rfl,fun z h=>.inl (Option.some.inj h).symm⟩
 ·exact ⟨rfl,fun z h=>.inr (.inl (Option.some.inj h).symm)⟩
 ·exact ⟨rfl,fun z h=>.inr (.inr (Option.some.inj h).symm)⟩
set_option tactic.hygienic true
theorem num_p {w:World} {q:PV} {o:Option (Int×Int)} (h:∀ v,IsV v q→NumV w v o):(o=none∧q= .none)∨∃ a n d,o=some (n,d)∧q= .ref a∧(∀ F,RV w F (.tup [.int n,.int d]) (.ref a))∧ -2097152<n∧n<2097152∧0<d∧d<2097152:=by
 obtain ⟨v,hv⟩:=pv_some q
 have k:=h v hv
 cases k<;>cases hv
 ·exact .inl ⟨rfl,rfl⟩
 ·rename_i hT h1 h2 h3 h4
  exact .inr ⟨_,_,_,rfl,rfl,fun F=>.tupK (.cons .int (.cons .int .nil)) hT,h1,h2,h3,h4⟩
set_option tactic.hygienic false
theorem n_unum (w:World) {S:DS} {sg:Str→Int→PV} {len:Nat} {c:Int} {kd:Option Str} {nv:Option (Int×Int)} (Ok:DK w S sg len) (hl:len≤400) (hc:0≤c) (hc2:c≤MX) (hk:∀ v,IsV v (sg (Str.ofString "nt") c)→KindV v kd) (hn:∀ v,IsV v (sg (Str.ofString "nv") c)→NumV w v nv):
  PN w 246 [.val (.ref S.x),.int c] 35 (S.pl w) fun p pl=>∃ a,p= .val (.ref a)∧pl=(a,.list ((numB kd nv).map P.bytes))::S.pl w:=by
 refine PN.of (D:=34) ns_246 [] k_246 [some 1,some 0,none,none,none] [] [] [some (.int c),some (.val (.ref S.x)),none,none,none] ⟨by kernel_rfl,by kernel_rfl⟩ (fun zq zq=>BndR.eq (by kernel_rfl) (by kernel_rfl)) (fun zq=>.nil) rfl fun I hI=>?_
 have d25:25≤I.D:=Nat.le_trans (by decide) (Nat.le_of_eq hI.symm)
 have u1:Str.ofString "nt"∈usedNames:=by decide+kernel
 have u2:Str.ofString "nv"∈usedNames:=by decide+kernel
 obtain ⟨e1,z1⟩:=kind_p hk
 refine PMe.dget PSubP.refl (PCall.dget Ok d25 PSubP.refl hl u1 hc hc2 (PMe.dget PSubP.refl (PCall.dget Ok d25 PSubP.refl hl u2 hc hc2 ?_)))
 rw [e1]
 cases kd with
 |none=>exact fun a=>⟨_,.refl,a,rfl,rfl⟩
 |some z=>
  rcases num_p hn with ⟨rfl,e2⟩|⟨a,n,d,rfl,e2,hT,h1,h2,h3,h4⟩
  ·rw [e2];exact fun a=>⟨_,.refl,a,rfl,rfl⟩
  ·rw [e2]
   refine PCall.asT hT (PN.call (n_frac w h1 h2 h3 h4) (Nat.le_trans (by decide) d25) (.refl _) ?_)
   rintro p pl ⟨rfl,rfl⟩
   rcases z1 z rfl with rfl|rfl|rfl
   ·exact PC.inStrs (ys:=[Str.ofString "de",Str.ofString "di"]) fun a=>⟨_,.refl,a,rfl,by rw [numB_de];rfl⟩
   ·exact PC.inStrs (ys:=[Str.ofString "de",Str.ofString "di"]) fun a=>⟨_,.refl,a,rfl,by rw [numB_di];rfl⟩
   ·exact PC.inStrs (ys:=[Str.ofString "de",Str.ofString "di"]) fun a=>⟨_,.refl,a,rfl,by rw [numB_nu];rfl⟩
theorem PCall.unum {w:World} {D:Nat} {pl:PL} {K:KP} {S:DS} {sg:Str→Int→PV} {len:Nat} {c:Int} {kd:Option Str} {nv:Option (Int×Int)} (Ok:DK w S sg len) (hD:35≤D) (sub:Sub (S.pl w) pl) (hl:len≤400) (hc:0≤c) (hc2:c≤MX) (hk:∀ v,IsV v (sg (Str.ofString "nt") c)→KindV v kd) (hn:∀ v,IsV v (sg (Str.ofString "nv") c)→NumV w v nv)
  (k:∀ a,K (.val (.ref a)) ((a,.list ((numB kd nv).map P.bytes))::pl)):PCall w D (.ref 246) [.val (.ref S.x),.int c] pl K:=by
 obtain ⟨r,hp⟩:=sub
 refine PN.callP (n_unum w Ok hl hc hc2 hk hn) hD hp ?_
 rintro p pl' ⟨a,rfl,rfl⟩
 exact ⟨_,hp.cons _,k a⟩
end
section
set_option tactic.hygienic false
noncomputable def ns_457:List Str:=[Str.ofString "worth",Str.ofString "sort",Str.ofString "figure"]
noncomputable def k_457:Ss:=(.cons (.ife (.bool .Or (.cons (.cmp .Is (.v 1) (.k .none)) (.cons (.cmp .Is (.v 0) (.k .none)) .nil))) (.cons (.ret (.lst (.cons (.k (.str (Str.ofString ""))) (.cons (.k (.str (Str.ofString ""))) (.cons (.k (.str (Str.ofString ""))) .nil))))) .nil) .nil) (.cons (.asg 2 (.bin .Add (.call (.g (.type "str")) (.cons (.sub (.v 0) (.k (.int 0))) .nil)) (.ife (.cmp .NotEq (.sub (.v 0) (.k (.int 1))) (.k (.int 1))) (.bin .Add (.k (.str (Str.ofString "/"))) (.call (.g (.type "str")) (.cons (.sub (.v 0) (.k (.int 1))) .nil))) (.k (.str (Str.ofString "")))))) (.cons (.ret (.lst (.cons (.ife (.cmp .Eq (.v 1) (.k (.str (Str.ofString "de")))) (.v 2) (.k (.str (Str.ofString "")))) (.cons (.ife (.cmp .In (.v 1) (.tup (.cons (.k (.str (Str.ofString "de"))) (.cons (.k (.str (Str.ofString "di"))) .nil)))) (.v 2) (.k (.str (Str.ofString "")))) (.cons (.v 2) .nil))))) .nil)))
noncomputable def strI (n:Int):Str:=Str.ofString (toString n)
noncomputable def figG (n d:Int):Str:=strI n++(if d≠1 then Str.ofString "/"++strI d else Str.ofString "")
noncomputable def l3 (b c:Bool) (f:Str):List Str:=[cond b f (Str.ofString ""),cond c f (Str.ofString ""),f]
noncomputable def numG:Option Str→Option (Int×Int)→List Str
 |some z,some (n,d)=>l3 (z==Str.ofString "de") ([Str.ofString "de",Str.ofString "di"].any (· ==z)) (figG n d)
 |_,_=>[Str.ofString "",Str.ofString "",Str.ofString ""]
theorem nums_are:∀ q∈numPairs,numS q.1 q.2=numG (kindO q.1) (numO q.2)∧(∀ nd∈(numO q.2).toList,(strI nd.1).length≤20∧(strI nd.2).length≤20):=by decide+kernel
theorem nums_in:∀ q∈numPairs,(q.1= .none∨q.1= .str (Str.ofString "de")∨q.1= .str (Str.ofString "di")∨q.1= .str (Str.ofString "nu"))∧(q.2= .none∨q.2= .ref 384∨q.2= .ref 386∨q.2= .ref 388∨q.2= .ref 390∨q.2= .ref 392∨q.2= .ref 394∨q.2= .ref 397∨q.2= .ref 399∨q.2= .ref 401):=by decide+kernel
set_option tactic.hygienic true
theorem PCall.strI {w:World} {D:Nat} {pl:PL} {K:KP} {n:Int} (h0: -2097152<n) (h1:n<2097152) (k:K (.str (Mine.Internal.strI n)) pl):PCall w D (.type "str") [.int n] pl K:=⟨fun F l us hps hl=>by
 obtain ⟨_,rfl,e1⟩:=hps.one
 obtain ⟨t,rfl⟩:=e1.intI
 refine ⟨fun C m hD s Q St q=>?_⟩
 rcases C with ⟨mean,mg,mb,dp,un,gd,cn,cs,a,ccd,cl,outer,A₀,base,h₀,L,B,X,T,hk,D,hd,hu,hid⟩
 rcases St with ⟨F,N,P⟩
 dsimp only at F N P q
 show wpAny _ (ktrTop dp un gd cn cs L a ccd cl outer) _ _ _ _
 k_steps
 rename Fr _ _ _ _=>F9
 rename News _ _ _ _=>N9
 exact q _ _ _ _ (liftK.mk .str hl k) ⟨F9,N9,P⟩⟩
set_option tactic.hygienic false
theorem num_body (w:World) {I:Fi} {z:Str} {n d:Int} {Y:List Str} (h1: -2097152<n) (h2:n<2097152) (h3:0<d) (h4:d<2097152) (hn:(strI n).length≤20) (hd:(strI d).length≤20) (e:Y=numG (some z) (some (n,d))):
  PSs w I k_457 [some (.tup [.int n,.int d]),some (.str z),none] [] (pRet fun p pl=>∃ c,p= .val (.ref c)∧pl=[(c,.list (Y.map P.str))]):=by
 have up:∀ {x:Nat},x≤41→x≤16777216:=fun h=>Nat.le_trans h (by decide)
 subst e
 have fin:∀ {B:Str},B=figG n d→PSs w I (match k_457 with| .cons _ (.cons _ c)=>c|_=>.nil) [some (.tup [.int n,.int d]),some (.str z),some (.str B)] [] (pRet fun p pl=>∃ c,p= .val (.ref c)∧pl=[(c,.list ((numG (some z) (some (n,d))).map P.str))]):=fun {B} eB=>by
  subst eB
  refine pifB (fun g1=>?_) fun g1=>?_
  ·refine PC.inStrs (ys:=[Str.ofString "de",Str.ofString "di"]) (pifB (fun g2 a=>⟨_,.refl,a,rfl,?_⟩) fun g2 a=>⟨_,.refl,a,rfl,?_⟩)
   ·show _=[(a,PO.list ((l3 (z==Str.ofString "de") ([Str.ofString "de",Str.ofString "di"].any (· ==z)) (figG n d)).map P.str))];rw [g1,g2];rfl
   ·show _=[(a,PO.list ((l3 (z==Str.ofString "de") ([Str.ofString "de",Str.ofString "di"].any (· ==z)) (figG n d)).map P.str))];rw [g1,g2];rfl
  ·refine PC.inStrs (ys:=[Str.ofString "de",Str.ofString "di"]) (pifB (fun g2 a=>⟨_,.refl,a,rfl,?_⟩) fun g2 a=>⟨_,.refl,a,rfl,?_⟩)
   ·show _=[(a,PO.list ((l3 (z==Str.ofString "de") ([Str.ofString "de",Str.ofString "di"].any (· ==z)) (figG n d)).map P.str))];rw [g1,g2];rfl
   ·show _=[(a,PO.list ((l3 (z==Str.ofString "de") ([Str.ofString "de",Str.ofString "di"].any (· ==z)) (figG n d)).map P.str))];rw [g1,g2];rfl
 refine PCall.strI h1 h2 (pifB (fun g=>?_) fun g=>?_)
 ·have ne:d≠1:=bne_iff_ne.mp g
  refine PCall.strI (by omega) h4 (PB.str (up (Nat.le_trans (Nat.add_le_add_left hd _) (by decide))) (PB.str (up ?_) (fin (by unfold figG;rw [if_pos ne]))))
  have:(Str.ofString "/"++strI d).length=(Str.ofString "/").length+(strI d).length:=Array.size_append
  rw [this]
  exact Nat.le_trans (Nat.add_le_add hn (Nat.add_le_add_left hd _)) (by decide)
 ·have e1:d=1:=by simpa using g
  refine PB.str (up (Nat.le_trans (Nat.add_le_add_right hn _) (by decide))) (fin (by unfold figG;rw [if_neg (fun h=>h e1)]))
noncomputable def numT:Option (Int×Int)→P
 |none=>.none
 |some (n,d)=>.tup [.int n,.int d]
theorem n_lnum (w:World) {a b:PV} (h:(a,b)∈numPairs):PN w 457 [pvP a,pvP b] 15 [] fun p pl=>∃ c,p= .val (.ref c)∧pl=[(c,.list ((numS a b).map P.str))]:=by
 obtain ⟨eS,hz⟩:=nums_are _ h
 obtain ⟨i1,i2⟩:=nums_in _ h
 dsimp only at eS hz i1 i2
 obtain ⟨e1,_⟩:=kind_p fun v hv=>kind_of hv i1
 have m:=num_p fun v hv=>num_of w hv i2
 rw [eS,e1]
 refine PN.mapA (ps':=[strO (kindO a),numT (numO b)]) (fun F us h=>?_) (PN.of (D:=14) ns_457 [] k_457 [some 1,some 0,none] [] [] [some (numT (numO b)),some (strO (kindO a)),none] ⟨by kernel_rfl,by kernel_rfl⟩ (fun zq zq=>BndR.eq (by kernel_rfl) (by kernel_rfl)) (fun zq=>.nil) rfl fun I hI=>?_)
 ·obtain ⟨v,u,rfl,g1,g2⟩:=h.two
  refine .cons g1 (.cons ?_ .nil)
  rcases m with ⟨n1,n2⟩|⟨ad,n,d,n1,n2,hT,_⟩
  ·rw [n1];rw [n2] at g2;exact g2
  ·rw [n1];rw [n2] at g2;rw [g2.valI];exact hT F
 ·rcases m with ⟨n1,_⟩|⟨ad,n,d,n1,n2,hT,h1,h2,h3,h4⟩
  ·rw [n1]
   cases kindO a with
   |none=>exact fun a=>⟨_,.refl,a,rfl,rfl⟩
   |some z=>exact fun a=>⟨_,.refl,a,rfl,rfl⟩
  ·obtain ⟨hn,hd⟩:=hz (n,d) (by rw [n1];exact .head _)
   rw [n1]
   cases kindO a with
   |none=>exact fun a=>⟨_,.refl,a,rfl,rfl⟩
   |some z=>exact num_body w h1 h2 h3 h4 hn hd rfl
theorem PCall.lnum {w:World} {D:Nat} {pl:PL} {K:KP} {a b:PV} (h:(a,b)∈numPairs) (hD:15≤D) (k:∀ c,K (.val (.ref c)) ((c,.list ((numS a b).map P.str))::pl)):PCall w D (.ref 457) [pvP a,pvP b] pl K:=by
 refine PN.call (n_lnum w h) hD (.refl _) ?_
 rintro p pl ⟨c,rfl,rfl⟩
 exact k c
end
section
set_option tactic.hygienic false
noncomputable def ns_258:List Str:=[Str.ofString "name",Str.ofString "upper",Str.ofString "lower",Str.ofString "title",Str.ofString "fields"]
noncomputable def cn_258:List Str:=[Str.ofString "code",Str.ofString "data"]
noncomputable def k_258:Ss:=(.cons (.asg 0 (.meth (.v 6) (Str.ofString "get") (.cons (.k (.str (Str.ofString "name"))) (.cons (.v 5) .nil)))) (.cons (.asgT [1,2,3] (.comp (.meth (.v 1) (Str.ofString "get") (.cons (.v 0) (.cons (.v 2) .nil))) (.tup (.cons (.k (.str (Str.ofString "uc"))) (.cons (.k (.str (Str.ofString "lc"))) (.cons (.k (.str (Str.ofString "tc"))) .nil)))) [6,5])) (.cons (.asg 4 (.lst (.cons (.call (.g (.ref 90)) (.cons (.v 5) .nil)) (.cons (.ife (.cmp .Is (.v 0) (.k .none)) (.k (.bytes [60,99,111,110,116,114,111,108,62])) (.v 0)) (.cons (.call (.g (.ref 78)) (.cons (.meth (.v 6) (Str.ofString "get") (.cons (.k (.str (Str.ofString "gc"))) (.cons (.v 5) .nil))) .nil)) .nil))))) (.cons (.asg 4 (.bin .Add (.v 4) (.lst (.cons (.call (.g (.ref 111)) (.cons (.meth (.v 6) (Str.ofString "get") (.cons (.k (.str (Str.ofString "ccc"))) (.cons (.v 5) .nil))) .nil)) (.cons (.call (.g (.ref 78)) (.cons (.meth (.v 6) (Str.ofString "get") (.cons (.k (.str (Str.ofString "bc"))) (.cons (.v 5) .nil))) .nil)) .nil))))) (.cons (.asg 4 (.bin .Add (.bin .Add (.v 4) (.lst (.cons (.call (.g (.ref 239)) (.cons (.meth (.v 6) (Str.ofString "get") (.cons (.k (.str (Str.ofString "dm"))) (.cons (.v 5) .nil))) .nil)) .nil))) (.call (.g (.ref 246)) (.cons (.v 6) (.cons (.v 5) .nil))))) (.cons (.asg 4 (.bin .Add (.v 4) (.lst (.cons (.k (.bytes [78])) (.cons (.k (.bytes [])) (.cons (.k (.bytes [])) (.cons (.call (.g (.ref 253)) (.cons (.v 1) .nil)) (.cons (.call (.g (.ref 253)) (.cons (.v 2) .nil)) (.cons (.call (.g (.ref 253)) (.cons (.v 3) .nil)) .nil))))))))) (.cons (.ret (.bin .Add (.meth (.k (.bytes [59])) (Str.ofString "join") (.cons (.v 4) .nil)) (.k (.bytes [10])))) .nil)))))))
theorem row_size {w:World} {r:RowI} {c:Int} {v:Value} (hn:(r.name.getD ctlB).size≤100) (hg:r.gc.cps.size≤100) (hb:r.bc.cps.size≤100) (hm:MapV w v r.dm):(∀ b∈rowFields r c,b.size≤300)∧(rowFields r c).length≤20:=by
 have z1:=hexB_size c
 have z2:=decB_size r.ccc
 have z3:=encA_size r.gc
 have z4:=encA_size r.bc
 have z6:=mapB_size hm
 have z7:=numB_size r.kd r.nv
 have z8:=ucB_size r.uc
 have z9:=ucB_size r.lc
 have z10:=ucB_size r.tc
 unfold rowFields
 constructor
 ·intro b hb
  rcases List.mem_append.mp hb with hb|hb
  ·rcases List.mem_append.mp hb with hb|hb
   ·simp only [List.mem_cons,List.not_mem_nil,or_false] at hb
    rcases hb with rfl|rfl|rfl|rfl|rfl|rfl<;>omega
   ·have:=z7 b hb;omega
  ·simp only [List.mem_cons,List.not_mem_nil,or_false] at hb
   rcases hb with rfl|rfl|rfl|rfl|rfl|rfl<;>first|omega|exact Nat.le_of_ble_eq_true rfl
 ·rw [List.length_append,List.length_append]
  have:(numB r.kd r.nv).length≤3:=by unfold numB;split<;>exact Nat.le_of_ble_eq_true rfl
  simp only [List.length_cons,List.length_nil]
  omega
theorem row_sz {w:World} {sg:Str→Int→PV} {c:Int} {r:RowI} (R:RowAt w sg c r):((∀ b∈rowFields r c,b.size≤300)∧(rowFields r c).length≤20)∧RB.foldSize #[59] (rowFields r c)≤6020∧(rowB r c).size≤6021:=by
 obtain ⟨vm,hvm⟩:=pv_some (sg (Str.ofString "dm") c)
 have z:=row_size (c:=c) (name_p R.name).2 R.gcz R.bcz (R.dm vm hvm)
 have f:RB.foldSize #[59] (rowFields r c)≤6020:=Nat.le_trans (foldSize_le (sep:=#[59]) z.1) (Nat.mul_le_mul_left 301 z.2)
 refine ⟨z,f,?_⟩
 unfold rowB
 rw [Array.size_append]
 exact Nat.add_le_add_right (Nat.le_trans joinB_size f) 1
theorem n_row (w:World) {S:DS} {sg:Str→Int→PV} {len:Nat} {c:Int} {r:RowI} (Ok:DK w S sg len) (hl:len≤400) (hc:0≤c) (hc2:c≤MX) (R:RowAt w sg c r):
  PN w 258 [.val (.ref S.x),.int c] 51 (S.pl w) fun p pl=>p= .bytes (rowB r c)∧pl=S.pl w:=by
 refine PN.of (D:=50) ns_258 cn_258 k_258 [none,none,none,none,none,some 1,some 0] [] [] [none,none,none,none,none,some (.int c),some (.val (.ref S.x))] ⟨by kernel_rfl,by kernel_rfl⟩ (fun zq zq=>BndR.eq (by kernel_rfl) (by kernel_rfl)) (fun zq=>.nil) rfl fun I hI=>?_
 have d35:35≤I.D:=by omega
 have d25:25≤I.D:=Nat.le_trans (by decide) d35
 have d20:20≤I.D:=Nat.le_trans (by decide) d35
 have d15:15≤I.D:=Nat.le_trans (by decide) d35
 have d10:10≤I.D:=Nat.le_trans (by decide) d35
 obtain ⟨u1,u2,u3,u4,u5,u6,u7,u8,u9,u10⟩:=usedAll
 obtain ⟨zz,fz2,fz3⟩:=row_sz (c:=c) R
 obtain ⟨h1,h2,h3,h4,h5,h6,h7,h8,h9,h10,h11,h12,h13,h14,h15,h16,h17,h18⟩:=R
 have c21:c<2097152:=by unfold MX at hc2;omega
 have e1:=(name_p h1).1
 have s0:Sub (S.pl w) (S.pl w):=PSubP.refl
 refine PMe.dget s0 (PCall.dget Ok d25 s0 hl u1 hc hc2 ?_)
 rw [e1]
 refine PCp.tup (fun i ys pl=>pl=S.pl w∧ys=([optP r.uc,optP r.lc,optP r.tc]:List P).take i) (Nat.le_of_ble_eq_true rfl) ⟨_,.refl,rfl,rfl⟩ ?_ ?_
 ·rintro i p ys pl hp ⟨rfl,rfl⟩
  have fin:∀ {nm:Str} {o:Option Int},p= .str nm→nm∈usedNames→(∀ v,IsV v (sg nm c)→OptInt o v)→([optP r.uc,optP r.lc,optP r.tc]:List P)[i]? =some (optP o)→PX w I.D (.meth (.v 1) (Str.ofString "get") (.cons (.v 0) (.cons (.v 2) .nil))) [some p,some (.val (.ref S.x)),some (.int c)] (S.pl w) (pEnd (fun ys pl=>pl=S.pl w∧ys=([optP r.uc,optP r.lc,optP r.tc]:List P).take (i+1)) (([optP r.uc,optP r.lc,optP r.tc]:List P).take i)):=fun e hn ho hi=>by
   rw [e]
   refine PMe.dget s0 (PCall.dget Ok d25 s0 hl hn hc hc2 ⟨_,.refl,rfl,?_⟩)
   rw [opt_p ho,List.take_add_one,hi];rfl
  rcases i with _|_|_|i
  ·exact fin (Option.some.inj hp).symm u8 h13 rfl
  ·exact fin (Option.some.inj hp).symm u9 h14 rfl
  ·exact fin (Option.some.inj hp).symm u10 h15 rfl
  ·cases hp
 rintro ys pl ⟨rfl,rfl⟩
 refine .inl (PUn.lst rfl ?_)
 refine PCall.hex d10 hc c21 (pcut (x:=.ife _ _ _) (q:=.bytes (r.name.getD ctlB)) (fun K' k=>?_) ?_)
 ·revert k
  cases r.name<;>exact fun k=>k
 refine PMe.dget s0 (PCall.dget Ok d25 s0 hl u2 hc hc2 ?_)
 rw [h2]
 refine PCall.enc d15 (by omega) h4 fun a1=>?_
 have s1:=s0.tail (x:=(a1,.list [.bytes (hexB c),.bytes (r.name.getD ctlB),.bytes (encA r.gc)]))
 refine PMe.dget s1 (PCall.dget Ok d25 s1 hl u3 hc hc2 ?_)
 rw [h5]
 refine PCall.dec d10 h6.1 h6.2 (PMe.dget s1 (PCall.dget Ok d25 s1 hl u4 hc hc2 ?_))
 rw [h7]
 refine PCall.enc d15 (by omega) h9 fun a2=>PB.lists (.tail _ (.head _)) (.head _) (Nat.le_of_ble_eq_true rfl) fun a3=>?_
 have s2:=(s1.tail (x:=(a2,.list [.bytes (decB r.ccc),.bytes (encA r.bc)]))).tail (x:=(a3,.list [.bytes (hexB c),.bytes (r.name.getD ctlB),.bytes (encA r.gc),.bytes (decB r.ccc),.bytes (encA r.bc)]))
 refine PMe.dget s2 (PCall.dget Ok d25 s2 hl u5 hc hc2 (PCall.umap d20 h10 fun a4=>PB.lists (.tail _ (.head _)) (.head _) (Nat.le_of_ble_eq_true rfl) fun a5=>PCall.unum Ok d35 (s2.tail.tail) hl hc hc2 h11 h12 fun a6=>PB.lists (.tail _ (.head _)) (.head _) ?_ fun a7=>?_))
 ·rw [List.length_map]
  have:(numB r.kd r.nv).length≤3:=by unfold numB;split<;>exact Nat.le_of_ble_eq_true rfl
  exact Nat.le_trans (Nat.add_le_add_left this _) (Nat.le_of_ble_eq_true rfl)
 refine PCall.ucode d15 h16 (PCall.ucode d15 h17 (PCall.ucode d15 h18 fun a8=>PB.lists (.tail _ (.head _)) (.head _) ?_ fun a9=>?_))
 ·rw [List.length_append,List.length_map]
  have:(numB r.kd r.nv).length≤3:=by unfold numB;split<;>exact Nat.le_of_ble_eq_true rfl
  exact Nat.le_trans (Nat.add_le_add_right (Nat.add_le_add_left this _) _) (Nat.le_of_ble_eq_true rfl)
 have eR:(rowFields r c).map P.bytes=([.bytes (hexB c),.bytes (r.name.getD ctlB),.bytes (encA r.gc),.bytes (decB r.ccc),.bytes (encA r.bc),.bytes (mapB r.dm)]++(numB r.kd r.nv).map P.bytes)++[.bytes #[78],.bytes #[],.bytes #[],.bytes (ucB r.uc),.bytes (ucB r.lc),.bytes (ucB r.tc)]:=by unfold rowFields;rw [List.map_append,List.map_append];rfl
 refine PMe.joinB (PCall.joinB (bs:=rowFields r c) (by rw [eR];exact .head _) (Nat.le_trans fz2 (Nat.le_of_ble_eq_true rfl)) (PB.bytes ?_ ⟨_,?_,rfl,rfl⟩))
 ·exact Nat.le_trans (Nat.add_le_add_right (Nat.le_trans joinB_size fz2) _) (Nat.le_of_ble_eq_true rfl)
 ·exact .right (r:=[_,_,_,_,_,_,_,_,_])
end
section
set_option tactic.hygienic false
noncomputable def ns_263:List Str:=[Str.ofString "codes"]
noncomputable def cn_263:List Str:=[Str.ofString "data"]
noncomputable def k_263:Ss:=(.cons (.ret (.meth (.k (.bytes [])) (Str.ofString "join") (.cons (.comp (.call (.g (.ref 258)) (.cons (.v 1) (.cons (.v 0) .nil))) (.v 0) [1]) .nil))) .nil)
theorem n_udata (w:World) {S:DS} {sg:Str→Int→PV} {len:Nat} {ns:List Int} {rf:Int→RowI} (Ok:DK w S sg len) (hl:len≤400) (hz:ns.length≤10) (hr:∀ n∈ns,0≤n∧n≤MX∧RowAt w sg n (rf n)):
  PN w 263 [.val (.ref S.x),.lst (ns.map P.int)] 65 (S.pl w) fun p pl=>p= .bytes (joinB #[] (ns.map fun n=>rowB (rf n) n))∧pl=S.pl w:=by
 refine PN.of (D:=64) ns_263 cn_263 k_263 [some 1,some 0] [] [] [some (.lst (ns.map P.int)),some (.val (.ref S.x))] ⟨by kernel_rfl,by kernel_rfl⟩ (fun zq zq=>BndR.eq (by kernel_rfl) (by kernel_rfl)) (fun zq=>.nil) rfl fun I hI=>?_
 have d55:51≤I.D:=by omega
 have fz:RB.foldSize #[] (ns.map fun n=>rowB (rf n) n)≤6021*10:=by
  refine Nat.le_trans (foldSize_le (sep:=#[]) (K:=6021) fun b hb=>?_) ?_
  ·obtain ⟨n,hn,rfl⟩:=List.mem_map.mp hb
   exact (row_sz (hr n hn).2.2).2.2
  ·rw [List.length_map]
   exact Nat.mul_le_mul_left 6021 hz
 refine PMe.joinB (PCp.lst (fun i ys pl=>pl=S.pl w∧ys=((ns.take i).map fun n=>rowB (rf n) n).map P.bytes) ?_ ⟨_,.refl,rfl,rfl⟩ ?_ ?_)
 ·rw [List.length_map];omega
 ·rintro i p ys pl hp ⟨rfl,rfl⟩
  obtain ⟨n,hn,rfl⟩:=map_at hp
  obtain ⟨a,b,c⟩:=hr n (List.mem_of_getElem? hn)
  refine PN.call (n_row w Ok hl a b c) d55 (r:=[]) (by rw [List.append_nil]) ?_
  rintro p pl ⟨rfl,rfl⟩
  refine ⟨_,.refl,List.append_nil _,?_⟩
  rw [List.take_add_one,hn,List.map_append,List.map_append]
  rfl
 ·rintro ys pl ⟨rfl,rfl⟩
  rw [List.length_map,List.take_length]
  exact .inl (PCall.joinBL (Nat.le_trans fz (by decide)) ⟨_,.refl,rfl,rfl⟩)
end
section
set_option tactic.hygienic false
noncomputable def ns_462:List Str:=[Str.ofString "code",Str.ofString "data",Str.ofString "name",Str.ofString "sort",Str.ofString "place",Str.ofString "way",Str.ofString "mapping",Str.ofString "number",Str.ofString "cases",Str.ofString "rows",Str.ofString "word",Str.ofString "value",Str.ofString "fields"]
noncomputable def cn_462:List Str:=[Str.ofString "well"]
noncomputable def k_462:Ss:=(.cons (.asgS [2,3] (.tup (.cons (.call (.g (.ref 431)) (.cons (.v 13) (.cons (.g (.ref 373)) .nil))) (.cons (.call (.g (.ref 431)) (.cons (.v 13) (.cons (.tup (.cons (.k .none) (.cons (.k (.str (Str.ofString "Lu"))) (.cons (.k (.str (Str.ofString "Nd"))) .nil)))) .nil))) .nil)))) (.cons (.asgS [4,5] (.tup (.cons (.call (.g (.ref 431)) (.cons (.v 13) (.cons (.tup (.cons (.k (.int 0)) (.cons (.k (.int 230)) (.cons (.k (.int 9)) .nil)))) .nil))) (.cons (.call (.g (.ref 431)) (.cons (.v 13) (.cons (.tup (.cons (.k .none) (.cons (.k (.str (Str.ofString "R"))) (.cons (.k (.str (Str.ofString "AN"))) .nil)))) .nil))) .nil)))) (.cons (.asgS [6,7] (.tup (.cons (.call (.g (.ref 431)) (.cons (.v 13) (.cons (.g (.ref 382)) .nil))) (.cons (.call (.g (.ref 431)) (.cons (.v 13) (.cons (.g (.ref 403)) .nil))) .nil)))) (.cons (.asgC 8 (.call (.g (.ref 431)) (.cons (.v 1) (.cons (.g (.ref 404)) .nil))) (.call (.g (.type "range")) (.cons (.k (.int 3)) .nil)) [13]) (.cons (.asg 9 (.lst (.cons (.tup (.cons (.k (.str (Str.ofString "name"))) (.cons (.v 2) .nil))) (.cons (.tup (.cons (.k (.str (Str.ofString "gc"))) (.cons (.v 3) .nil))) (.cons (.tup (.cons (.k (.str (Str.ofString "ccc"))) (.cons (.ife (.cmp .Gt (.v 4) (.k (.int 0))) (.v 4) (.k .none)) .nil))) (.cons (.tup (.cons (.k (.str (Str.ofString "bc"))) (.cons (.v 5) .nil))) (.cons (.tup (.cons (.k (.str (Str.ofString "dm"))) (.cons (.v 6) .nil))) .nil))))))) (.cons (.asg 9 (.bin .Add (.v 9) (.lst (.cons (.tup (.cons (.k (.str (Str.ofString "nt"))) (.cons (.sub (.v 7) (.k (.int 0))) .nil))) (.cons (.tup (.cons (.k (.str (Str.ofString "nv"))) (.cons (.sub (.v 7) (.k (.int 1))) .nil))) (.cons (.tup (.cons (.k (.str (Str.ofString "uc"))) (.cons (.sub (.v 8) (.k (.int 0))) .nil))) (.cons (.tup (.cons (.k (.str (Str.ofString "lc"))) (.cons (.sub (.v 8) (.k (.int 1))) .nil))) (.cons (.tup (.cons (.k (.str (Str.ofString "tc"))) (.cons (.sub (.v 8) (.k (.int 2))) .nil))) .nil)))))))) (.cons (.for_ (.t [10,11]) (.v 9) (.cons (.ife (.cmp .IsNot (.v 11) (.k .none)) (.cons (.ex (.meth (.v 1) (Str.ofString "put") (.cons (.v 10) (.cons (.v 0) (.cons (.v 0) (.cons (.v 11) .nil)))))) .nil) .nil) .nil)) (.cons (.asg 12 (.lst (.cons (.call (.g (.ref 438)) (.cons (.v 0) .nil)) (.cons (.ife (.cmp .Is (.v 2) (.k .none)) (.k (.str (Str.ofString "<control>"))) (.meth (.k (.str (Str.ofString ""))) (Str.ofString "join") (.cons (.comp (.call (.g (.builtin "chr")) (.cons (.v 0) .nil)) (.v 2) []) .nil))) .nil)))) (.cons (.asg 12 (.bin .Add (.v 12) (.lst (.cons (.ife (.cmp .Is (.v 3) (.k .none)) (.k (.str (Str.ofString "Cn"))) (.v 3)) (.cons (.call (.g (.type "str")) (.cons (.v 4) .nil)) (.cons (.ife (.cmp .Is (.v 5) (.k .none)) (.k (.str (Str.ofString "L"))) (.v 5)) (.cons (.call (.g (.ref 450)) (.cons (.v 6) .nil)) .nil))))))) (.cons (.asg 12 (.bin .Add (.bin .Add (.bin .Add (.v 12) (.call (.g (.ref 457)) (.cons (.sub (.v 7) (.k (.int 0))) (.cons (.sub (.v 7) (.k (.int 1))) .nil)))) (.lst (.cons (.k (.str (Str.ofString "N"))) (.cons (.k (.str (Str.ofString ""))) (.cons (.k (.str (Str.ofString ""))) .nil))))) (.comp (.call (.g (.ref 445)) (.cons (.v 0) .nil)) (.v 8) []))) (.cons (.ret (.bin .Add (.call (.g (.type "bytes")) (.cons (.comp (.call (.g (.builtin "ord")) (.cons (.v 0) .nil)) (.meth (.k (.str (Str.ofString ";"))) (Str.ofString "join") (.cons (.v 12) .nil)) []) .nil)) (.k (.bytes [10])))) .nil)))))))))))
theorem names_top {w:World} (F:Led):RV w F (.tup (namePVs.map pvP)) (.ref 373):=.tupK (.cons .none (.cons .bytes (.cons .bytes .nil))) (tt373 w)
theorem maps_top {w:World} (F:Led):RV w F (.tup (mapPVs.map pvP)) (.ref 382):=.tupK (.cons .none (.cons .val (.cons .val (.cons .val (.cons .val .nil))))) (tt382 w)
theorem cases_top {w:World} (F:Led):RV w F (.tup (casePVs.map pvP)) (.ref 404):=.tupK (.cons .none (.cons .int (.cons .int (.cons .int .nil)))) (tt404 w)
noncomputable abbrev numP (q:PV×PV):P:=.tup [pvP q.1,pvP q.2]
theorem nums_top {w:World} (F:Led):RV w F (.tup (numPairs.map numP)) (.ref 403):=by
 have go:∀ {a:Addr} {x y:Value} {p q:P},RV w F p x→RV w F q y→TopTup w a [x,y].toArray→RV w F (.tup [p,q]) (.ref a):=fun hx hy T=>.tupK (.cons hx (.cons hy .nil)) T
 refine .tupK (.cons ?_ (.cons ?_ (.cons ?_ (.cons ?_ (.cons ?_ (.cons ?_ (.cons ?_ (.cons ?_ (.cons ?_ (.cons ?_ (.cons ?_ .nil))))))))))) (tt403 w)
 ·exact go (x:=Value.none) (y:=Value.none) .none .none fun h X=>tupK (l:=[Value.none,Value.none]) X (by k_is)
 ·exact go (x:=Value.str (Str.ofString "de") 722) (y:=Value.ref 384) .str .val fun h X=>tupK (l:=[Value.str (Str.ofString "de") 722,Value.ref 384]) X (by k_is)
 ·exact go (x:=Value.str (Str.ofString "di") 725) (y:=Value.ref 386) .str .val fun h X=>tupK (l:=[Value.str (Str.ofString "di") 725,Value.ref 386]) X (by k_is)
 ·exact go (x:=Value.str (Str.ofString "nu") 728) (y:=Value.ref 388) .str .val fun h X=>tupK (l:=[Value.str (Str.ofString "nu") 728,Value.ref 388]) X (by k_is)
 ·exact go (x:=Value.str (Str.ofString "nu") 731) (y:=Value.ref 390) .str .val fun h X=>tupK (l:=[Value.str (Str.ofString "nu") 731,Value.ref 390]) X (by k_is)
 ·exact go (x:=Value.str (Str.ofString "nu") 735) (y:=Value.ref 392) .str .val fun h X=>tupK (l:=[Value.str (Str.ofString "nu") 735,Value.ref 392]) X (by k_is)
 ·exact go (x:=Value.str (Str.ofString "de") 738) (y:=Value.ref 394) .str .val fun h X=>tupK (l:=[Value.str (Str.ofString "de") 738,Value.ref 394]) X (by k_is)
 ·exact go (x:=Value.str (Str.ofString "de") 741) (y:=Value.none) .str .none fun h X=>tupK (l:=[Value.str (Str.ofString "de") 741,Value.none]) X (by k_is)
 ·exact go (x:=Value.none) (y:=Value.ref 397) .none .val fun h X=>tupK (l:=[Value.none,Value.ref 397]) X (by k_is)
 ·exact go (x:=Value.str (Str.ofString "de") 744) (y:=Value.ref 399) .str .val fun h X=>tupK (l:=[Value.str (Str.ofString "de") 744,Value.ref 399]) X (by k_is)
 ·exact go (x:=Value.str (Str.ofString "di") 747) (y:=Value.ref 401) .str .val fun h X=>tupK (l:=[Value.str (Str.ofString "di") 747,Value.ref 401]) X (by k_is)
inductive R462 (w:World) (sg:Str→Int→PV) (len:Nat) (x0 aw ac:Addr) (ns:List Int) (c:Int) (p:P) (pl:PL):Prop
 |mk (t:TC) (S:DS) (sp:Int) (ok:t.ok) (hp:p= .bytes (toldB t c)) (hl:pl=(aw,wellP ac sp)::(ac,intsP ns)::S.pl w) (h0:0≤sp) (hx:S.x=x0) (Ok:DK w S (sgRows sg c t.rows) (len+20))
inductive JC462 (aw ac:Addr) (ns:List Int) (r:PL) (i:Nat) (ys:List P) (pl:PL):Prop
 |mk (qs:List PV) (sp:Int) (hy:ys=qs.map pvP) (hq:∀ q∈qs,q∈casePVs) (hn:qs.length=i) (hl:pl=(aw,wellP ac sp)::(ac,intsP ns)::r) (h0:0≤sp)
inductive JP462 (w:World) (sg:Str→Int→PV) (len:Nat) (x0:Addr) (c:Int) (rows:List (Str×PV)) (vf:Option P→Option P→PVs) (pre:PL) (i:Nat) (vs:PVs) (pl:PL):Prop
 |mk (S:DS) (a b:Option P) (hv:vs=vf a b) (hl:pl=pre++S.pl w) (hx:S.x=x0) (Ok:DK w S (sgRows sg c (rows.take i)) (len+2*i))
theorem like_nob {w:World} {d:PV} {b:Bool}: ¬Likeable w d (.bool b):=by cases d<;>exact fun h=>h
noncomputable abbrev rowP (r:Str×PV):P:=.tup [.str r.1,pvP r.2]
theorem case_num {p:PV} (h:p∈casePVs):pvP p=optP (caseO p)∧∀ n,caseO p=some n→0≤n∧n<2097152:=by
 simp only [casePVs,List.mem_cons,List.not_mem_nil,or_false] at h
 rcases h with rfl|rfl|rfl|rfl<;>exact ⟨rfl,fun n h=>by cases h<;>decide⟩
theorem told_small {t:TC} (h:t.ok) (c:Int):Asc (Txt.join (Str.ofString ";") (toldS t c))∧(Txt.join (Str.ofString ";") (toldS t c)).cps.size≤1600∧((toldS t c).map (·.length)).sum+(toldS t c).length≤1048576:=by
 have tko:=toldS_ok h c
 have tsum:=sum_le (K:=100) fun y hy=>(tko y hy).2
 have tlen:(toldS t c).length=15:=by unfold toldS;rw [List.length_append,List.length_append,List.length_append,numS_len];rfl
 have e:=size_glued (Str.ofString ";") (toldS t c)
 rw [show (Str.ofString ";").length=1 from by decide+kernel,tlen] at e
 rw [tlen] at tsum ⊢
 refine ⟨join_asc (Asc.lit _ (by decide+kernel)) _ fun y hy=>(tko y hy).1,?_,by omega⟩
 show (Builtin.Str.glued (Str.ofString ";") (toldS t c)).length≤_
 omega
theorem n_told (w:World) {S:DS} {sg:Str→Int→PV} {len:Nat} {aw ac:Addr} {ns:List Int} {spot c:Int} (Ok:DK w S sg len) (hl:len≤200) (hc:0≤c) (hc2:c≤MX) (hlen:ns.length≤63) (h0:0≤spot) (hsg:∀ n∈usedNames,sg n (c+1)=dflt n∧sg n (c - 1)=dflt n∧sg n c=dflt n):
  PN w 462 [.val (.ref aw),.val (.ref S.x),.int c] 80 ((aw,wellP ac spot)::(ac,intsP ns)::S.pl w) (R462 w sg len S.x aw ac ns c):=by
 refine PN.of (D:=79) ns_462 cn_462 k_462 [some 2,some 1,none,none,none,none,none,none,none,none,none,none,none,some 0] [] [] [some (.int c),some (.val (.ref S.x)),none,none,none,none,none,none,none,none,none,none,none,some (.val (.ref aw))] ⟨by kernel_rfl,by kernel_rfl⟩ (fun zq zq zq=>BndR.eq (by kernel_rfl) (by kernel_rfl)) (fun zq=>.nil) rfl fun I hI=>?_
 have d50:50≤I.D:=by omega
 have d20:20≤I.D:=Nat.le_trans (by decide) d50
 have d15:15≤I.D:=Nat.le_trans (by decide) d50
 have d10:10≤I.D:=Nat.le_trans (by decide) d50
 have c21:c<2097152:=by unfold MX at hc2;omega
 refine PCall.pickK (pre:=[]) (its:=namePVs.map pvP) names_top d20 (.head _) hlen h0 (by decide) (by decide) (pick_map fun pn k1=>?_)
 refine PCall.pick (pre:=[]) (its:=sortPVs.map pvP) d20 (.head _) hlen (by omega) (by decide) (by decide) (pick_map fun ps k2=>?_)
 refine PCall.pick (pre:=[]) (its:=placeIs.map P.int) d20 (.head _) hlen (by omega) (by decide) (by decide) (pick_map fun pp k3=>?_)
 refine PCall.pick (pre:=[]) (its:=wayPVs.map pvP) d20 (.head _) hlen (by omega) (by decide) (by decide) (pick_map fun pw k4=>?_)
 refine PCall.pickK (pre:=[]) (its:=mapPVs.map pvP) maps_top d20 (.head _) hlen (by omega) (by decide) (by decide) (pick_map fun pm k5=>?_)
 refine PCall.pickK (pre:=[]) (its:=numPairs.map numP) nums_top d20 (.head _) hlen (by omega) (by decide) (by decide) (pick_map fun nkv k6=>?_)
 obtain ⟨nk,nv⟩:=nkv
 refine PCall.range (PCp.rng (n:=3) (JC462 aw ac ns (S.pl w)) (fits5 (x:=3) (by decide) (by decide)).1 (fits5 (x:=3) (by decide) (by decide)).2 (by decide) ⟨_,.refl,.mk [] _ rfl (fun q h=>absurd h List.not_mem_nil) rfl rfl (by omega)⟩ ?_ ?_)
 ·rintro i ys pl hi ⟨qs,sp,rfl,hq,rfl,rfl,hs0⟩
  refine PCall.pickK (pre:=[]) (its:=casePVs.map pvP) cases_top d20 (.head _) hlen hs0 (by decide) (by decide) (pick_map fun q hq2=>?_)
  refine ⟨_,.refl,.mk (qs++[q]) _ (by rw [List.map_append];rfl) (fun x hx=>?_) (by rw [List.length_append];rfl) rfl (by omega)⟩
  rcases List.mem_append.mp hx with hx|hx
  ·exact hq x hx
  ·rw [List.mem_singleton.mp hx];exact hq2
 rintro ys pl ⟨qs,sp,rfl,hq,hq3,rfl,hs0⟩
 obtain ⟨p1,p2,p3,rfl⟩:∃ p1 p2 p3,qs=[p1,p2,p3]:=by
  rcases qs with _|⟨p1,_|⟨p2,_|⟨p3,_|⟨p4,qs⟩⟩⟩⟩<;>first|exact ⟨_,_,_,rfl⟩|(simp at hq3)
 have k7:=hq p1 (.head _)
 have k8:=hq p2 (.tail _ (.head _))
 have k9:=hq p3 (.tail _ (.tail _ (.head _)))
 have tok:TC.ok ⟨pn,ps,pp,pw,pm,nk,nv,p1,p2,p3⟩:=⟨k1,k2,k3,k4,k5,k6,k7,k8,k9⟩
 generalize et:TC.mk pn ps pp pw pm nk nv p1 p2 p3=t at tok
 refine .inl (pcut (x:=.ife _ _ _) (q:=pvP (if 0<pp then .int pp else .none)) (fun K' k=>?_) fun a1=>?_)
 ·by_cases h:0<pp
  ·rw [if_pos h] at k
   exact (congrArg (fun b=>pIf (PX w I.D (.v 4) _) (PX w I.D (.k .none) _) K' b _) (decide_eq_true h)).mpr k
  ·rw [if_neg h] at k
   exact (congrArg (fun b=>pIf (PX w I.D (.v 4) _) (PX w I.D (.k .none) _) K' b _) (decide_eq_false h)).mpr k
 have le3:([pvP p1,pvP p2,pvP p3]:List P).length≤16777216:=Nat.le_of_ble_eq_true rfl
 refine PSb.itemL (i:=0) (by decide) rfl le3 (PSb.itemL (i:=1) (by decide) rfl le3 (PSb.itemL (i:=2) (by decide) rfl le3 fun a2=>PB.lists (.tail _ (.head _)) (.head _) (Nat.le_of_ble_eq_true rfl) fun a3=>?_))
 refine PFr.freeze (pre:=[]) (PFr.lst (JP462 w sg len S.x c t.rows (fun a b=>[some (.int c),some (.val (.ref S.x)),some (pvP pn),some (pvP ps),some (.int pp),some (pvP pw),some (pvP pm),some (numP (nk,nv)),some (.lst [pvP p1,pvP p2,pvP p3]),some (.val (.ref a3)),a,b,none,some (.val (.ref aw))]) [(aw,wellP ac sp),(ac,intsP ns)]) ⟨_,_,.sub (.right (r:=[_,_])),.mk S none none rfl rfl rfl Ok⟩ ?_ ?_)
 ·rintro i p vs pl hp ⟨S2,o1,o2,rfl,rfl,hx2,Ok2⟩
  have hp2:(t.rows.map rowP)[i]? =some p:=by subst et;exact hp
  clear hp
  obtain ⟨⟨nm,q⟩,hr,rfl⟩:=map_at hp2
  obtain ⟨un,lk⟩:=TC.rows_ok w t tok nm q (List.mem_of_getElem? hr)
  have hi:i<10:=by have:=(List.getElem?_eq_some_iff.mp hr).1;subst et;exact this
  have es:sgRows sg c (t.rows.take (i+1))=if q= .none then sgRows sg c (t.rows.take i) else updS (sgRows sg c (t.rows.take i)) nm c c q:=by rw [take_snoc hr,sgRows_snoc]
  obtain ⟨s1,s2,s3⟩:=hsg nm un
  refine pNotNone (fun b e=>by cases e;exact like_nob (lk fun h=>PV.noConfusion h)) (fun e=>?_) fun e=>?_
  ·exact ⟨_,_,.refl,.mk S2 _ _ rfl rfl hx2 (by rw [es,if_pos e];exact Ok2.mono (by omega))⟩
  ·refine PMe.dput hx2 (sub_app _) (PCall.dput Ok2 hx2 d50 (by omega) un hc (Int.le_refl c) hc2 (fun zq=>?_) (fun zq=>?_) List.perm_append_comm fun S3 hx3 Ok3=>⟨_,_,(RE.perm List.perm_append_comm).to,.mk S3 _ _ rfl rfl hx3 (by rw [es,if_neg e];exact Ok3)⟩)
   ·rw [sgRows_off c nm (c+1) (by omega),s1];exact lk e
   ·rw [sgRows_off c nm (c - 1) (by omega),s2];exact lk e
 rintro vs pl ⟨S2,o1,o2,rfl,rfl,hx2,Ok2⟩
 refine ⟨_,_,.refl,?_⟩
 have Ok3:DK w S2 (sgRows sg c t.rows) (len+20):=by subst et;exact Ok2
 refine PCall.lhex d10 hc c21 (pcut (x:=.ife _ _ _) (q:=.str (nameS pn)) (fun K' k=>?_) fun a4=>?_)
 ·rcases nameB k1 with rfl|⟨b,rfl,b1,b2⟩
  ·exact k
  ·have hle:(signsB b).length=b.size:=by unfold signsB;rw [List.length_map,Array.length_toList]
   refine PMe.joinS (PCp.each (ys:=(signsB b).map P.str) rfl (by rw [List.length_map,hle,List.length_map,Array.length_toList]) (by rw [List.length_map,Array.length_toList];omega) (fun i x y hx hy K2 k2=>?_) (.inl (PCall.joinSL (by decide) (by rw [signsB_sum,hle];omega) k)))
   obtain ⟨o,ho,rfl⟩:=map_at hx
   obtain ⟨z,hz,rfl⟩:=map_at hy
   unfold signsB at hz
   rw [List.getElem?_map,ho] at hz
   cases hz
   exact PCall.chr (by omega) (by have:=o.toNat_lt;omega) k2
 refine pcut (x:=.ife _ _ _) (q:=.str (sortS ps)) (fun K' k=>?_) (PCall.strPlace k3 (pcut (x:=.ife _ _ _) (q:=.str (wayS pw)) (fun K' k=>?_) (PCall.lmap d20 (fun v hv=>mapV_of hv k5) fun a5=>PB.lists (.tail _ (.head _)) (.head _) (Nat.le_of_ble_eq_true rfl) fun a6=>?_)))
 ·simp only [sortPVs,List.mem_cons,List.not_mem_nil,or_false] at k2
  rcases k2 with rfl|rfl|rfl<;>exact k
 ·simp only [wayPVs,List.mem_cons,List.not_mem_nil,or_false] at k4
  rcases k4 with rfl|rfl|rfl<;>exact k
 refine PCall.lnum k6 d15 fun a7=>PB.lists (.tail _ (.head _)) (.head _) (by rw [List.length_map,numS_len];exact Nat.le_of_ble_eq_true rfl) fun a8=>?_
 intro a9
 refine PB.lists (.tail _ (.head _)) (.head _) (by rw [List.length_append,List.length_map,numS_len];exact Nat.le_of_ble_eq_true rfl) fun a10=>?_
 obtain ⟨g7,r7⟩:=case_num k7
 obtain ⟨g8,r8⟩:=case_num k8
 obtain ⟨g9,r9⟩:=case_num k9
 have sgn:∀ {o:Option Int},(∀ n,o=some n→0≤n∧n<2097152)→∀ {vs:PVs} {pl:PL} {K2:KP},K2 (.str (codeS o)) pl→PX w I.D (.call (.g (.ref 445)) (.cons (.v 0) .nil)) (some (optP o)::vs) pl K2:=fun ho zq zq zq k=>PCall.lcode d15 ho k
 refine PCp.each (xs:=[pvP p1,pvP p2,pvP p3]) (ys:=[.str (caseS p1),.str (caseS p2),.str (caseS p3)]) rfl rfl le3 (fun i x y hx hy K2 k2=>?_) (.inr fun a11=>?_)
 ·rcases i with _|_|_|i
  ·cases hx;cases hy;rw [g7];exact sgn r7 k2
  ·cases hx;cases hy;rw [g8];exact sgn r8 k2
  ·cases hx;cases hy;rw [g9];exact sgn r9 k2
  ·cases hx
 refine PB.lists (.tail _ (.head _)) (.head _) (by rw [List.length_append,List.length_append,List.length_map,numS_len];exact Nat.le_of_ble_eq_true rfl) fun a12=>?_
 obtain ⟨hA,hz,hw⟩:=told_small tok c
 refine PMe.joinS (PCall.joinS (ys:=toldS t c) ?_ (by decide) hw (pEnc hA (by omega) (PB.bytes ?_ ⟨_,?_,.mk t S2 sp tok rfl rfl hs0 hx2 Ok3⟩)))
 ·subst et
  unfold toldS
  rw [List.map_append,List.map_append,List.map_append]
  exact .head _
 ·have:=encA_size (Txt.join (Str.ofString ";") (toldS t c))
  show _+1≤_
  omega
 ·exact .right (r:=[_,_,_,_,_,_,_,_,_])
end
section
set_option tactic.hygienic false
noncomputable def ns_467:List Str:=[Str.ofString "code"]
noncomputable def cn_467:List Str:=[Str.ofString "codes",Str.ofString "left",Str.ofString "due",Str.ofString "data",Str.ofString "well"]
noncomputable def k_467:Ss:=(.cons (.asgT [4,3] (.tup (.cons (.call (.g (.ref 367)) .nil) (.cons (.lst .nil) .nil)))) (.cons (.asg 2 (.call (.g (.type "list")) (.cons (.g (.ref 372)) .nil))) (.cons (.asg 1 (.call (.g (.builtin "sorted")) (.cons (.comp (.meth (.v 2) (Str.ofString "pop") (.cons (.call (.g (.ref 424)) (.cons (.v 1) (.cons (.call (.g (.builtin "len")) (.cons (.v 2) .nil)) .nil))) .nil)) (.call (.g (.type "range")) (.cons (.bin .Add (.k (.int 1)) (.call (.g (.ref 424)) (.cons (.v 5) (.cons (.k (.int 3)) .nil)))) .nil)) [5,2]) .nil))) (.cons (.for_ (.n 0) (.v 1) (.cons (.ex (.meth (.v 3) (Str.ofString "append") (.cons (.call (.g (.ref 462)) (.cons (.v 5) (.cons (.v 4) (.cons (.v 0) .nil)))) .nil))) .nil)) (.cons (.ife (.cmp .NotEq (.comp (.call (.g (.ref 258)) (.cons (.v 1) (.cons (.v 0) .nil))) (.v 1) [4]) (.v 3)) (.cons (.ret (.k (.bool false))) .nil) .nil) (.cons (.ret (.cmp .Eq (.comp (.call (.g (.ref 263)) (.cons (.v 1) (.cons (.slc (.v 2) (.v 0) (.k .none)) .nil))) (.call (.g (.type "range")) (.cons (.k (.int 2)) .nil)) [4,1]) (.comp (.meth (.k (.bytes [])) (Str.ofString "join") (.cons (.slc (.v 1) (.v 0) (.k .none)) .nil)) (.call (.g (.type "range")) (.cons (.k (.int 2)) .nil)) [3]))) .nil))))))
theorem tt372 (w:World):TopTup w 372 [Value.int 9 700,.int 65 701,.int 945 702,.int 65313 703,.int 128512 704,.int 1114109 705].toArray:=fun h X=>tupK (l:=[Value.int 9 700,.int 65 701,.int 945 702,.int 65313 703,.int 128512 704,.int 1114109 705]) X (by k_is)
theorem pop_perm {yL nL:List Int} {j:Nat} {z:Int} (h:nL[j]? =some z):(yL++[z]++(nL.take j++nL.drop (j+1))).Perm (yL++nL):=by
 have e:nL=nL.take j++z::nL.drop (j+1):=by
  obtain ⟨hj,hz⟩:=List.getElem?_eq_some_iff.mp h
  rw [←hz,List.getElem_cons_drop,List.take_append_drop]
 rw [List.append_assoc]
 refine List.Perm.append_left yL ?_
 conv=>rhs;rw [e]
 show (z::(nL.take j++nL.drop (j+1))).Perm _
 exact List.perm_middle.symm
theorem pool_top {w:World} (F:Led):RV w F (.tup (poolI.map P.int)) (.ref 372):=.tupK (.cons .int (.cons .int (.cons .int (.cons .int (.cons .int (.cons .int .nil)))))) (tt372 w)
inductive R467 (aw ac:Addr) (ns:List Int) (p:P) (pl:PL):Prop
 |mk (sp:Int) (hp:p= .bool true) (hl:pl=[(aw,wellP ac sp),(ac,intsP ns)]) (h0:0≤sp)
inductive JS467 (w:World) (S:DS) (aw ac ll ld:Addr) (ns:List Int) (i:Nat) (ys:List P) (pl:PL):Prop
 |mk (nL yL:List Int) (sp:Int) (hy:ys=yL.map P.int) (hl:pl=(ll,intsP nL)::(ld,.list [])::(S.pl w++[(aw,wellP ac sp),(ac,intsP ns)])) (h0:0≤sp) (pm:(yL++nL).Perm poolI) (hn:yL.length=i)
inductive JD467 (w:World) (x0 aw ac ld:Addr) (ns nC:List Int) (vf:Option P→PVs) (i:Nat) (vs:PVs) (pl:PL):Prop
 |mk (S:DS) (f:Int→TC) (sp:Int) (o:Option P) (hv:vs=vf o) (hl:pl=S.pl w++[(ld,.list (((nC.take i).map fun x=>toldB (f x) x).map P.bytes)),(aw,wellP ac sp),(ac,intsP ns)]) (h0:0≤sp) (hx:S.x=x0) (ok:∀ x∈nC.take i,(f x).ok) (Ok:DK w S (sgAll f sg0 (nC.take i)) (20*i))
theorem n_rowsr (w:World) {aw ac:Addr} {ns:List Int} {spot:Int} (hlen:ns.length≤63) (h0:0≤spot):
  PN w 467 [.val (.ref aw)] 100 [(aw,wellP ac spot),(ac,intsP ns)] (R467 aw ac ns):=by
 refine PN.of (D:=99) ns_467 cn_467 k_467 [none,none,none,none,none,some 0] [] [] [none,none,none,none,none,some (.val (.ref aw))] ⟨by kernel_rfl,by kernel_rfl⟩ (fun zq=>BndR.eq (by kernel_rfl) (by kernel_rfl)) (fun zq=>.nil) rfl fun I hI=>?_
 have d80:80≤I.D:=by omega
 have d65:65≤I.D:=Nat.le_trans (by decide) d80
 have d51:51≤I.D:=Nat.le_trans (by decide) d80
 have d30:30≤I.D:=Nat.le_trans (by decide) d80
 have d10:10≤I.D:=Nat.le_trans (by decide) d80
 refine PCall.dnew d30 fun S Ok ld=>PCall.copyT pool_top (by decide) fun ll=>?_
 refine PCall.draw (pre:=(ll,intsP poolI)::(ld,.list [])::S.pl w) d10 (List.mem_append_right _ (.head _)) hlen h0 (by decide) (by decide) fun x x0 x3=>?_
 obtain ⟨r1,r2⟩:=fits5 (x:=1+x) (by omega) (by omega)
 refine PCall.range (PCp.rng (JS467 w S aw ac ll ld ns) r1 r2 (by omega) ⟨_,.refl,.mk poolI [] _ rfl rfl (by omega) (.refl _) rfl⟩ ?_ ?_)
 ·rintro i ys pl hi ⟨nL,yL,sp,rfl,rfl,hs0,pm,hn⟩
  have hl6:nL.length+i=6:=by
   have e:=pm.length_eq
   rw [List.length_append,hn] at e
   have:poolI.length=6:=rfl
   omega
  refine PMe.pop (.head _) (PCall.len (.head _) (by rw [List.length_map];omega) ?_)
  rw [List.length_map]
  refine PCall.draw (pre:=(ll,intsP nL)::(ld,.list [])::S.pl w) d10 (List.mem_append_right _ (.head _)) hlen hs0 (by omega) (by omega) fun y y0 y1=>?_
  have hy:nL[y.toNat]? =some (nL[y.toNat]'(by omega)):=List.getElem?_eq_getElem _
  refine PCall.pop (pre:=[]) (RL.fits y0 (by omega)) (seqIndex_of y0 (by rw [List.length_map];exact y1)) (by rw [List.getElem?_map,hy];rfl) (by rw [List.length_map];omega) ⟨_,.refl,.mk _ (yL++[_]) _ (by rw [List.map_append];rfl) (by unfold intsP;rw [List.map_append,List.map_take,List.map_drop];rfl) (by omega) ((pop_perm hy).trans pm) (by rw [List.length_append,hn];rfl)⟩
 rintro ys pl ⟨nL,yL,sp,rfl,rfl,hs0,pm,hn⟩
 refine .inl (PCall.sortedL (by omega) fun lc nC pmS srS=>?_)
 have cN:nC.Nodup:=pmS.nodup_iff.mpr (List.nodup_append.mp (pm.nodup_iff.mpr pool_nd)).1
 have cP:∀ x∈nC,x∈poolI:=fun x hx=>pm.mem_iff.mp (List.mem_append_left _ (pmS.mem_iff.mp hx))
 have cL:nC.length=(1+x).toNat:=by rw [pmS.length_eq,hn]
 clear pmS srS pm hn
 refine PFr.freezeV (pre:=[]) 1 rfl (PFr.lst (JD467 w S.x aw ac ld ns nC fun o=>[o,some (.lst (nC.map P.int)),some (.val (.ref ll)),some (.val (.ref ld)),some (.val (.ref S.x)),some (.val (.ref aw))]) ⟨_,_,.sub ?_,.mk S (fun zq=>tc0) sp none rfl rfl hs0 rfl (fun x hx=>absurd hx List.not_mem_nil) Ok⟩ ?_ ?_)
 ·exact ⟨[_],List.perm_append_comm.trans (List.Perm.cons _ (List.perm_middle (l₁:=S.pl w) (l₂:=[_,_])))⟩
 ·rintro i p vs pl hp ⟨S2,f,sp2,o,rfl,rfl,hs2,hx2,ok2,Ok2⟩
  obtain ⟨c,hc,rfl⟩:=map_at hp
  have hi:i<nC.length:=(List.getElem?_eq_some_iff.mp hc).1
  obtain ⟨_,_,c0,cM⟩:=pool_in (cP c (List.mem_of_getElem? hc)) (cP c (List.mem_of_getElem? hc))
  refine PMe.append (List.mem_append_right _ (.head _)) ?_
  have nt:=n_told w (aw:=aw) (ac:=ac) (ns:=ns) (spot:=sp2) Ok2 (by omega) c0 cM hlen hs2 (sg_fresh cN cP hc)
  rw [hx2] at nt
  refine PN.call nt d80 (r:=[(ld,.list (((nC.take i).map fun x=>toldB (f x) x).map P.bytes))]) ?_ ?_
  ·exact List.perm_append_comm.trans (List.perm_append_comm (l₁:=[_,_,_]))
  rintro p pl ⟨t,S3,sp3,tok,rfl,rfl,hs3,hx3,Ok3⟩
  refine PCall.append (pre:=(aw,wellP ac sp3)::(ac,intsP ns)::S3.pl w) (post:=[]) (by rw [List.length_map,List.length_map,List.length_take];omega) ⟨_,_,(RE.perm ?_).to,.mk S3 (tcSet f c t) sp3 _ rfl rfl hs3 hx3 (ok_next cN hc tok ok2) ?_⟩
  ·rw [told_next cN hc,List.map_append]
   exact (List.perm_append_comm (l₁:=[_,_]) (l₂:=S3.pl w++[_])).trans (by rw [List.append_assoc])
  ·rw [sg_next cN hc];exact Ok3
 rintro vs pl ⟨S2,f,sp2,o,rfl,rfl,hs2,hx2,ok2,Ok2⟩
 refine ⟨_,_,.refl,?_⟩
 rw [List.length_map,List.take_length] at ok2 Ok2 ⊢
 have hR:∀ n∈nC,0≤n∧n≤MX∧RowAt w (sgAll f sg0 nC) n (rowI (f n)):=fun n hn=>by
  obtain ⟨_,_,c0,cM⟩:=pool_in (cP n hn) (cP n hn)
  exact ⟨c0,cM,row_at w (ok2 n hn) fun m=>sgAll_at cN hn⟩
 have eB:∀ {l:List Int},(∀ n∈l,n∈nC)→(l.map fun n=>rowB (rowI (f n)) n)=l.map fun x=>toldB (f x) x:=fun h=>List.map_congr_left fun n hn=>told_row (ok2 n (h n hn)) n
 have l400:20*nC.length≤400:=by omega
 have nr:∀ n∈nC,PN w 258 [.val (.ref S.x),.int n] 51 (S2.pl w) fun p pl=>p= .bytes (toldB (f n) n)∧pl=S2.pl w:=fun n hn=>by
  obtain ⟨g1,g2,g3⟩:=hR n hn
  rw [←hx2,←told_row (ok2 n hn) n]
  exact n_row w Ok2 l400 g1 g2 g3
 have nu:∀ l:List Int,(∀ n∈l,n∈nC)→l.length≤10→PN w 263 [.val (.ref S.x),.lst (l.map P.int)] 65 (S2.pl w) fun p pl=>p= .bytes (joinB #[] (l.map fun x=>toldB (f x) x))∧pl=S2.pl w:=fun l h hz=>by
  rw [←hx2,←eB h]
  exact n_udata w Ok2 l400 hz fun n hn=>hR n (h n hn)
 have zB:∀ n∈nC,(toldB (f n) n).size≤6021:=fun n hn=>by rw [←told_row (ok2 n hn) n];exact (row_sz (hR n hn).2.2).2.2
 clear hR eB l400 hx2 Ok2 ok2 Ok
 generalize S2.pl w=DB at *
 have n3:nC.length≤3:=by omega
 have hz:(((nC.map P.int).length:Nat):Int)≤16777216:=by rw [List.length_map];omega
 refine PCp.each (ys:=(nC.map fun x=>toldB (f x) x).map P.bytes) rfl (by rw [List.length_map,List.length_map,List.length_map]) (Int.ofNat_le.mp hz) (fun i x y hx hy K2 k2=>?_) (.inl (PC.neLV (List.mem_append_right _ (.head _)) ?_))
 ·obtain ⟨n,hn,rfl⟩:=map_at hx
  obtain ⟨b,hb,rfl⟩:=map_at hy
  rw [List.getElem?_map,hn] at hb
  cases hb
  refine PN.call (nr n (List.mem_of_getElem? hn)) d51 (.refl _) ?_
  rintro p pl ⟨rfl,rfl⟩
  exact k2
 obtain ⟨r1,r2⟩:=fits5 (x:=2) (by decide) (by decide)
 have le2:∀ {i:Nat},i<2→(0+(i:Int))≤(nC.map P.int).length:=fun h=>by rw [List.length_map];omega
 have ei:∀ {i:Nat},(0+(i:Int)).toNat=i:=fun {i}=>by rw [Int.zero_add];rfl
 let J:Nat→List P→PL→Prop:=fun i ys pl=>pl=DB++[(ld,.list ((nC.map fun x=>toldB (f x) x).map P.bytes)),(aw,wellP ac sp2),(ac,intsP ns)]∧ys=((List.range i).map fun k=>joinB #[] ((nC.map fun x=>toldB (f x) x).drop k)).map P.bytes
 have jn:∀ {i:Nat} {ys:List P} {pl pl₀:PL},PSubP pl₀ pl→J i ys pl₀→pEnd (J (i+1)) ys (.bytes (joinB #[] ((nC.map fun x=>toldB (f x) x).drop i))) pl:=fun {i ys pl pl₀} h ⟨e1,e2⟩=>⟨_,h,e1,by rw [e2,List.range_succ,List.map_append,List.map_append];rfl⟩
 refine PCall.range (PCp.rng (n:=2) J r1 r2 (by decide) ⟨_,.refl,rfl,rfl⟩ (fun i ys pl hi j=>?_) ?_)
 ·have e:=j.1
  cases e
  refine PSl.dropL hz (by omega) (le2 hi) fun a=>PCall.freeze (pre:=[]) 1 rfl ?_
  rw [ei,←List.map_drop]
  refine PN.call (nu _ (fun n hn=>List.mem_of_mem_drop hn) (by rw [List.length_drop];omega)) d65 (.refl _) ?_
  rintro p pl ⟨rfl,rfl⟩
  rw [List.map_drop]
  exact jn .refl j
 rintro ys pl ⟨rfl,rfl⟩
 refine .inl (PCall.range (PCp.rng (n:=2) J r1 r2 (by decide) ⟨_,.refl,rfl,rfl⟩ (fun i ys pl hi j=>?_) ?_))
 ·have e:=j.1
  cases e
  refine PMe.joinB (PSl.drop (List.mem_append_right _ (.head _)) (by rw [List.length_map,List.length_map];exact Int.le_trans (Int.ofNat_le.mpr n3) (by decide)) (by omega) (by rw [List.length_map,List.length_map];have:=le2 hi;rw [List.length_map] at this;exact this) fun a=>?_)
  rw [ei,←List.map_drop]
  refine PCall.joinB (.head _) ?_ (jn (.right (r:=[_])) j)
  refine Nat.le_trans (foldSize_le (K:=6021) fun b hb=>?_) (Nat.le_trans (Nat.mul_le_mul_left 6021 (m:=3) ?_) (by decide))
  ·obtain ⟨n,hn,rfl⟩:=List.mem_map.mp (List.mem_of_mem_drop hb)
   exact zB n hn
  ·rw [List.length_drop,List.length_map];omega
 rintro ys pl ⟨rfl,rfl⟩
 exact .inl (PC.eqLL ⟨_,⟨DB++[_],List.perm_append_comm.trans (by rw [List.append_assoc];exact .refl _)⟩,.mk sp2 rfl rfl hs2⟩)
end
section
set_option tactic.hygienic false
noncomputable def ns_220:List Str:=[Str.ofString "words",Str.ofString "missing",Str.ofString "ranges",Str.ofString "rows",Str.ofString "told",Str.ofString "first",Str.ofString "last",Str.ofString "value"]
noncomputable def k_220:Ss:=(.cons (.asg 3 (.lst .nil)) (.cons (.ife (.cmp .IsNot (.v 1) (.k .none)) (.cons (.asg 4 (.ife (.cmp .Is (.v 0) (.k .none)) (.v 1) (.sub (.v 0) (.v 1)))) (.cons (.ex (.meth (.v 3) (Str.ofString "append") (.cons (.bin .Add (.bin .Add (.k (.bytes [35,32,64,109,105,115,115,105,110,103,58,32,48,48,48,48,46,46,49,48,70,70,70,70,59,32])) (.call (.g (.ref 78)) (.cons (.v 4) .nil))) (.k (.bytes [10]))) .nil))) .nil)) .nil) (.cons (.for_ (.t [5,6,7]) (.v 2) (.cons (.ife (.cmp .NotEq (.v 7) (.v 1)) (.cons (.asg 4 (.ife (.cmp .Is (.v 0) (.k .none)) (.v 7) (.sub (.v 0) (.v 7)))) (.cons (.ex (.meth (.v 3) (Str.ofString "append") (.cons (.bin .Add (.bin .Add (.bin .Add (.call (.g (.ref 212)) (.cons (.v 5) (.cons (.v 6) .nil))) (.k (.bytes [32,59,32]))) (.call (.g (.ref 78)) (.cons (.v 4) .nil))) (.k (.bytes [10]))) .nil))) .nil)) .nil) .nil)) (.cons (.ret (.meth (.k (.bytes [])) (Str.ofString "join") (.cons (.v 3) .nil))) .nil))))
inductive J220 (wd:P) (tell:Str→Str) (mo:Option Str) (rs:List (Int×Int×Str)) (lr:Addr) (i:Nat) (vs:PVs) (pl:PL):Prop
 |mk (o4 o5 o6 o7:Option P) (hv:vs=[some wd,some (strO mo),some (.lst (rs.map trioP)),some (.val (.ref lr)),o4,o5,o6,o7]) (hl:pl=[(lr,.list ((propL tell mo (rs.take i)).map P.bytes))])
noncomputable def Tells (w:World) (D:Nat) (wd:P) (tell:Str→Str) (Z:List Str):Prop:=∀ z∈Z,∀ (i:Nat) (vs:PVs) (pl:PL) (K:KP),vs[0]? =some (some wd)→vs[i]? =some (some (.str z))→K (.str (tell z)) pl→PX w D (.ife (.cmp .Is (.v 0) (.k .none)) (.v i) (.sub (.v 0) (.v i))) vs pl K
theorem vget {w:World} {D i:Nat} {vs:PVs} {p:P} {pl:PL} {K:KP} (h:vs[i]? =some (some p)) (k:K p pl):PX w D (.v i) vs pl K:=by
 show (match vs[i]? with|some (some v)=>K v pl|_=>False)
 rw [h];exact k
theorem px_is {w:World} {D:Nat} {a b:X} {vs:PVs} {pl:PL} {K:KP} {wd:P} (h0:vs[0]? =some (some wd)) (k:pCmp w D .Is wd .none pl (pTruth w D (pIf (PX w D a vs) (PX w D b vs) K))):PX w D (.ife (.cmp .Is (.v 0) (.k .none)) a b) vs pl K:=by
 show PX w D (.v 0) vs pl fun x l=>pCmp w D .Is x .none l (pTruth w D (pIf (PX w D a vs) (PX w D b vs) K))
 exact vget h0 k
theorem tells_id {w:World} {D:Nat} {Z:List Str}:Tells w D .none id Z:=fun z zq i vs pl K h0 hi k=>px_is h0 (show PX w D (.v i) vs pl K from vget hi k)
theorem tells_dct {w:World} {D:Nat} {Z:List Str} {ks:List Str} {xs:List P} {tell:Str→Str} (h:∀ z∈Z,dAt ks xs z=some (.str (tell z))):Tells w D (.dct ks xs) tell Z:=fun z hz i vs pl K h0 hi k=>px_is h0 (show PX w D (.v 0) vs pl (fun x l=>PX w D (.v i) vs l fun y l=>pSub w D x y l K) from vget h0 (vget hi (PSb.dct (h z hz) k)))
theorem propo_body (w:World) {I:Fi} {K:KPF} {wd:P} {tell:Str→Str} {mo:Option Str} {rs:List (Int×Int×Str)} (d15:15≤I.D) (hT:Tells w I.D wd tell (mo.toList++rs.map (·.2.2))) (hl:rs.length≤10) (hok:∀ r∈rs,SpanOK tell r) (hmz:∀ m,mo=some m→(tell m).cps.size≤100) (hma:∀ m,mo=some m→Asc (tell m))
  (k:∀ vs pl,K (.ret (.bytes (joinB #[] (propL tell mo rs)))) vs pl):PSs w I k_220 [some wd,some (strO mo),some (.lst (rs.map trioP)),none,none,none,none,none] [] K:=by
 have fz:RB.foldSize #[] (propL tell mo rs)≤16777216:=Nat.le_trans (foldSize_le (sep:=#[]) (propL_size hmz hok)) (Nat.le_trans (Nat.mul_le_mul_left _ (m:=11) (Nat.le_trans propL_len (by omega))) (by decide))
 have hp:∀ i,(propL tell mo (rs.take i)).length≤16777216:=fun i=>Nat.le_trans propL_len (by rw [List.length_take];omega)
 intro lr
 have loop:∀ o4,PSs w I (match k_220 with| .cons _ (.cons _ c)=>c|_=>.nil) [some wd,some (strO mo),some (.lst (rs.map trioP)),some (.val (.ref lr)),o4,none,none,none] [(lr,.list ((missB tell mo).map P.bytes))] K:=fun o4=>by
  refine PFr.lst (J220 wd tell mo rs lr) ⟨_,_,.refl,.mk _ _ _ _ rfl (by rw [List.take_zero];unfold propL;rw [List.filter_nil,List.map_nil,List.append_nil])⟩ ?_ ?_
  ·rintro i p vs pl hp' ⟨o4,o5,o6,o7,rfl,rfl⟩
   obtain ⟨r,hr,rfl⟩:=map_at hp'
   have mr:=List.mem_of_getElem? hr
   obtain ⟨a0,a1,b0,b1,z,asc⟩:=hok r mr
   have eS:propL tell mo (rs.take (i+1))=propL tell mo (rs.take i)++(if keepR mo r=true then [rowLB tell r] else []):=by rw [take_snoc hr];exact propL_snoc
   have ne:∀ {K':KP} {pl:PL},K' (.bool (keepR mo r)) pl→pCmp w I.D .NotEq (.str r.2.2) (strO mo) pl K':=fun k=>by
    cases mo with
    |none=>exact PC.neSN k
    |some m=>exact k
   refine ne ?_
   cases hk:keepR mo r with
   |false=>
    rw [hk,if_neg Bool.false_ne_true,List.append_nil] at eS
    exact ⟨_,_,.refl,.mk _ _ _ _ rfl (by rw [eS])⟩
   |true=>
    rw [hk,if_pos rfl] at eS
    have z1:=rngB_size r.1 r.2.1
    have z2:=encA_size (tell r.2.2)
    refine hT r.2.2 (List.mem_append_right _ (List.mem_map.mpr ⟨r,mr,rfl⟩)) 7 [some wd,some (strO mo),some (.lst (rs.map trioP)),some (.val (.ref lr)),o4,some (.int r.1),some (.int r.2.1),some (.str r.2.2)] _ _ rfl rfl ?_
    refine PMe.append (.head _) (PCall.rng d15 a0 a1 b0 b1 (PB.bytes ?_ (PCall.enc d15 (by omega) asc (PB.bytes ?_ (PB.bytes ?_ (PCall.append (pre:=[]) (by rw [List.length_map];exact hp i) ⟨_,_,.refl,.mk _ _ _ _ rfl ?_⟩))))))
    ·simp only [List.size_toArray,List.length_cons,List.length_nil];omega
    ·simp only [Array.size_append,List.size_toArray,List.length_cons,List.length_nil];omega
    ·simp only [Array.size_append,List.size_toArray,List.length_cons,List.length_nil];omega
    ·rw [eS,List.map_append];rfl
  ·rintro vs pl ⟨o4,o5,o6,o7,rfl,rfl⟩
   rw [List.length_map,List.take_length]
   exact ⟨_,_,.refl,PMe.joinB (PCall.joinB (.head _) fz (k _ _))⟩
 cases mo with
 |none=>exact loop none
 |some m=>
  have z2:=encA_size (tell m)
  have z3:=hmz m rfl
  refine hT m (.head _) 1 [some wd,some (.str m),some (.lst (rs.map trioP)),some (.val (.ref lr)),none,none,none,none] _ _ rfl rfl ?_
  refine PMe.append (.head _) (PCall.enc d15 (by omega) (hma m rfl) (PB.bytes ?_ (PB.bytes ?_ (PCall.append (pre:=[]) (by decide) (loop _)))))
  ·simp only [List.size_toArray,List.length_cons,List.length_nil];omega
  ·simp only [Array.size_append,List.size_toArray,List.length_cons,List.length_nil];omega
theorem n_propoA (w:World) {mo:Option Str} {rs:List (Int×Int×Str)} (hl:rs.length≤10) (hok:∀ r∈rs,SpanOK id r) (hmz:∀ m,mo=some m→m.cps.size≤100) (hma:∀ m,mo=some m→Asc m):
  PN w 220 [.lst (rs.map trioP),strO mo] 30 [] fun p pl=>p= .bytes (joinB #[] (propL id mo rs))∧pl=[]:=by
 exact PN.of (D:=29) ns_220 [] k_220 [some 2,some 1,some 0,none,none,none,none,none] [.none] [.none] [some .none,some (strO mo),some (.lst (rs.map trioP)),none,none,none,none,none] ⟨by kernel_rfl,by kernel_rfl⟩ (fun zq zq=>BndR.dft (by kernel_rfl) (by kernel_rfl) (by kernel_rfl) (by kernel_rfl) (by kernel_rfl)) (fun zq=>.cons .none .nil) rfl fun I hI=>propo_body w (by omega) tells_id hl hok hmz hma fun vs pl=>⟨_,.nil,rfl,rfl⟩
theorem n_propoB (w:World) {mo:Option Str} {rs:List (Int×Int×Str)} {ks:List Str} {xs:List P} {tell:Str→Str} (hT:∀ z∈mo.toList++rs.map (·.2.2),dAt ks xs z=some (.str (tell z))) (hl:rs.length≤10) (hok:∀ r∈rs,SpanOK tell r) (hmz:∀ m,mo=some m→(tell m).cps.size≤100) (hma:∀ m,mo=some m→Asc (tell m)):
  PN w 220 [.lst (rs.map trioP),strO mo,.dct ks xs] 30 [] fun p pl=>p= .bytes (joinB #[] (propL tell mo rs))∧pl=[]:=by
 exact PN.of (D:=29) ns_220 [] k_220 [some 2,some 1,some 0,none,none,none,none,none] [] [] [some (.dct ks xs),some (strO mo),some (.lst (rs.map trioP)),none,none,none,none,none] ⟨by kernel_rfl,by kernel_rfl⟩ (fun zq zq zq=>BndR.dft (by kernel_rfl) (by kernel_rfl) (by kernel_rfl) (by kernel_rfl) (by kernel_rfl)) (fun zq=>.nil) rfl fun I hI=>propo_body w (by omega) (tells_dct hT) hl hok hmz hma fun vs pl=>⟨_,.nil,rfl,rfl⟩
end
section
set_option tactic.hygienic false
noncomputable def ns_130:List Str:=[Str.ofString "octets",Str.ofString "found",Str.ofString "at",Str.ofString "line",Str.ofString "cut",Str.ofString "body",Str.ofString "remark",Str.ofString "fields"]
noncomputable def k_130:Ss:=(.cons (.asg 1 (.lst .nil)) (.cons (.for_ (.t [2,3]) (.call (.g (.type "enumerate")) (.cons (.call (.g (.ref 125)) (.cons (.v 0) .nil)) .nil)) (.cons (.asg 4 (.meth (.v 3) (Str.ofString "find") (.cons (.k (.bytes [35])) .nil))) (.cons (.asg 5 (.ife (.cmp .Lt (.v 4) (.k (.int 0))) (.v 3) (.slc (.v 3) (.k .none) (.v 4)))) (.cons (.asg 6 (.ife (.cmp .Lt (.v 4) (.k (.int 0))) (.k (.bytes [])) (.slc (.v 3) (.bin .Add (.v 4) (.k (.int 1))) (.k .none)))) (.cons (.ife (.cmp .NotEq (.meth (.v 5) (Str.ofString "strip") (.cons (.g (.bytes #[32,9,13] 334)) .nil)) (.k (.bytes []))) (.cons (.asgC 7 (.meth (.v 0) (Str.ofString "strip") (.cons (.g (.bytes #[32,9,13] 334)) .nil)) (.meth (.v 5) (Str.ofString "split") (.cons (.k (.bytes [59])) .nil)) []) (.cons (.ex (.meth (.v 1) (Str.ofString "append") (.cons (.tup (.cons (.bin .Add (.v 2) (.k (.int 1))) (.cons (.v 7) (.cons (.meth (.v 6) (Str.ofString "strip") (.cons (.g (.bytes #[32,9,13] 334)) .nil)) .nil)))) .nil))) .nil)) .nil) .nil))))) (.cons (.ret (.v 1)) .nil)))
noncomputable abbrev rowT (r:Row):P:=.tup [.int r.1,.lst (r.2.1.map P.bytes),.bytes r.2.2]
inductive J130 (b:Array UInt8) (a:Addr) (i:Nat) (vs:PVs) (pl:PL):Prop
 |mk (o2 o3 o4 o5 o6 o7:Option P) (hv:vs=[some (.bytes b),some (.val (.ref a)),o2,o3,o4,o5,o6,o7]) (hl:pl=[(a,.list ((rowsL ((linesA b).take i)).map rowT))])
theorem pCuts {w:World} {D:Nat} {pl:PL} {K:KP} {vs:PVs} {x:Array UInt8} (hz:x.size≤10000) (k:K (.lst ((cutsF x).map P.bytes)) pl):PMe w D (.bytes x) (Str.ofString "split") (PXs w D (.cons (.k (.bytes [59])) .nil) vs) pl fun u l=>PCp w D (.meth (.v 0) (Str.ofString "strip") (.cons (.g (.bytes #[32,9,13] 334)) .nil)) [] u l K:=by
 have e:(RB.splitA x #[59]).length≤16777216:=Nat.le_trans (RB.splitA_length _ _) (by omega)
 refine PMe.splitB (PCall.splitB rfl (by omega) fun a=>PCp.freeze (pre:=[]) (PCp.each (ys:=(cutsF x).map P.bytes) rfl (by unfold cutsF;rw [List.length_map,List.length_map,List.length_map]) (by rw [List.length_map];exact e) (fun i y z hy hz' K2 k2=>?_) (.inl k)))
 obtain ⟨f,hf,rfl⟩:=map_at hy
 obtain ⟨g,hg,rfl⟩:=map_at hz'
 unfold cutsF at hg
 rw [List.getElem?_map,hf] at hg
 cases hg
 have:=RB.splitA_size x #[59] f (List.mem_of_getElem? hf)
 exact PMe.stripB (PCall.stripB (by omega) k2)
theorem n_rows (w:World) {b:Array UInt8} (hs:RB.startsB b #[239,187,191]=false) (hz:b.size≤10000) (hl:(linesA b).length≤20):
  PN w 130 [.bytes b] 20 [] fun p pl=>∃ a,p= .val (.ref a)∧pl=[(a,.list ((rowsL (linesA b)).map rowT))]:=by
 refine PN.of (D:=19) ns_130 [] k_130 [some 0,none,none,none,none,none,none,none] [] [] [some (.bytes b),none,none,none,none,none,none,none] ⟨by kernel_rfl,by kernel_rfl⟩ (fun zq=>BndR.eq (by kernel_rfl) (by kernel_rfl)) (fun zq=>.nil) rfl fun I hI=>?_
 refine fun a=>PCall.lines (Nat.le_trans (by decide) (Nat.le_of_eq hI.symm)) hs (by omega) fun c=>PCall.freeze (pre:=[]) 0 rfl (PCall.enum fun e it oI=>PFr.enum (J130 b a) (.mk _ _ _ _ _ _ rfl rfl) ?_ ?_)
 ·rintro i p vs pl hp ⟨o2,o3,o4,o5,o6,o7,rfl,rfl⟩
  obtain ⟨line,hi,rfl⟩:=map_at hp
  have sl:line.size≤10000:=Nat.le_trans (RB.splitA_size b #[10] line (List.mem_of_getElem? hi)) hz
  have sb:(bodyF line).size≤10000:=by
   unfold bodyF
   split
   ·exact sl
   ·exact Nat.le_trans (KBc.size_picked_le _ _ _) sl
  have sr:(remF line).size≤10000:=by
   unfold remF
   split
   ·exact Nat.zero_le _
   ·exact Nat.le_trans (KBc.size_picked_le _ _ _) sl
  have eL:rowsL ((linesA b).take (i+1))=rowsL ((linesA b).take i)++((rowF line).map fun r=>((i:Int)+1,r)).toList:=by
   rw [take_snoc hi,rowsL_snoc,List.length_take,Nat.min_eq_left (Nat.le_of_lt (List.getElem?_eq_some_iff.mp hi).1)]
  have hp9:((rowsL ((linesA b).take i)).map rowT).length≤16777216:=by
   rw [List.length_map]
   refine Nat.le_trans rowsL_len ?_
   rw [List.length_take];omega
  refine PMe.findB (PCall.findB (pcut (x:=.ife _ _ _) (q:=.bytes (bodyF line)) (fun K' k=>pif (fun h=>?_) fun h=>PSl.bytesTo (by omega) ?_) (pcut (x:=.ife _ _ _) (q:=.bytes (remF line)) (fun K' k=>pif (fun h=>?_) fun h=>PSl.bytesFrom (by omega) ?_) (PMe.stripB (PCall.stripB (by omega) ?_)))))
  ·unfold bodyF at k;rw [if_pos (show RB.findI line hashB<0 from h)] at k;exact k
  ·unfold bodyF at k;rw [if_neg (show ¬RB.findI line hashB<0 from h)] at k;exact k
  ·unfold remF at k;rw [if_pos (show RB.findI line hashB<0 from h)] at k;exact k
  ·unfold remF at k;rw [if_neg (show ¬RB.findI line hashB<0 from h)] at k;exact k
  unfold rowF at eL
  by_cases hb:RB.stripA blankB (bodyF line)= #[]
  ·rw [if_pos hb] at eL
   refine PC.neBs (decide_eq_true hb) ⟨_,_,.refl,.mk _ _ _ _ _ _ rfl ?_⟩
   rw [eL];exact congrArg (fun z=>[(a,PO.list (List.map rowT z))]) (List.append_nil _).symm
  ·rw [if_neg hb] at eL
   refine PC.neBs (decide_eq_false hb) (pCuts sb (PMe.append (.head _) (PMe.stripB (PCall.stripB (by omega) (PCall.append (pre:=[]) hp9 ⟨_,_,.refl,.mk _ _ _ _ _ _ rfl ?_⟩)))))
   rw [eL,List.map_append];rfl
 ·rintro vs pl ⟨o2,o3,o4,o5,o6,o7,rfl,rfl⟩
  rw [List.length_map,List.take_length]
  exact ⟨_,_,.refl,_,.refl,a,rfl,rfl⟩
end
section
set_option tactic.hygienic false
noncomputable def ns_135:List Str:=[Str.ofString "octets",Str.ofString "found",Str.ofString "at",Str.ofString "line",Str.ofString "cut",Str.ofString "rest",Str.ofString "told",Str.ofString "further"]
noncomputable def k_135:Ss:=(.cons (.asg 1 (.lst .nil)) (.cons (.for_ (.t [2,3]) (.call (.g (.type "enumerate")) (.cons (.call (.g (.ref 125)) (.cons (.v 0) .nil)) .nil)) (.cons (.asg 4 (.meth (.v 3) (Str.ofString "find") (.cons (.k (.bytes [35])) .nil))) (.cons (.asg 5 (.ife (.cmp .Lt (.v 4) (.k (.int 0))) (.k (.bytes [])) (.meth (.slc (.v 3) (.bin .Add (.v 4) (.k (.int 1))) (.k .none)) (Str.ofString "strip") (.cons (.g (.bytes #[32,9,13] 334)) .nil)))) (.cons (.ife (.bool .And (.cons (.cmp .GtE (.v 4) (.k (.int 0))) (.cons (.cmp .Eq (.meth (.slc (.v 3) (.k .none) (.v 4)) (Str.ofString "strip") (.cons (.g (.bytes #[32,9,13] 334)) .nil)) (.k (.bytes []))) (.cons (.meth (.v 5) (Str.ofString "startswith") (.cons (.g (.bytes #[64,109,105,115,115,105,110,103,58] 338)) .nil)) .nil)))) (.cons (.asg 6 (.slc (.v 5) (.call (.g (.builtin "len")) (.cons (.g (.bytes #[64,109,105,115,115,105,110,103,58] 338)) .nil)) (.k .none))) (.cons (.asg 7 (.meth (.v 6) (Str.ofString "find") (.cons (.k (.bytes [35])) .nil))) (.cons (.asg 6 (.ife (.cmp .Lt (.v 7) (.k (.int 0))) (.v 6) (.slc (.v 6) (.k .none) (.v 7)))) (.cons (.ex (.meth (.v 1) (Str.ofString "append") (.cons (.tup (.cons (.bin .Add (.v 2) (.k (.int 1))) (.cons (.comp (.meth (.v 0) (Str.ofString "strip") (.cons (.g (.bytes #[32,9,13] 334)) .nil)) (.meth (.v 6) (Str.ofString "split") (.cons (.k (.bytes [59])) .nil)) []) .nil))) .nil))) .nil)))) .nil) .nil)))) (.cons (.ret (.v 1)) .nil)))
noncomputable abbrev missT (r:Int×List (Array UInt8)):P:=.tup [.int r.1,.lst (r.2.map P.bytes)]
inductive J135 (b:Array UInt8) (a:Addr) (i:Nat) (vs:PVs) (pl:PL):Prop
 |mk (o2 o3 o4 o5 o6 o7:Option P) (hv:vs=[some (.bytes b),some (.val (.ref a)),o2,o3,o4,o5,o6,o7]) (hl:pl=[(a,.list ((missL ((linesA b).take i)).map missT))])
theorem n_missr (w:World) {b:Array UInt8} (hs:RB.startsB b #[239,187,191]=false) (hz:b.size≤10000) (hl:(linesA b).length≤20) (hfu:∀ line∈linesA b,RB.findI (toldF line) #[35]<0):
  PN w 135 [.bytes b] 20 [] fun p pl=>∃ a,p= .val (.ref a)∧pl=[(a,.list ((missL (linesA b)).map missT))]:=by
 refine PN.of (D:=19) ns_135 [] k_135 [some 0,none,none,none,none,none,none,none] [] [] [some (.bytes b),none,none,none,none,none,none,none] ⟨by kernel_rfl,by kernel_rfl⟩ (fun zq=>BndR.eq (by kernel_rfl) (by kernel_rfl)) (fun zq=>.nil) rfl fun I hI=>?_
 refine fun a=>PCall.lines (Nat.le_trans (by decide) (Nat.le_of_eq hI.symm)) hs (by omega) fun c=>PCall.freeze (pre:=[]) 0 rfl (PCall.enum fun e it oI=>PFr.enum (J135 b a) (.mk _ _ _ _ _ _ rfl rfl) ?_ ?_)
 ·rintro i p vs pl hp ⟨o2,o3,o4,o5,o6,o7,rfl,rfl⟩
  obtain ⟨line,hi,rfl⟩:=map_at hp
  have ml:=List.mem_of_getElem? hi
  have sl:line.size≤10000:=Nat.le_trans (RB.splitA_size b #[10] line ml) hz
  have sp:∀ x y,(KBy.picked line x y).size≤10000:=fun x y=>Nat.le_trans (KBc.size_picked_le _ _ _) sl
  have sr:(restF line).size≤10000:=Nat.le_trans (RB.stripA_size _ _) (sp _ _)
  have st:(toldF line).size≤10000:=Nat.le_trans (KBc.size_picked_le _ _ _) sr
  have up:∀ {n:Nat},n≤10000→n≤16777216:=fun h=>Nat.le_trans h (by decide)
  have eL:missL ((linesA b).take (i+1))=missL ((linesA b).take i)++((missF line).map fun r=>((i:Int)+1,r)).toList:=by
   rw [take_snoc hi,missL_snoc,List.length_take,Nat.min_eq_left (Nat.le_of_lt (List.getElem?_eq_some_iff.mp hi).1)]
  have hp9:((missL ((linesA b).take i)).map missT).length≤16777216:=by
   rw [List.length_map]
   refine Nat.le_trans missL_len ?_
   rw [List.length_take];omega
  have none_:missF line=none→∀ o4 o5 o6 o7,LpI w (J135 b a (i+1)) [some (.bytes b),some (.val (.ref a)),some (.int i),some (.bytes line),o4,o5,o6,o7] [(a,.list ((missL ((linesA b).take i)).map missT))]:=fun h o4 o5 o6 o7=>⟨_,_,.refl,.mk _ _ _ _ _ _ rfl (by rw [eL,h];exact congrArg (fun z=>[(a,PO.list (List.map missT z))]) (List.append_nil _).symm)⟩
  refine PMe.findB (PCall.findB ?_)
  unfold missF at eL none_
  by_cases hf:RB.findI line hashB<0
  ·rw [if_pos hf] at none_
   refine pif (fun zq=>?_) (fun h=>absurd hf h)
   exact pand (fun h=>absurd hf (Int.not_lt.mpr h)) fun zq=>none_ rfl _ _ _ _
  ·rw [if_neg hf] at eL none_
   refine pif (fun h=>absurd h hf) fun zq=>PSl.bytesFrom (up sl) (PMe.stripB (PCall.stripB (up (sp _ _)) (pand (fun zq=>PSl.bytesTo (up sl) (PMe.stripB (PCall.stripB (up (sp _ _)) ?_))) fun h=>absurd (Int.not_lt.mp hf) h)))
   by_cases h1:RB.stripA blankB (KBy.picked line none (some (RB.findI line hashB)))= #[]
   ·refine PC.eqBs (decide_eq_true h1) (PMe.startsB ?_)
    cases h2:RB.startsB (restF line) missM with
    |false=>
     rw [if_neg (fun h=>by rw [h2] at h;exact Bool.false_ne_true h.2)] at none_
     exact PCall.startsB h2 (none_ rfl _ _ _ _)
    |true=>
     rw [if_pos ⟨h1,h2⟩] at eL
     have h9:((#[64,109,105,115,115,105,110,103,58]:Array UInt8).size:Int)=9:=rfl
     have hw:=hfu line ml
     refine PCall.startsB h2 (PCall.lenB h9 (Nat.le_of_ble_eq_true rfl) (PSl.bytesFromE (r:=toldF line) rfl (up sr) ?_))
     generalize toldF line=TB at hw st eL ⊢
     refine PMe.findB (PCall.findB (pif (fun zq=>?_) fun h=>absurd hw h))
     refine PMe.append (.head _) (pCuts st (PCall.append (pre:=[]) hp9 ⟨_,_,.refl,.mk _ _ _ _ _ _ rfl ?_⟩))
     rw [eL,List.map_append];rfl
   ·rw [if_neg (fun h=>h1 h.1)] at none_
    exact PC.eqBs (decide_eq_false h1) (none_ rfl _ _ _ _)
 ·rintro vs pl ⟨o2,o3,o4,o5,o6,o7,rfl,rfl⟩
  rw [List.length_map,List.take_length]
  exact ⟨_,_,.refl,_,.refl,a,rfl,rfl⟩
end
section
set_option tactic.hygienic false
noncomputable def ns_164:List Str:=[Str.ofString "number",Str.ofString "values",Str.ofString "field",Str.ofString "word"]
noncomputable def k_164:Ss:=(.cons (.asg 3 (.call (.g (.ref 157)) (.cons (.v 2) (.cons (.v 0) .nil)))) (.cons (.ife (.cmp .Is (.v 1) (.k .none)) (.cons (.ret (.v 3)) .nil) .nil) (.cons (.ife (.cmp .NotIn (.v 3) (.v 1)) (.cons .bad .nil) .nil) (.cons (.ret (.sub (.v 1) (.v 3))) .nil))))
noncomputable def ns_150:List Str:=[Str.ofString "number",Str.ofString "field",Str.ofString "parts",Str.ofString "first",Str.ofString "last"]
noncomputable def k_150:Ss:=(.cons (.asg 2 (.meth (.v 1) (Str.ofString "split") (.cons (.k (.bytes [46,46])) .nil))) (.cons (.ife (.cmp .Gt (.call (.g (.builtin "len")) (.cons (.v 2) .nil)) (.k (.int 2))) (.cons .bad .nil) .nil) (.cons (.asgS [3,4] (.tup (.cons (.call (.g (.ref 142)) (.cons (.sub (.v 2) (.k (.int 0))) (.cons (.v 0) .nil))) (.cons (.call (.g (.ref 142)) (.cons (.sub (.v 2) (.un .USub (.k (.int 1)))) (.cons (.v 0) .nil))) .nil)))) (.cons (.ife (.cmp .Gt (.v 3) (.v 4)) (.cons .bad .nil) .nil) (.cons (.ret (.tup (.cons (.v 3) (.cons (.v 4) .nil)))) .nil)))))
set_option tactic.hygienic true
section
variable {w:World} {D:Nat} {pl:PL} {K:KP}
set_option tactic.hygienic false
theorem PCall.lenL {xs:List P} (hz:xs.length≤16777216) (k:K (.int xs.length) pl):PCall w D (.builtin "len") [.lst xs] pl K:=⟨fun F l us hps hl=>by
 obtain ⟨v,rfl,e1⟩:=hps.one
 obtain ⟨a,us,n,rfl,h,m⟩:=e1.lstI
 exact OP.len (by rw [h.len];exact hz) (hl.sub _ m) fun t=>liftK.mk .int hl (by rw [h.len];exact k)⟩
theorem PSb.lastL {xs:List P} {p:P} (hx:xs.getLast? =some p) (k:K p pl):PSb w D (.lst xs) (.int (-1)) pl K:=⟨fun F l x y hx' hy hl=>by
 obtain ⟨_,rfl⟩:=hy.intI
 obtain ⟨a,us,n,rfl,h,m⟩:=hx'.lstI
 rw [List.getLast?_eq_getElem?] at hx
 obtain ⟨u,e1,e2⟩:=h.get hx
 exact OP.last (hl.sub _ m) (by rw [List.getLast?_eq_getElem?,h.len];exact e1) (liftK.mk e2 hl k)⟩
theorem PSb.lastV {a:Addr} {xs:List P} {p:P} (hm:(a,PO.list xs)∈pl) (hx:xs.getLast? =some p) (k:K p pl):PSb w D (.val (.ref a)) (.int (-1)) pl K:=⟨fun F l x y hx' hy hl=>by
 rw [hx'.valI]
 obtain ⟨_,rfl⟩:=hy.intI
 obtain ⟨us,n,m,h⟩:=hl.mem hm
 rw [List.getLast?_eq_getElem?] at hx
 obtain ⟨u,e1,e2⟩:=h.get hx
 exact OP.last m (by rw [List.getLast?_eq_getElem?,h.len];exact e1) (liftK.mk e2 hl k)⟩
set_option tactic.hygienic true
end
set_option tactic.hygienic false
theorem n_uval (w:World) {b:Array UInt8} {ks:List Str} {xs:List P} {n:Int} {z:Str} (hz:b.size≤10000) (ha:∀ k∈KBw.bInts b,0≤k∧k<128) (hv:dAt ks xs (decS b)=some (.str z)):
  PN w 164 [.bytes b,.dct ks xs,.int n] 35 [] fun p pl=>p= .str z∧pl=[]:=by
 refine PN.of (D:=34) ns_164 [] k_164 [some 2,some 1,some 0,none] [] [] [some (.int n),some (.dct ks xs),some (.bytes b),none] ⟨by kernel_rfl,by kernel_rfl⟩ (fun zq zq zq=>BndR.eq (by kernel_rfl) (by kernel_rfl)) (fun zq=>.nil) rfl fun I hI=>?_
 exact PCall.wfield (Nat.le_trans (by decide) (Nat.le_of_eq hI.symm)) hz ha (PC.notinD hv (PSb.dct hv ⟨_,.nil,rfl,rfl⟩))
theorem n_rangeof (w:World) {f:Array UInt8} {n a b:Int} (hz:f.size≤10000) (h:rangeF f=some (a,b)):
  PN w 150 [.bytes f,.int n] 35 [] fun p pl=>p= .tup [.int a,.int b]∧pl=[]:=by
 refine PN.of (D:=34) ns_150 [] k_150 [some 1,some 0,none,none,none] [] [] [some (.int n),some (.bytes f),none,none,none] ⟨by kernel_rfl,by kernel_rfl⟩ (fun zq zq=>BndR.dft (by kernel_rfl) (by kernel_rfl) (by kernel_rfl) (by kernel_rfl) (by kernel_rfl)) (fun zq=>.nil) rfl fun I hI=>?_
 have d25:25≤I.D:=Nat.le_trans (by decide) (Nat.le_of_eq hI.symm)
 refine PMe.splitB (PCall.splitB rfl (Nat.le_trans hz (by decide)) fun c=>?_)
 rcases rangeF_is h with ⟨p,e,h1,rfl⟩|⟨p,q,e,h1,h2,h3⟩
 ·rw [e]
  refine PCall.len (.head _) (Nat.le_of_ble_eq_true rfl) (PSb.item (.head _) (Int.le_refl _) rfl (Nat.le_of_ble_eq_true rfl) (PCall.cofield d25 h1 (PSb.lastV (.head _) rfl (PCall.cofield d25 h1 (pif (fun h=>absurd h (Int.lt_irrefl _)) fun zq=>⟨_,.nil,rfl,rfl⟩)))))
 ·rw [e]
  refine PCall.len (.head _) (Nat.le_of_ble_eq_true rfl) (PSb.item (.head _) (Int.le_refl _) rfl (Nat.le_of_ble_eq_true rfl) (PCall.cofield d25 h1 (PSb.lastV (.head _) rfl (PCall.cofield d25 h2 (pif (fun h=>absurd h (Int.not_lt.mpr h3)) fun zq=>⟨_,.nil,rfl,rfl⟩)))))
end
section
set_option tactic.hygienic false
noncomputable def ns_178:List Str:=[Str.ofString "many",Str.ofString "octets",Str.ofString "found",Str.ofString "number",Str.ofString "fields",Str.ofString "remark",Str.ofString "first",Str.ofString "last"]
noncomputable def k_178:Ss:=(.cons (.asg 2 (.lst .nil)) (.cons (.for_ (.t [3,4,5]) (.call (.g (.ref 130)) (.cons (.v 1) .nil)) (.cons (.ife (.cmp .NotEq (.call (.g (.builtin "len")) (.cons (.v 4) .nil)) (.v 0)) (.cons .bad .nil) .nil) (.cons (.asgT [6,7] (.call (.g (.ref 150)) (.cons (.sub (.v 4) (.k (.int 0))) (.cons (.v 3) .nil)))) (.cons (.ex (.meth (.v 2) (Str.ofString "append") (.cons (.tup (.cons (.v 6) (.cons (.v 7) (.cons (.v 4) (.cons (.v 3) .nil))))) .nil))) .nil)))) (.cons (.ret (.v 2)) .nil)))
noncomputable def ns_185:List Str:=[Str.ofString "word",Str.ofString "octets",Str.ofString "found",Str.ofString "number",Str.ofString "fields"]
noncomputable def k_185:Ss:=(.cons (.asg 2 (.lst .nil)) (.cons (.for_ (.t [3,4]) (.call (.g (.ref 135)) (.cons (.v 1) .nil)) (.cons (.ife (.bool .Or (.cons (.bool .And (.cons (.cmp .Eq (.call (.g (.builtin "len")) (.cons (.v 4) .nil)) (.k (.int 2))) (.cons (.cmp .Is (.v 0) (.k .none)) .nil))) (.cons (.bool .And (.cons (.cmp .Eq (.call (.g (.builtin "len")) (.cons (.v 4) .nil)) (.k (.int 3))) (.cons (.cmp .In (.v 0) (.tup (.cons (.k .none) (.cons (.sub (.v 4) (.k (.int 1))) .nil)))) .nil))) .nil))) (.cons (.ex (.meth (.v 2) (Str.ofString "append") (.cons (.tup (.cons (.v 3) (.cons (.v 4) .nil))) .nil))) .nil) .nil) .nil)) (.cons (.ret (.v 2)) .nil)))
noncomputable def ns_192:List Str:=[Str.ofString "values",Str.ofString "word",Str.ofString "octets",Str.ofString "found",Str.ofString "number",Str.ofString "fields",Str.ofString "first",Str.ofString "last"]
noncomputable def k_192:Ss:=(.cons (.asg 3 (.lst .nil)) (.cons (.for_ (.t [4,5]) (.call (.g (.ref 185)) (.cons (.v 2) (.cons (.v 1) .nil))) (.cons (.asgT [6,7] (.call (.g (.ref 150)) (.cons (.sub (.v 5) (.k (.int 0))) (.cons (.v 4) .nil)))) (.cons (.ex (.meth (.v 3) (Str.ofString "append") (.cons (.tup (.cons (.v 6) (.cons (.v 7) (.cons (.call (.g (.ref 164)) (.cons (.sub (.v 5) (.un .USub (.k (.int 1)))) (.cons (.v 0) (.cons (.v 4) .nil)))) .nil)))) .nil))) .nil))) (.cons (.ret (.v 3)) .nil)))
noncomputable abbrev lotT (r:Row):P:=.tup [.int (lotOf r).1,.int (lotOf r).2.1,.lst (r.2.1.map P.bytes),.int r.1]
inductive J178 (b:Array UInt8) (a:Addr) (i:Nat) (vs:PVs) (pl:PL):Prop
 |mk (o3 o4 o5 o6 o7:Option P) (hv:vs=[some (.int 2),some (.bytes b),some (.val (.ref a)),o3,o4,o5,o6,o7]) (hl:pl=[(a,.list (((rowsL (linesA b)).take i).map lotT))])
theorem n_ranged (w:World) {b:Array UInt8} (hs:RB.startsB b #[239,187,191]=false) (hz:b.size≤10000) (hl:(linesA b).length≤20) (hg:∀ r∈rowsL (linesA b),RowGood r):
  PN w 178 [.bytes b,.int 2] 50 [] fun p pl=>p= .lst ((rowsL (linesA b)).map lotT)∧pl=[]:=by
 refine PN.of (D:=49) ns_178 [] k_178 [some 1,some 0,none,none,none,none,none,none] [] [] [some (.int 2),some (.bytes b),none,none,none,none,none,none] ⟨by kernel_rfl,by kernel_rfl⟩ (fun zq zq=>BndR.eq (by kernel_rfl) (by kernel_rfl)) (fun zq=>.nil) rfl fun I hI=>?_
 have d35:35≤I.D:=Nat.le_trans (by decide) (Nat.le_of_eq hI.symm)
 have hln:=Nat.le_trans (rowsL_len (ls:=linesA b)) hl
 refine fun a=>PN.call (n_rows w hs hz hl) (Nat.le_trans (by decide) d35) (.refl _) ?_
 rintro p pl ⟨c,rfl,rfl⟩
 refine PFr.freeze (pre:=[]) (PFr.lst (J178 b a) ⟨_,_,.refl,.mk _ _ _ _ _ rfl rfl⟩ ?_ ?_)
 ·rintro i p vs pl hp ⟨o3,o4,o5,o6,o7,rfl,rfl⟩
  obtain ⟨⟨rn,rf,rr⟩,hr,rfl⟩:=map_at hp
  obtain ⟨f0,f1,x,y,er,hr0,z0⟩:=hg _ (List.mem_of_getElem? hr)
  cases er
  have eL:lotT (rn,[f0,f1],rr)= .tup [.int x,.int y,.lst [.bytes f0,.bytes f1],.int rn]:=by unfold lotT lotOf;rw [show [f0,f1].headD #[]=f0 from rfl,hr0];rfl
  have eS:((rowsL (linesA b)).take (i+1)).map lotT=((rowsL (linesA b)).take i).map lotT++[.tup [.int x,.int y,.lst [.bytes f0,.bytes f1],.int rn]]:=by rw [take_snoc hr,List.map_append,List.map_cons,eL];rfl
  have hz9:(((rowsL (linesA b)).take i).map lotT).length≤16777216:=by
   rw [List.length_map]
   exact Nat.le_trans (List.length_take_le' _ _) (Nat.le_trans hln (by decide))
  refine PCall.lenL (Nat.le_of_ble_eq_true rfl) (PSb.itemL (Int.le_refl _) rfl (Nat.le_of_ble_eq_true rfl) (PN.call (n_rangeof w z0 hr0) d35 (.refl _) ?_))
  rintro p pl ⟨rfl,rfl⟩
  exact PMe.append (.head _) (PCall.append (pre:=[]) hz9 ⟨_,_,.refl,.mk _ _ _ _ _ rfl (by rw [eS];rfl)⟩)
 ·rintro vs pl ⟨o3,o4,o5,o6,o7,rfl,rfl⟩
  rw [List.length_map,List.take_length]
  exact ⟨_,_,.freeze (pre:=[]) 2 rfl,_,.refl,rfl,rfl⟩
inductive J185 (b:Array UInt8) (a:Addr) (i:Nat) (vs:PVs) (pl:PL):Prop
 |mk (o3 o4:Option P) (hv:vs=[some .none,some (.bytes b),some (.val (.ref a)),o3,o4]) (hl:pl=[(a,.list (((missL (linesA b)).take i).map missT))])
theorem n_meant (w:World) {b:Array UInt8} (hs:RB.startsB b #[239,187,191]=false) (hz:b.size≤10000) (hl:(linesA b).length≤20) (hfu:∀ line∈linesA b,RB.findI (toldF line) #[35]<0) (hg:∀ r∈missL (linesA b),MissGood r):
  PN w 185 [.bytes b,.none] 40 [] fun p pl=>p= .lst ((missL (linesA b)).map missT)∧pl=[]:=by
 refine PN.of (D:=39) ns_185 [] k_185 [some 1,some 0,none,none,none] [] [] [some (.none),some (.bytes b),none,none,none] ⟨by kernel_rfl,by kernel_rfl⟩ (fun zq zq=>BndR.eq (by kernel_rfl) (by kernel_rfl)) (fun zq=>.nil) rfl fun I hI=>?_
 have d20:20≤I.D:=Nat.le_trans (by decide) (Nat.le_of_eq hI.symm)
 have hln:=Nat.le_trans (missL_len (ls:=linesA b)) hl
 refine fun a=>PN.call (n_missr w hs hz hl hfu) d20 (.refl _) ?_
 rintro p pl ⟨c,rfl,rfl⟩
 refine PFr.freeze (pre:=[]) (PFr.lst (J185 b a) ⟨_,_,.refl,.mk _ _ rfl rfl⟩ ?_ ?_)
 ·rintro i p vs pl hp ⟨o3,o4,rfl,rfl⟩
  obtain ⟨⟨rn,rf⟩,hr,rfl⟩:=map_at hp
  obtain ⟨f0,f1,x,y,er,_⟩:=hg _ (List.mem_of_getElem? hr)
  cases er
  have eS:((missL (linesA b)).take (i+1)).map missT=((missL (linesA b)).take i).map missT++[missT (rn,[f0,f1])]:=by rw [take_snoc hr,List.map_append];rfl
  have hz9:(((missL (linesA b)).take i).map missT).length≤16777216:=by
   rw [List.length_map]
   exact Nat.le_trans (List.length_take_le' _ _) (Nat.le_trans hln (by decide))
  refine PCall.lenL (Nat.le_of_ble_eq_true rfl) ?_
  exact PMe.append (.head _) (PCall.append (pre:=[]) hz9 ⟨_,_,.refl,.mk _ _ rfl (by rw [eS];rfl)⟩)
 ·rintro vs pl ⟨o3,o4,rfl,rfl⟩
  rw [List.length_map,List.take_length]
  exact ⟨_,_,.freeze (pre:=[]) 2 rfl,_,.refl,rfl,rfl⟩
inductive J192 (b:Array UInt8) (vf:Array UInt8→Str) (ks:List Str) (xs:List P) (a:Addr) (i:Nat) (vs:PVs) (pl:PL):Prop
 |mk (o4 o5 o6 o7:Option P) (hv:vs=[some (.dct ks xs),some .none,some (.bytes b),some (.val (.ref a)),o4,o5,o6,o7]) (hl:pl=[(a,.list (((missL (linesA b)).take i).map fun r=>trioP (putOf vf r)))])
theorem n_mputs (w:World) {b:Array UInt8} {ks:List Str} {xs:List P} {vf:Array UInt8→Str} (hkv:∀ r∈missL (linesA b),∀ f1∈r.2.getLast?,dAt ks xs (decS f1)=some (.str (vf f1))) (hs:RB.startsB b #[239,187,191]=false) (hz:b.size≤10000) (hl:(linesA b).length≤20) (hfu:∀ line∈linesA b,RB.findI (toldF line) #[35]<0) (hg:∀ r∈missL (linesA b),MissGood r):
  PN w 192 [.bytes b,.none,.dct ks xs] 80 [] fun p pl=>∃ a,p= .val (.ref a)∧pl=[(a,.list ((missL (linesA b)).map fun r=>trioP (putOf vf r)))]:=by
 refine PN.of (D:=79) ns_192 [] k_192 [some 2,some 1,some 0,none,none,none,none,none] [] [] [some (.dct ks xs),some (.none),some (.bytes b),none,none,none,none,none] ⟨by kernel_rfl,by kernel_rfl⟩ (fun zq zq zq=>BndR.eq (by kernel_rfl) (by kernel_rfl)) (fun zq=>.nil) rfl fun I hI=>?_
 have d40:40≤I.D:=Nat.le_trans (by decide) (Nat.le_of_eq hI.symm)
 have d35:35≤I.D:=Nat.le_trans (by decide) d40
 have hln:=Nat.le_trans (missL_len (ls:=linesA b)) hl
 refine fun a=>PN.call (n_meant w hs hz hl hfu hg) d40 (.refl _) ?_
 rintro p pl ⟨rfl,rfl⟩
 refine PFr.lst (J192 b vf ks xs a) ⟨_,_,.refl,.mk _ _ _ _ rfl rfl⟩ ?_ ?_
 ·rintro i p vs pl hp ⟨o4,o5,o6,o7,rfl,rfl⟩
  obtain ⟨⟨rn,rf⟩,hr,rfl⟩:=map_at hp
  obtain ⟨f0,f1,x,y,er,hr0,z0,z1,z2⟩:=hg _ (List.mem_of_getElem? hr)
  cases er
  have hv:=hkv _ (List.mem_of_getElem? hr) f1 rfl
  have eL:putOf vf (rn,[f0,f1])=(x,y,vf f1):=by unfold putOf;rw [show [f0,f1].headD #[]=f0 from rfl,hr0];rfl
  have eS:(((missL (linesA b)).take (i+1)).map fun r=>trioP (putOf vf r))=(((missL (linesA b)).take i).map fun r=>trioP (putOf vf r))++[trioP (x,y,vf f1)]:=by rw [take_snoc hr,List.map_append,List.map_cons,eL];rfl
  have hz9:(((missL (linesA b)).take i).map fun r=>trioP (putOf vf r)).length≤16777216:=by
   rw [List.length_map]
   exact Nat.le_trans (List.length_take_le' _ _) (Nat.le_trans hln (by decide))
  refine PSb.itemL (Int.le_refl _) rfl (Nat.le_of_ble_eq_true rfl) (PN.call (n_rangeof w z0 hr0) d35 (.refl _) ?_)
  rintro p pl ⟨rfl,rfl⟩
  refine PMe.append (.head _) (PSb.lastL rfl (PN.call (n_uval w z1 z2 hv) d35 (.refl _) ?_))
  rintro p pl ⟨rfl,rfl⟩
  exact PCall.append (pre:=[]) hz9 ⟨_,_,.refl,.mk _ _ _ _ rfl (by rw [eS];rfl)⟩
 ·rintro vs pl ⟨o4,o5,o6,o7,rfl,rfl⟩
  rw [List.length_map,List.take_length]
  exact ⟨_,_,.refl,_,.refl,a,rfl,rfl⟩
end
section
set_option tactic.hygienic false
noncomputable def ns_171:List Str:=[Str.ofString "lots",Str.ofString "ahead",Str.ofString "first",Str.ofString "last",Str.ofString "number"]
noncomputable def k_171:Ss:=(.cons (.asg 1 (.k .none)) (.cons (.for_ (.t [2,3,4]) (.call (.g (.builtin "sorted")) (.cons (.v 0) .nil)) (.cons (.ife (.bool .And (.cons (.cmp .IsNot (.v 1) (.k .none)) (.cons (.cmp .LtE (.v 2) (.sub (.v 1) (.k (.int 1)))) .nil))) (.cons .bad .nil) .nil) (.cons (.ife (.bool .Or (.cons (.cmp .Is (.v 1) (.k .none)) (.cons (.cmp .Gt (.v 3) (.sub (.v 1) (.k (.int 1)))) .nil))) (.cons (.asg 1 (.tup (.cons (.v 2) (.cons (.v 3) (.cons (.v 4) .nil))))) .nil) .nil) .nil))) .nil))
noncomputable abbrev triT (x:Int×Int×Int):P:=.tup [.int x.1,.int x.2.1,.int x.2.2]
theorem tris_in {w:World} {F:Led}:∀ {tris:List (Int×Int×Int)} {us:List Value},RVs w F (tris.map triT) us→AllV (fun v x=>RV w F (triT x) v) us tris
 |[],_,h=>by rw [h.nil_inv];exact .nil
 |x::tris,_,h=>by
  obtain ⟨v,us,rfl,a,b⟩:=h.cons_inv
  exact .cons a (tris_in b)
theorem tris_out {w:World} {F:Led} {us:List Value} {tris:List (Int×Int×Int)} (h:AllV (fun v x=>RV w F (triT x) v) us tris):RVs w F (tris.map triT) us:=by
 induction h with
 |nil=>exact .nil
 |cons a _ ih=>exact .cons a ih
theorem triT_at {w:World} {F l:Led} {C:Cx w} {m:Fm} {s:Shared} {v:Value} {x:Int×Int×Int} (h:RV w F (triT x) v) (hF:∀ y∈F,y∈l) (S:St C m l s):∃ t t1 t2 t3,v= .ref t∧s.heap.IsTuple t #[.int x.1 t1,.int x.2.1 t2,.int x.2.2 t3]:=by
 obtain ⟨us,T,r⟩:=h.tupL hF
 obtain ⟨a,b,c,rfl,h1,h2,h3⟩:=r.three
 obtain ⟨t1,rfl⟩:=h1.intI
 obtain ⟨t2,rfl⟩:=h2.intI
 obtain ⟨t3,rfl⟩:=h3.intI
 obtain ⟨t,e,i⟩:=T.at S
 exact ⟨t,t1,t2,t3,e,i⟩
theorem usort_tups {w:World} {F l:Led} {C:Cx w} {m:Fm} {s:Shared} (hF:∀ y∈F,y∈l) (S:St C m l s):∀ {vs:List Value} {tris:List (Int×Int×Int)},AllV (fun v x=>RV w F (triT x) v) vs tris→∃ fs,KatTups s.heap vs fs∧fs.length=vs.length∧∀ v∈fs,∃ a t,v=Value.int a t
 |_,_,.nil=>⟨[],.nil,rfl,fun zq h=>absurd h List.not_mem_nil⟩
 |_,_,.cons (x:=x) r av=>by
  obtain ⟨fs,h1,h2,h3⟩:=usort_tups hF S av
  obtain ⟨t,t1,t2,t3,rfl,o,hg,hc,n,hd⟩:=triT_at r hF S
  refine ⟨.int x.1 t1::fs,KatTups.cons hg hc hd rfl h1,congrArg (· +1) h2,fun v hv=>?_⟩
  rcases List.mem_cons.mp hv with rfl|hv
  ·exact ⟨_,_,rfl⟩
  ·exact h3 v hv
theorem getD_fst {tris:List (Int×Int×Int)} {i:Nat} (hi:i<tris.length):(tris.getD i (0,0,0)).1=(tris.map (·.1)).getD i 0:=by
 rw [List.getD_eq_getElem?_getD,List.getD_eq_getElem?_getD,List.getElem?_map,List.getElem?_eq_getElem hi];rfl
theorem OP.sortT {w:World} {D:Nat} {F l:Led} {a:Addr} {vs:List Value} {n:Nat} {tris:List (Int×Int×Int)} {K:KV} (hF:∀ y∈F,y∈l) (hm:(a,listOf vs.toArray n)∈l) (hv:AllV (fun v x=>RV w F (triT x) v) vs tris) (h4:tris.length≤4) (hn:(tris.map (·.1)).Nodup) (hI:∀ x∈tris,x.1∈firstsI)
  (k:∀ c ws (ys:List (Int×Int×Int)) m,AllV (fun v x=>RV w F (triT x) v) ws ys→ys.Perm tris→(ys.map (·.1)).Pairwise (· < ·)→K (.ref c) ((c,listOf ws.toArray m)::l)):OP w D (call (.builtin "sorted") [.ref a]) l K:=⟨fun C m hD s Q S q=>by
 have hlen:=hv.length
 have hm2:=List.mem_append_left C.hid hm
 by_cases h2:2≤tris.length
 ·have kl:(tris.map (·.1)).length=tris.length:=List.length_map _
  have ok:=sort_all (ks:=tris.map (·.1)) (fun k hk=>by obtain ⟨x,hx,rfl⟩:=List.mem_map.mp hk;exact hI x hx) hn (by rw [kl];exact h2) (by rw [kl];exact h4)
  unfold sortOK at ok
  rw [Bool.and_eq_true,Bool.and_eq_true,kl] at ok
  obtain ⟨⟨ok1,ok2⟩,ok3⟩:=ok
  have pm:(evalT (ltK (tris.map (·.1))) (kas_sort tris.length)).toList.Perm (List.range tris.length):=List.isPerm_iff.mp ok2
  refine kat_sorted S.F S.N (lm_list S.N hm2) (by omega) (by omega) fun D e1 h' F' N' lt=>?_
  have S1:St C m l { s with heap:=h' }:=⟨F',news_sub N' fun p hp=>.tail _ hp,S.D⟩
  obtain ⟨fs,T1,T2,T3⟩:=usort_tups hF S1 hv
  refine kat_kind (T:=.type "int") (fs:=fs) T1 (by omega) (fun v hv=>?_) (by decide) ?_
  ·obtain ⟨a,t,rfl⟩:=T3 v hv
   exact Looks.of_pure rfl
  rw [hlen]
  refine wp_eval (lt:=ltK (tris.map (·.1))) (n:=tris.length) (fun i j hi hj hij C2 hC=>?_) _ ok1 ?_
  ·unfold kas_ask
   obtain ⟨ti,t1,t2,t3,e1',o1,g1,c1,n1,d1⟩:=triT_at (hv.getD (d:=(0,0,0)) hi) hF S1
   obtain ⟨tj,t4,t5,t6,e2',o2,g2,c2,n2,d2⟩:=triT_at (hv.getD (d:=(0,0,0)) hj) hF S1
   rw [e1',e2']
   refine kat_lt g1 d1 g2 d2 ?_
   refine kat_cons (wpAny_eqBool_int ?_)
   have ne:(tris.getD i (0,0,0)).1≠(tris.getD j (0,0,0)).1:=by
    rw [getD_fst hi,getD_fst hj,List.getD_eq_getElem?_getD,List.getD_eq_getElem?_getD,List.getElem?_eq_getElem (kl.symm▸hi),List.getElem?_eq_getElem (kl.symm▸hj)]
    intro e
    exact hij ((List.getElem_inj hn).mp e)
   rw [beq_eq_false_iff_ne.mpr ne]
   refine kat_no ?_
   refine oneLt_int ?_
   have e6:decide ((tris.getD i (0,0,0)).1<(tris.getD j (0,0,0)).1)=ltK (tris.map (·.1)) i j:=by unfold ltK;rw [getD_fst hi,getD_fst hj]
   rw [e6]
   exact hC
  ·refine KasFin.intro F' N' (.head fun q hq=>Nat.ne_of_lt (lt q hq)) fun h'' c F2 N2=>?_
   refine q _ _ h'' s.toks (k D _ ((evalT (ltK (tris.map (·.1))) (kas_sort tris.length)).toList.map fun i=>tris.getD i (0,0,0)) c (hv.pick _ fun i hi=>List.mem_range.mp (pm.mem_iff.mp hi)) (pick_perm pm) ?_) (S.new F2 N2 lt)
   rw [List.map_map]
   have e:(evalT (ltK (tris.map (·.1))) (kas_sort tris.length)).toList.map ((fun x:Int×Int×Int=>x.1)∘fun i=>tris.getD i (0,0,0))=(evalT (ltK (tris.map (·.1))) (kas_sort tris.length)).toList.map fun i=>(tris.map (·.1)).getD i 0:=List.map_congr_left fun i hi=>getD_fst (List.mem_range.mp (pm.mem_iff.mp hi))
   rw [e]
   exact ascI_pair ok3
 ·refine sorted_short S.F S.N hm2 (by omega) fun c n' h' F' N' lt=>q _ _ h' s.toks (k c vs tris n' hv (.refl _) ?_) (S.new F' N' lt)
  rcases tris with _|⟨x,_|⟨y,l⟩⟩
  ·exact .nil
  ·exact List.pairwise_singleton _ _
  ·exact absurd (Nat.le_add_left 2 l.length) h2⟩
theorem PCall.sortedT {w:World} {D:Nat} {pl:PL} {K:KP} {tris:List (Int×Int×Int)} (h4:tris.length≤4) (hn:(tris.map (·.1)).Nodup) (hI:∀ x∈tris,x.1∈firstsI)
  (k:∀ c (ys:List (Int×Int×Int)),ys.Perm tris→(ys.map (·.1)).Pairwise (· < ·)→K (.val (.ref c)) ((c,.list (ys.map triT))::pl)):PCall w D (.builtin "sorted") [.lst (tris.map triT)] pl K:=⟨fun F l us hps hl=>by
 obtain ⟨v,rfl,e⟩:=hps.one
 obtain ⟨a,us,n,rfl,h,m⟩:=e.lstI
 exact OP.sortT hl.sub (hl.sub _ m) (tris_in h) h4 hn hI fun c ws ys m hw pm srt=>liftK.mk .val (hl.list (tris_out hw)) (k c ys pm srt)⟩
theorem por_t {W:PL→KPB→Prop} {K:KPB} {c:Prop} [Decidable c] {pl:PL} (h:c) (k:K true pl):pOr W K (decide c) pl:=by
 rw [decide_eq_true h];exact k
noncomputable def aheadP (ys:List (Int×Int×Int)):Nat→P
 |0=>.none
 |i+1=>match ys[i]? with
  |some x=>triT x
  |none=>.none
theorem ahead_at {ys:List (Int×Int×Int)} {i:Nat} {x:Int×Int×Int} (h:ys[i]? =some x):aheadP ys (i+1)=triT x:=by
 show (match ys[i]? with|some x=>triT x|none=>.none)=triT x
 rw [h]
inductive J171 (l:P) (ys:List (Int×Int×Int)) (i:Nat) (vs:PVs) (pl:PL):Prop
 |mk (o2 o3 o4:Option P) (hv:vs=[some l,some (aheadP ys i),o2,o3,o4]) (hl:pl=[])
theorem n_apart (w:World) {tris:List (Int×Int×Int)} (h4:tris.length≤4) (ha:ApartT tris):
  PN w 171 [.lst (tris.map triT)] 30 [] fun p pl=>p= .none∧pl=[]:=by
 obtain ⟨ha1,ha2,ha3⟩:=ha
 refine PN.of (D:=29) ns_171 [] k_171 [some 0,none,none,none,none] [] [] [some (.lst (tris.map triT)),none,none,none,none] ⟨by kernel_rfl,by kernel_rfl⟩ (fun zq=>BndR.eq (by kernel_rfl) (by kernel_rfl)) (fun zq=>.nil) rfl fun I hI=>?_
 refine PCall.sortedT h4 ha3 (fun x hx=>(ha1 x hx).2) fun c ys pm srt=>PFr.freeze (pre:=[]) (PFr.lst (J171 (.lst (tris.map triT)) ys) ⟨_,_,.refl,.mk _ _ _ rfl rfl⟩ ?_ ?_)
 ·rintro i p vs pl hp ⟨o2,o3,o4,rfl,rfl⟩
  obtain ⟨x,hx,rfl⟩:=map_at hp
  have eA:aheadP ys (i+1)=triT x:=ahead_at hx
  have fin:∀ {o2 o3 o4:Option P},LpI w (J171 (.lst (tris.map triT)) ys (i+1)) [some (.lst (tris.map triT)),some (triT x),o2,o3,o4] []:=⟨_,_,.refl,.mk _ _ _ (by rw [eA]) rfl⟩
  cases i with
  |zero=>exact fin
  |succ j=>
   have hj:j<ys.length:=Nat.lt_of_succ_lt (List.getElem?_eq_some_iff.mp hx).1
   have hy:=List.getElem?_eq_getElem hj
   have mx:=pm.mem_iff.mp (List.mem_of_getElem? hx)
   have my:=pm.mem_iff.mp (List.mem_of_getElem? hy)
   have hlt:ys[j].1<x.1:=by
    obtain ⟨h1,h2⟩:=List.getElem?_eq_some_iff.mp hx
    have:=List.pairwise_iff_getElem.mp srt j (j+1) (by rw [List.length_map];exact hj) (by rw [List.length_map];exact h1) (Nat.lt_succ_self j)
    rw [List.getElem_map,List.getElem_map,h2] at this
    exact this
   have h5:=ha2 _ my _ mx hlt
   have h6:=Int.lt_of_lt_of_le h5 (ha1 _ mx).1
   have eB:aheadP ys (j+1)=triT ys[j]:=ahead_at hy
   rw [eB]
   exact pand (fun h=>absurd h (Int.not_le.mpr h5)) fun zq=>por_t h6 fin
 ·rintro vs pl ⟨o2,o3,o4,rfl,rfl⟩
  exact ⟨_,_,.refl,_,.refl,rfl,rfl⟩
end
section
set_option tactic.hygienic false
noncomputable def ns_205:List Str:=[Str.ofString "values",Str.ofString "name",Str.ofString "data",Str.ofString "octets",Str.ofString "puts",Str.ofString "lots",Str.ofString "first",Str.ofString "last",Str.ofString "fields",Str.ofString "number",Str.ofString "value"]
noncomputable def k_205:Ss:=(.cons (.asg 4 (.call (.g (.ref 192)) (.cons (.v 3) (.cons (.k .none) (.cons (.v 0) .nil))))) (.cons (.asg 5 (.call (.g (.ref 178)) (.cons (.v 3) (.cons (.k (.int 2)) .nil)))) (.cons (.ex (.call (.g (.ref 171)) (.cons (.comp4 (.tup (.cons (.v 0) (.cons (.v 1) (.cons (.v 3) .nil)))) (.v 5) []) .nil))) (.cons (.ife (.cmp .Is (.v 0) (.k .none)) (.cons (.ex (.call (.g (.ref 199)) (.cons (.bin .Add (.call (.g (.ref 185)) (.cons (.v 3) (.cons (.k .none) .nil))) (.comp4 (.tup (.cons (.v 3) (.cons (.v 2) .nil))) (.v 5) [])) .nil))) .nil) .nil) (.cons (.for_ (.t [6,7,8,9]) (.v 5) (.cons (.ex (.meth (.v 4) (Str.ofString "append") (.cons (.tup (.cons (.v 6) (.cons (.v 7) (.cons (.call (.g (.ref 164)) (.cons (.sub (.v 8) (.k (.int 1))) (.cons (.v 0) (.cons (.v 9) .nil)))) .nil)))) .nil))) .nil)) (.cons (.for_ (.t [6,7,10]) (.v 4) (.cons (.ex (.meth (.v 2) (Str.ofString "put") (.cons (.v 1) (.cons (.v 6) (.cons (.v 7) (.cons (.v 10) .nil)))))) .nil)) .nil))))))
inductive J205 (L:List (Int×Int×Str)) (wd nm dt b lots:P) (r:PL) (lp:Addr) (i:Nat) (vs:PVs) (pl:PL):Prop
 |mk (o6 o7 o8 o9 o10:Option P) (hv:vs=[some wd,some nm,some dt,some b,some (.val (.ref lp)),some lots,o6,o7,o8,o9,o10]) (hl:pl=(lp,.list ((L.take i).map trioP))::r)
inductive JD205 (w:World) (x0:Addr) (sg:Str→Int→PV) (nm:Str) (len:Nat) (L:List (Int×Int×Str)) (wd b lots lv:P) (i:Nat) (vs:PVs) (pl:PL):Prop
 |mk (S:DS) (o6 o7 o8 o9 o10:Option P) (hv:vs=[some wd,some (.str nm),some (.val (.ref x0)),some b,some lv,some lots,o6,o7,o8,o9,o10]) (hl:pl=S.pl w) (hx:S.x=x0) (Ok:DK w S (putsS sg nm (L.take i)) (len+2*i))
theorem n_readp (w:World) {S:DS} {sg:Str→Int→PV} {len:Nat} {b:Array UInt8} {nm:Str} {ks:List Str} {xs:List P} {vf:Array UInt8→Str} (Ok:DK w S sg len) (hlen:len≤100) (hn:nm∈usedNames)
  (hs:RB.startsB b #[239,187,191]=false) (hz:b.size≤10000) (hl:(linesA b).length≤20) (hfu:∀ line∈linesA b,RB.findI (toldF line) #[35]<0) (hmg:∀ r∈missL (linesA b),MissGood r)
  (hmk:∀ r∈missL (linesA b),∀ f1∈r.2.getLast?,dAt ks xs (decS f1)=some (.str (vf f1))) (hrg:∀ r∈rowsL (linesA b),RowGood2 r)
  (hrk:∀ r∈rowsL (linesA b),∀ f1∈r.2.1.getLast?,dAt ks xs (decS f1)=some (.str (vf f1))) (h4:(rowsL (linesA b)).length≤4) (hap:ApartT ((rowsL (linesA b)).map triOf))
  (hps:∀ p∈putsL vf (linesA b),0≤p.1∧p.1≤p.2.1∧p.2.1≤1114111) (hstr:∀ c,∃ z,sg nm c= .str z):
  PN w 205 [.bytes b,.val (.ref S.x),.str nm,.dct ks xs] 100 (S.pl w) fun p pl=>∃ S',p= .none∧pl=S'.pl w∧S'.x=S.x∧DK w S' (putsS sg nm (putsL vf (linesA b))) (len+2*(putsL vf (linesA b)).length):=by
 refine PN.of (D:=99) ns_205 [] k_205 [some 3,some 2,some 1,some 0,none,none,none,none,none,none,none] [] [] [some (.dct ks xs),some (.str nm),some (.val (.ref S.x)),some (.bytes b),none,none,none,none,none,none,none] ⟨by kernel_rfl,by kernel_rfl⟩ (fun zq zq zq zq=>BndR.dft (by kernel_rfl) (by kernel_rfl) (by kernel_rfl) (by kernel_rfl) (by kernel_rfl)) (fun zq=>.nil) rfl fun I hI=>?_
 have d80:80≤I.D:=Nat.le_trans (by decide) (Nat.le_of_eq hI.symm)
 have d50:50≤I.D:=Nat.le_trans (by decide) d80
 have d35:35≤I.D:=Nat.le_trans (by decide) d80
 have lM:=Nat.le_trans (missL_len (ls:=linesA b)) hl
 have lP:(putsL vf (linesA b)).length≤24:=by unfold putsL;rw [List.length_append,List.length_map,List.length_map];omega
 refine PN.call (n_mputs w hmk hs hz hl hfu hmg) d80 (.refl _) ?_
 rintro p pl ⟨lp,rfl,rfl⟩
 refine PN.call (n_ranged w hs hz hl fun r hr=>(hrg r hr).one) d50 (.refl _) ?_
 rintro p pl ⟨rfl,rfl⟩
 refine PCp4.each (ys:=((rowsL (linesA b)).map triOf).map triT) (by rw [List.length_map,List.length_map,List.length_map]) (by rw [List.length_map];exact Nat.le_trans h4 (by decide)) (fun i x y hx hy=>?_) (.inl ?_)
 ·obtain ⟨r,hr,rfl⟩:=map_at hx
  obtain ⟨t,ht,rfl⟩:=map_at hy
  rw [List.getElem?_map,hr] at ht
  cases ht
  exact ⟨_,_,_,_,rfl,fun K' k'=>k'⟩
 refine PN.call (n_apart w (by rw [List.length_map];exact h4) hap) (Nat.le_trans (by decide) d35) (.refl _) ?_
 rintro p pl ⟨rfl,rfl⟩
 have eM:(missL (linesA b)).map (fun r=>trioP (putOf vf r))=((putsL vf (linesA b)).take ((missL (linesA b)).length+0)).map trioP:=by
  unfold putsL
  rw [Nat.add_zero,List.take_append_of_le_length (Nat.le_of_eq (List.length_map _).symm),List.take_of_length_le (Nat.le_of_eq (List.length_map _)),List.map_map];rfl
 rw [eM]
 refine PFr.lst (fun i=>J205 (putsL vf (linesA b)) (.dct ks xs) (.str nm) (.val (.ref S.x)) (.bytes b) (.lst ((rowsL (linesA b)).map lotT)) (S.pl w) lp ((missL (linesA b)).length+i)) ⟨_,_,.refl,.mk _ _ _ _ _ rfl rfl⟩ ?_ ?_
 ·rintro i p vs pl hp ⟨o6,o7,o8,o9,o10,rfl,rfl⟩
  obtain ⟨⟨rn,rf,rr⟩,hr,rfl⟩:=map_at hp
  obtain ⟨f0,f1,x,y,er,hr0,z0,z1,z2⟩:=hrg _ (List.mem_of_getElem? hr)
  cases er
  have hv:=hrk _ (List.mem_of_getElem? hr) f1 rfl
  have hat:(putsL vf (linesA b))[(missL (linesA b)).length+i]? =some (rowPut vf (rn,[f0,f1],rr)):=by
   unfold putsL
   rw [List.getElem?_append_right (by rw [List.length_map];exact Nat.le_add_right _ _),List.length_map,Nat.add_sub_cancel_left,List.getElem?_map,hr];rfl
  have hz9:(((putsL vf (linesA b)).take ((missL (linesA b)).length+i)).map trioP).length≤16777216:=by
   rw [List.length_map]
   exact Nat.le_trans (List.length_take_le' _ _) (Nat.le_trans lP (by decide))
  refine PMe.append (.head _) (PSb.itemL (i:=1) (by decide) rfl (Nat.le_of_ble_eq_true rfl) (PN.call (n_uval w z1 z2 hv) d35 (.refl _) ?_))
  rintro p pl ⟨rfl,rfl⟩
  refine PCall.append (pre:=[]) hz9 ⟨_,_,.refl,.mk _ _ _ _ _ rfl ?_⟩
  rw [←Nat.add_assoc,take_snoc hat,List.map_append]
  rfl
 rintro vs pl ⟨o6,o7,o8,o9,o10,rfl,rfl⟩
 refine ⟨_,_,.refl,?_⟩
 have eT:(putsL vf (linesA b)).take ((missL (linesA b)).length+((rowsL (linesA b)).map lotT).length)=putsL vf (linesA b):=List.take_of_length_le (by unfold putsL;rw [List.length_append,List.length_map,List.length_map,List.length_map];exact Nat.le_refl _)
 rw [eT]
 generalize putsL vf (linesA b)=PS at *
 refine PFr.freeze (pre:=[]) (PFr.lst (JD205 w S.x sg nm len PS (.dct ks xs) (.bytes b) (.lst ((rowsL (linesA b)).map lotT)) (.val (.ref lp))) ⟨_,_,.refl,.mk S _ _ _ _ _ rfl rfl rfl Ok⟩ ?_ ?_)
 ·rintro i p vs pl hp ⟨S2,o6,o7,o8,o9,o10,rfl,rfl,hx,Ok2⟩
  obtain ⟨r,hr,rfl⟩:=map_at hp
  obtain ⟨p1,p2,p3⟩:=hps r (List.mem_of_getElem? hr)
  have hi:=(List.getElem?_eq_some_iff.mp hr).1
  have lk:∀ c,Likeable w (putsS sg nm (PS.take i) nm c) (.str r.2.2):=fun c=>by
   obtain ⟨z,e⟩:=putsS_str (PS.take i) hstr c
   rw [e]
   trivial
  refine PMe.dput hx PSubP.refl (PCall.dput (q:=.str r.2.2) (r:=[]) Ok2 hx d50 (by omega) hn p1 p2 p3 (fun zq=>lk _) (fun zq=>lk _) (by rw [List.append_nil]) fun S3 hx3 Ok3=>?_)
  refine ⟨_,_,.refl,.mk S3 _ _ _ _ _ rfl (List.append_nil _) hx3 ?_⟩
  rw [take_snoc hr,putsS_snoc]
  exact Ok3
 rintro vs pl ⟨S2,o6,o7,o8,o9,o10,rfl,rfl,hx,Ok2⟩
 rw [List.length_map,List.take_length] at Ok2
 exact ⟨_,_,.refl,_,.refl,S2,rfl,rfl,hx,Ok2⟩
end
section
set_option tactic.hygienic false
noncomputable def ns_227:List Str:=[Str.ofString "sets",Str.ofString "rows",Str.ofString "word",Str.ofString "ranges",Str.ofString "first",Str.ofString "last"]
noncomputable def k_227:Ss:=(.cons (.asg 1 (.lst .nil)) (.cons (.for_ (.t [2,3]) (.v 0) (.cons (.for_ (.t [4,5]) (.v 3) (.cons (.ex (.meth (.v 1) (Str.ofString "append") (.cons (.bin .Add (.bin .Add (.bin .Add (.call (.g (.ref 212)) (.cons (.v 4) (.cons (.v 5) .nil))) (.k (.bytes [32,59,32]))) (.call (.g (.ref 78)) (.cons (.v 2) .nil))) (.k (.bytes [10]))) .nil))) .nil)) .nil)) (.cons (.ret (.meth (.k (.bytes [])) (Str.ofString "join") (.cons (.v 1) .nil))) .nil)))
noncomputable def spanP (r:Int×Int):P:=.tup [.int r.1,.int r.2]
noncomputable def setP (s:Str×List (Int×Int)):P:=.tup [.str s.1,.lst (s.2.map spanP)]
inductive J227 (S:List (Str×List (Int×Int))) (lr:Addr) (i:Nat) (vs:PVs) (pl:PL):Prop
 |mk (o2 o3 o4 o5:Option P) (hv:vs=[some (.lst (S.map setP)),some (.val (.ref lr)),o2,o3,o4,o5]) (hl:pl=[(lr,.list ((boolL (S.take i)).map P.bytes))])
inductive JI227 (S:List (Str×List (Int×Int))) (R:List (Array UInt8)) (s:Str×List (Int×Int)) (lr:Addr) (j:Nat) (vs:PVs) (pl:PL):Prop
 |mk (o4 o5:Option P) (hv:vs=[some (.lst (S.map setP)),some (.val (.ref lr)),some (.str s.1),some (.lst (s.2.map spanP)),o4,o5]) (hl:pl=[(lr,.list ((R++(s.2.take j).map fun r=>rowLB id (r.1,r.2,s.1)).map P.bytes))])
theorem n_boolo (w:World) {S:List (Str×List (Int×Int))} (hl:S.length≤5) (hok:∀ s∈S,SetOK s):PN w 227 [.lst (S.map setP)] 41 [] fun p pl=>p= .bytes (joinB #[] (boolL S))∧pl=[]:=by
 refine PN.of (D:=40) ns_227 [] k_227 [some 0,none,none,none,none,none] [] [] [some (.lst (S.map setP)),none,none,none,none,none] ⟨by kernel_rfl,by kernel_rfl⟩ (fun zq=>BndR.eq (by kernel_rfl) (by kernel_rfl)) (fun zq=>.nil) rfl fun I hI=>?_
 have d15:15≤I.D:=by omega
 have hzl:=boolL_size hok
 have hlen:=boolL_len hok
 have hfs:=foldSize_le (sep:=#[]) hzl
 have hfs2:RB.foldSize #[] (boolL S)≤16777216:=by simp only [List.size_toArray,List.length_nil] at hfs;omega
 intro lr
 refine PFr.lst (J227 S lr) ⟨_,_,.refl,.mk _ _ _ _ rfl rfl⟩ ?_ ?_
 ·rintro i p vs pl hp ⟨o2,o3,o4,o5,rfl,rfl⟩
  obtain ⟨s,hs,rfl⟩:=map_at hp
  have ok:=hok s (List.mem_of_getElem? hs)
  have okz:=ok.z
  have hlt:(boolL (S.take i)).length≤5*5:=Nat.le_trans (boolL_len fun s h=>hok s (List.mem_of_mem_take h)) (by rw [List.length_take];omega)
  refine PFr.lst (JI227 S (boolL (S.take i)) s lr) ⟨_,_,.refl,.mk _ _ rfl (by rw [List.take_zero,List.map_nil,List.append_nil])⟩ ?_ ?_
  ·rintro j p vs pl hp ⟨o4,o5,rfl,rfl⟩
   obtain ⟨r,hr,rfl⟩:=map_at hp
   obtain ⟨b1,b2,b3,b4⟩:=ok.sp r (List.mem_of_getElem? hr)
   have z1:=rngB_size r.1 r.2
   have z2:=encA_size s.1
   have z3:=ok.len
   refine PMe.append (.head _) (PCall.rng d15 b1 b2 b3 b4 (PB.bytes ?_ (PCall.enc d15 (by omega) ok.asc (PB.bytes ?_ (PB.bytes ?_ (PCall.append (pre:=[]) ?_ ⟨_,_,.refl,.mk _ _ rfl ?_⟩))))))
   ·simp only [Array.size_append,List.size_toArray,List.length_cons,List.length_nil];omega
   ·simp only [Array.size_append,List.size_toArray,List.length_cons,List.length_nil];omega
   ·simp only [Array.size_append,List.size_toArray,List.length_cons,List.length_nil];omega
   ·rw [List.length_map,List.length_append,List.length_map,List.length_take];omega
   ·have e:(boolL (S.take i)++(s.2.take (j+1)).map fun r=>rowLB id (r.1,r.2,s.1))=(boolL (S.take i)++(s.2.take j).map fun r=>rowLB id (r.1,r.2,s.1))++[rowLB id (r.1,r.2,s.1)]:=by rw [List.take_add_one,hr,List.map_append,List.append_assoc];rfl
    simp only [e,List.map_append];rfl
  ·rintro vs pl ⟨o4,o5,rfl,rfl⟩
   refine ⟨_,_,.refl,_,_,.refl,.mk _ _ _ _ rfl ?_⟩
   rw [List.take_add_one,hs,show (some s).toList=[s] from rfl,boolL_snoc,List.length_map,List.take_length]
 ·rintro vs pl ⟨o2,o3,o4,o5,rfl,rfl⟩
  rw [List.length_map,List.take_length]
  exact ⟨_,_,.refl,PMe.joinB (PCall.joinB (.head _) hfs2 ⟨_,.nil,rfl,rfl⟩)⟩
end
section
set_option tactic.hygienic false
noncomputable def ns_484:List Str:=[Str.ofString "well",Str.ofString "sets",Str.ofString "due",Str.ofString "turn",Str.ofString "word",Str.ofString "spans",Str.ofString "again"]
noncomputable def k_484:Ss:=(.cons (.asgS [1,2] (.tup (.cons (.lst .nil) (.cons (.k (.bytes [])) .nil)))) (.cons (.for_ (.n 3) (.call (.g (.type "range")) (.cons (.call (.g (.ref 424)) (.cons (.v 0) (.cons (.k (.int 4)) .nil))) .nil)) (.cons (.asgS [4,5] (.tup (.cons (.call (.g (.ref 431)) (.cons (.v 0) (.cons (.tup (.cons (.k (.str (Str.ofString "Dash"))) (.cons (.k (.str (Str.ofString "White_Space"))) .nil))) .nil))) (.cons (.lst .nil) .nil)))) (.cons (.for_ (.n 6) (.call (.g (.type "range")) (.cons (.call (.g (.ref 424)) (.cons (.v 0) (.cons (.k (.int 3)) .nil))) .nil)) (.cons (.ex (.meth (.v 5) (Str.ofString "append") (.cons (.call (.g (.ref 431)) (.cons (.v 0) (.cons (.g (.ref 410)) .nil))) .nil))) (.cons (.asg 2 (.bin .Add (.v 2) (.call (.g (.ref 472)) (.cons (.sub (.sub (.v 5) (.un .USub (.k (.int 1)))) (.k (.int 0))) (.cons (.sub (.sub (.v 5) (.un .USub (.k (.int 1)))) (.k (.int 1))) (.cons (.v 4) .nil)))))) .nil))) (.cons (.ex (.meth (.v 1) (Str.ofString "append") (.cons (.tup (.cons (.v 4) (.cons (.v 5) .nil))) .nil))) .nil)))) (.cons (.ret (.cmp .Eq (.call (.g (.ref 227)) (.cons (.v 1) .nil)) (.v 2))) .nil)))
noncomputable def words2:List Str:=[Str.ofString "Dash",Str.ofString "White_Space"]
theorem words2_ok':∀ z∈words2,okW z=true:=by decide+kernel
theorem words2_ok {z:Str} (h:z∈words2):z.cps.size≤20∧Asc z:=by
 have:=words2_ok' z h
 unfold okW at this
 rw [Bool.and_eq_true,decide_eq_true_eq] at this
 exact ⟨this.1,Asc.lit _ this.2⟩
theorem fits4 {x:Int} (h0:0≤x) (h3:x<4):Builtin.Range.small 0 x 1=true∧Builtin.Range.rangeSize 0 x 1=((x.toNat:Nat):Int):=fits5 h0 (by omega)
noncomputable def SetG (s:Str×List (Int×Int)):Prop:=s.1∈words2∧(∀ r∈s.2,r∈spansI)∧s.2.length≤2
theorem SetG.ok {s:Str×List (Int×Int)} (h:SetG s):SetOK s:=by
 obtain ⟨h1,h2,h3⟩:=h
 obtain ⟨z,a⟩:=words2_ok h1
 exact ⟨by omega,a,by omega,fun r hr=>by obtain ⟨k1,k2,k3,k4,_⟩:=spans_ok _ (h2 r hr);exact ⟨k1,k2,k3,k4⟩⟩
theorem bool_small {S:List (Str×List (Int×Int))} (h:∀ s∈S,SetG s) (hl:S.length≤4):(catB (boolL S)).size≤4000:=by
 have h1:=boolL_size fun s hs=>(h s hs).ok
 have h2:=boolL_len fun s hs=>(h s hs).ok
 have h3:=catB_size h1
 have:200*(boolL S).length≤200*20:=Nat.mul_le_mul_left _ (by omega)
 omega
noncomputable def spansP:List P:=spansI.map spanP
theorem span_top {w:World} {v:Value} {r:Int×Int} (h:TopSpan w v r) (F:Led):RV w F (spanP r) v:=by
 obtain ⟨t,x,y,rfl,hT⟩:=h
 exact .tupK (.cons .int (.cons .int .nil)) hT
theorem spans_top {w:World} (F:Led):RV w F (.tup spansP) (.ref 410):=by
 have:∀ {vs:List Value} {rs:List (Int×Int)},AllV (TopSpan w) vs rs→RVs w F (rs.map spanP) vs:=by
  intro vs rs h
  induction h with
  |nil=>exact .nil
  |cons h _ ih=>exact .cons (span_top h F) ih
 exact .tupK (this (spanV_is w)) (tt410 w)
inductive J484 (aw ac ls:Addr) (ns:List Int) (i:Nat) (vs:PVs) (pl:PL):Prop
 |mk (S:List (Str×List (Int×Int))) (sp:Int) (o3 o4 o5 o6:Option P) (hv:vs=[some (.val (.ref aw)),some (.val (.ref ls)),some (.bytes (catB (boolL S))),o3,o4,o5,o6]) (hl:pl=[(ls,.list (S.map setP)),(aw,wellP ac sp),(ac,intsP ns)]) (h1:∀ s∈S,SetG s) (h2:0≤sp) (h3:S.length=i)
inductive I484 (aw ac ls la:Addr) (ns:List Int) (S:List (Str×List (Int×Int))) (i:Nat) (z:Str) (j:Nat) (vs:PVs) (pl:PL):Prop
 |mk (R:List (Int×Int)) (sp:Int) (o6:Option P) (hv:vs=[some (.val (.ref aw)),some (.val (.ref ls)),some (.bytes (catB (boolL (S++[(z,R)])))),some (.int (0+(i:Int))),some (.str z),some (.val (.ref la)),o6]) (hl:pl=[(la,.list (R.map spanP)),(ls,.list (S.map setP)),(aw,wellP ac sp),(ac,intsP ns)]) (h1:∀ r∈R,r∈spansI) (h2:0≤sp) (h3:R.length=j)
theorem n_truths (w:World) {aw ac:Addr} {ns:List Int} {spot:Int} (hlen:ns.length≤63) (h0:0≤spot):
  PN w 484 [.val (.ref aw)] 61 [(aw,wellP ac spot),(ac,intsP ns)] fun p pl=>p= .bool true∧∃ sp,0≤sp∧pl=[(aw,wellP ac sp),(ac,intsP ns)]:=by
 refine PN.of (D:=60) ns_484 [] k_484 [some 0,none,none,none,none,none,none] [] [] [some (.val (.ref aw)),none,none,none,none,none,none] ⟨by kernel_rfl,by kernel_rfl⟩ (fun zq=>BndR.eq (by kernel_rfl) (by kernel_rfl)) (fun zq=>.nil) rfl fun I hI=>?_
 have d10:10≤I.D:=by omega
 have d20:20≤I.D:=by omega
 have d41:41≤I.D:=by omega
 intro ls
 refine PCall.draw (pre:=[_]) d10 (.tail _ (.head _)) hlen h0 (by decide) (by decide) fun x hx0 hx4=>PCall.range ?_
 obtain ⟨rs1,rs2⟩:=fits4 hx0 hx4
 refine PFr.rng (J484 aw ac ls ns) rs1 rs2
  ⟨_,_,.refl,.mk [] _ _ _ _ _ rfl rfl (fun zq h=>absurd h List.not_mem_nil) (Int.le_add_one h0) rfl⟩ ?_ ?_
 ·rintro i vs pl hi2 ⟨S,sp,o3,o4,o5,o6,rfl,rfl,f2,f3,f4⟩
  refine PCall.pick (pre:=[_]) d20 (.tail _ (.head _)) hlen f3 (Nat.le_of_ble_eq_true rfl) (Nat.le_of_ble_eq_true rfl) fun p hp=>?_
  obtain ⟨z,rfl,hz⟩:∃ z,p= .str z∧z∈words2:=by
   rcases List.mem_cons.mp hp with rfl|hp
   ·exact ⟨_,rfl,.head _⟩
   ·rw [List.mem_singleton.mp hp];exact ⟨_,rfl,.tail _ (.head _)⟩
  obtain ⟨zs9,za9⟩:=words2_ok hz
  intro la
  refine PCall.draw (pre:=[_,_]) d10 (.tail _ (.tail _ (.head _))) hlen (Int.le_add_one f3) (by decide) (by decide) fun x hx0 hx3=>PCall.range ?_
  obtain ⟨rs1,rs2⟩:=fits5 hx0 (Int.lt_trans hx3 (by decide))
  refine PFr.rng (I484 aw ac ls la ns S i z) rs1 rs2
   ⟨_,_,.refl,.mk [] _ o6 ?_ rfl (fun zq h=>absurd h List.not_mem_nil) (Int.le_add_one (Int.le_add_one f3)) rfl⟩ ?_ ?_
  ·rw [boolL_snoc,List.map_nil,List.append_nil];rfl
  ·rintro j vs pl hj2 ⟨R,sp,o6,rfl,rfl,k2,k3,k4⟩
   refine PMe.append (.head _) (PCall.pickK (pre:=[_,_]) spans_top d20 (.tail _ (.tail _ (.head _))) hlen k3 (by decide) (by decide) fun p hp=>?_)
   obtain ⟨⟨ra,rb⟩,hrs,rfl⟩:=List.mem_map.mp hp
   obtain ⟨b1,b2,b3,b4,_⟩:=spans_ok _ hrs
   have hS:∀ s∈S++[(z,R)],SetG s:=fun s hs=>by
    rcases List.mem_append.mp hs with hs|hs
    ·exact f2 s hs
    ·rw [List.mem_singleton.mp hs];exact ⟨hz,k2,by dsimp only;omega⟩
   have z4:=bool_small hS (by rw [List.length_append,List.length_singleton];omega)
   have z2:=lineS_size ra rb z
   have z3:=encA_size (lineS ra rb z)
   refine PCall.append (pre:=[]) (by rw [List.length_map];omega) (PSb.last (.head _) (PSb.last (.head _) (PCall.line d20 b1 b2 b3 b4 (by omega) za9 (PB.bytes ?_ ⟨_,_,.refl,.mk (R++[(ra,rb)]) _ (some (.int (0+(j:Int)))) ?_ ?_ ?_ (Int.le_add_one k3) ?_⟩))))
   ·rw [Array.size_append];simp only [List.size_toArray,List.length_cons,List.length_nil];omega
   ·have e9:encA (lineS ra rb z)++#[10]=rowLB id (ra,rb,z):=lineB_row id ra rb z
    rw [e9,boolL_snoc,boolL_snoc,List.map_append,List.map_cons,List.map_nil,←List.append_assoc,←catB_snoc]
    rfl
   ·rw [List.map_append];rfl
   ·intro r hr
    rcases List.mem_append.mp hr with hr|hr
    ·exact k2 r hr
    ·rw [List.mem_singleton.mp hr];exact hrs
   ·rw [List.length_append,k4];rfl
  ·rintro vs pl ⟨R,sp,o6,rfl,rfl,k2,k3,k4⟩
   refine ⟨_,_,RE.freeze (pre:=[]) 5 rfl,PMe.append (.head _) (PCall.append (pre:=[]) ?_ ⟨_,_,.refl,.mk (S++[(z,R)]) sp (some (.int (0+(i:Int)))) (some (.str z)) (some (.lst (R.map spanP))) o6 rfl ?_ ?_ k3 ?_⟩)⟩
   ·rw [List.length_map];omega
   ·rw [List.map_append];rfl
   ·intro s hs
    rcases List.mem_append.mp hs with hs|hs
    ·exact f2 s hs
    ·rw [List.mem_singleton.mp hs];exact ⟨hz,k2,by dsimp only;omega⟩
   ·rw [List.length_append,f4];rfl
 ·rintro vs pl ⟨S,sp,o3,o4,o5,o6,rfl,rfl,f2,f3,f4⟩
  have hSk:∀ s∈S,SetOK s:=fun s hs=>(f2 s hs).ok
  refine ⟨_,_,RE.freeze (pre:=[]) 1 rfl,PN.call (n_boolo w (by omega) hSk) d41 (r:=[_,_]) (.refl _) ?_⟩
  rintro p pl' ⟨rfl,rfl⟩
  rw [catB_join]
  exact PC.eqB ⟨_,.refl,rfl,sp,f3,rfl⟩
end
section
set_option tactic.hygienic false
noncomputable def ns_477:List Str:=[Str.ofString "well",Str.ofString "left",Str.ofString "some",Str.ofString "turn",Str.ofString "first",Str.ofString "last",Str.ofString "missing",Str.ofString "value",Str.ofString "due",Str.ofString "told",Str.ofString "data"]
noncomputable def cn_477:List Str:=[Str.ofString "spelt",Str.ofString "is_spelt"]
noncomputable def k_477:Ss:=(.cons (.asgS [1,2] (.tup (.cons (.call (.g (.type "list")) (.cons (.g (.ref 410)) .nil)) (.cons (.lst .nil) .nil)))) (.cons (.for_ (.n 3) (.call (.g (.type "range")) (.cons (.call (.g (.ref 424)) (.cons (.v 0) (.cons (.k (.int 5)) .nil))) .nil)) (.cons (.asgT [4,5] (.meth (.v 1) (Str.ofString "pop") (.cons (.call (.g (.ref 424)) (.cons (.v 0) (.cons (.call (.g (.builtin "len")) (.cons (.v 1) .nil)) .nil))) .nil))) (.cons (.ex (.meth (.v 2) (Str.ofString "append") (.cons (.tup (.cons (.v 4) (.cons (.v 5) (.cons (.call (.g (.ref 431)) (.cons (.v 0) (.cons (.tup (.cons (.k (.str (Str.ofString "Lu"))) (.cons (.k (.str (Str.ofString "Ll"))) (.cons (.k (.str (Str.ofString "Cn"))) .nil)))) .nil))) .nil)))) .nil))) .nil))) (.cons (.asgT [6,12] (.tup (.cons (.call (.g (.ref 431)) (.cons (.v 0) (.cons (.tup (.cons (.k .none) (.cons (.k (.str (Str.ofString "Cn"))) (.cons (.k (.str (Str.ofString "Lu"))) .nil)))) .nil))) (.cons (.cmp .Eq (.call (.g (.ref 424)) (.cons (.v 0) (.cons (.k (.int 2)) .nil))) (.k (.int 1))) .nil)))) (.cons (.asg 11 (.dcomp (.v 0) (.ife (.v 1) (.sub (.call (.g (.ref 417)) .nil) (.v 0)) (.v 0)) (.call (.g (.ref 417)) .nil) [12])) (.cons (.asg 8 (.k (.bytes []))) (.cons (.ife (.cmp .IsNot (.v 6) (.k .none)) (.cons (.asg 8 (.bin .Add (.bin .Add (.k (.bytes [35,32,64,109,105,115,115,105,110,103,58,32,48,48,48,48,46,46,49,48,70,70,70,70,59,32])) (.call (.g (.type "bytes")) (.cons (.comp (.call (.g (.builtin "ord")) (.cons (.v 0) .nil)) (.sub (.v 11) (.v 6)) []) .nil))) (.k (.bytes [10])))) .nil) .nil) (.cons (.for_ (.t [4,5,7]) (.v 2) (.cons (.ife (.cmp .NotEq (.v 7) (.v 6)) (.cons (.asg 8 (.bin .Add (.v 8) (.call (.g (.ref 472)) (.cons (.v 4) (.cons (.v 5) (.cons (.sub (.v 11) (.v 7)) .nil)))))) .nil) .nil) .nil)) (.cons (.asg 9 (.ife (.v 12) (.call (.g (.ref 220)) (.cons (.v 2) (.cons (.v 6) (.cons (.v 11) .nil)))) (.call (.g (.ref 220)) (.cons (.v 2) (.cons (.v 6) .nil))))) (.cons (.ife (.cmp .NotEq (.v 9) (.v 8)) (.cons (.ret (.k (.bool false))) .nil) .nil) (.cons (.asg 10 (.call (.g (.ref 367)) .nil)) (.cons (.ex (.call (.g (.ref 205)) (.cons (.v 9) (.cons (.v 10) (.cons (.k (.str (Str.ofString "gc"))) (.cons (.dcomp (.sub (.v 1) (.v 0)) (.v 0) (.v 11) [11]) .nil)))))) (.cons (.for_ (.t [4,5,7]) (.v 2) (.cons (.ife (.bool .Or (.cons (.cmp .NotEq (.meth (.v 10) (Str.ofString "get") (.cons (.k (.str (Str.ofString "gc"))) (.cons (.v 4) .nil))) (.v 7)) (.cons (.cmp .NotEq (.meth (.v 10) (Str.ofString "get") (.cons (.k (.str (Str.ofString "gc"))) (.cons (.v 5) .nil))) (.v 7)) .nil))) (.cons (.ret (.k (.bool false))) .nil) .nil) .nil)) (.cons (.ret (.cmp .Eq (.meth (.v 10) (Str.ofString "get") (.cons (.k (.str (Str.ofString "gc"))) (.cons (.k (.int 8192)) .nil))) (.ife (.cmp .Is (.v 6) (.k .none)) (.k (.str (Str.ofString "Cn"))) (.v 6)))) .nil)))))))))))))
theorem dAt_map {f:Str→Str} {g:Str→P}:∀ {zs:List Str} {z:Str},z∈zs→(∀ x∈zs,∀ y∈zs,f x=f y→x=y)→dAt (zs.map f) (zs.map g) (f z)=some (g z)
 |y::zs,z,hz,inj=>by
  show (if f y=f z then some (g y) else dAt (zs.map f) (zs.map g) (f z))=_
  by_cases e:f y=f z
  ·rw [if_pos e,inj y (.head _) z hz e]
  ·rw [if_neg e]
   refine dAt_map ?_ fun x hx y hy=>inj x (.tail _ hx) y (.tail _ hy)
   rcases List.mem_cons.mp hz with rfl|hz
   ·exact absurd rfl e
   ·exact hz
noncomputable abbrev tellP (b:Bool):List P:=wordsS.map fun z=>P.str (tellOf b z)
theorem tell_at (b:Bool) {z:Str} (h:z∈wordsS):dAt wordsS (tellP b) z=some (.str (tellOf b z)):=by
 have:=dAt_map (f:=id) (g:=fun z=>P.str (tellOf b z)) h fun zq zq zq zq e=>e
 rwa [List.map_id] at this
theorem told_at (b:Bool) {z:Str} (h:z∈wordsS):dAt (wordsS.map (tellOf b)) (wordsS.map P.str) (tellOf b z)=some (.str z):=dAt_map h (tell_inj' b)
theorem tellP_true:tellP true=[.str wLu,.str wLl,.str wCn]:=by
 have e1:tellOf true sLu=wLu:=by decide+kernel
 have e2:tellOf true sLl=wLl:=by decide+kernel
 have e3:tellOf true sCn=wCn:=by decide+kernel
 show [P.str (tellOf true sLu),.str (tellOf true sLl),.str (tellOf true sCn)]=_
 rw [e1,e2,e3]
theorem tell_nd (b:Bool):(wordsS.map (tellOf b)).Nodup:=List.pairwise_map.mpr (words_nd.imp_of_mem fun hx hy ne e=>ne (tell_inj' b _ hx _ hy e))
set_option tactic.hygienic true
section
variable {w:World} {D:Nat} {pl:PL} {K:KP}
set_option tactic.hygienic false
noncomputable def lit417:List (Str×P):=[(sLu,.str wLu),(sLl,.str wLl),(sCn,.str wCn)]
noncomputable def k_417 (w:World):Ss:=.cons (.ret (.raw (raw1 w 417))) .nil
theorem n_spelt (w:World):PN w 417 [] 10 [] fun p pl=>∃ d o vs,p= .val (.ref d)∧pl=[(d,.raw o)]∧PairsOK w vs lit417∧strD w o (strPairs vs)∧(d==sysModules)=false:=by
 refine PN.of (D:=9) [] [] (k_417 w) [] [] [] [] ⟨by kernel_rfl,by kernel_rfl⟩ (BndR.eq (by kernel_rfl) (by kernel_rfl)) (fun zq=>.nil) rfl fun I hI=>?_
 exact PRw.dict (r:=lit417) (.str (.str (.str .nil))) (by decide+kernel) rfl rfl (List.cons_ne_nil _ _) (Nat.le_of_ble_eq_true rfl) fun d o vs ok hd lo=>⟨_,.refl,d,o,vs,rfl,rfl,ok,hd,lo⟩
theorem PairsOK.strs3 {vs:List (Value×Value)} (h:PairsOK w vs lit417):∃ us,strPairs vs=wordsS.zip us∧∀ F,RVs w F (tellP true) us:=by
 rw [tellP_true]
 rcases h with _|⟨a,_|⟨b,_|⟨c,_|_⟩⟩⟩
 exact ⟨[_,_,_],rfl,fun F=>.cons (a F) (.cons (b F) (.cons (c F) .nil))⟩
theorem PCall.spelt (hD:10≤D) (k:K (.dct wordsS (tellP true)) pl):PCall w D (.ref 417) [] pl K:=⟨fun F l us hps hl=>by
 refine ((PN.call (n_spelt w) hD (pl:=pl) (r:=pl) (.refl _) (K:=fun p pl'=>∃ d o vs,p= .val (.ref d)∧pl'=[(d,.raw o)]++pl∧PairsOK w vs lit417∧strD w o (strPairs vs)∧(d==sysModules)=false) ?_).go F l us hps hl).mono fun v l' ⟨p,pl',F1,a,b,u,h⟩=>?_
 ·rintro p pl' ⟨d,o,vs,rfl,rfl,h⟩
  exact ⟨d,o,vs,rfl,rfl,h⟩
 ·obtain ⟨d,o,vs,rfl,rfl,ok,hd,lo⟩:=h
  obtain ⟨us,e,hu⟩:=ok.strs3
  rw [e] at hd
  obtain ⟨core,q,m⟩:=b
  rw [a.valI]
  cases q with
  |raw q=>
   exact ⟨.dct wordsS (tellP true),pl,(d,o)::F1,.dct ((hu F1).up fun zq h=>.tail _ h) (.head _) hd lo,⟨_,q.up fun zq h=>.tail _ h,m.trans (List.perm_middle.symm)⟩,fun x hx=>.tail _ (u x hx),k⟩⟩
set_option tactic.hygienic true
end
set_option tactic.hygienic false
theorem por_ne {W:PL→KPB→Prop} {K:KPB} {z:Str} {pl:PL} (k:W pl K):pOr W K (z != z) pl:=by
 rw [bne_self_eq_false];exact k
theorem keep_ne {w:World} {D:Nat} {mo:Option Str} {r:Int×Int×Str} {K:KP} {pl:PL} (k:K (.bool (keepR mo r)) pl):pCmp w D .NotEq (.str r.2.2) (strO mo) pl K:=by
 cases mo with
 |none=>exact PC.neSN k
 |some m=>exact k
inductive J477 (aw ac lf ls:Addr) (ns:List Int) (i:Nat) (vs:PVs) (pl:PL):Prop
 |mk (L:List (Int×Int)) (A:List (Int×Int×Str)) (sp:Int) (o3 o4 o5:Option P) (hv:vs=[some (.val (.ref aw)),some (.val (.ref lf)),some (.val (.ref ls)),o3,o4,o5,none,none,none,none,none,none,none]) (hl:pl=[(ls,.list (A.map trioP)),(lf,.list (L.map spanP)),(aw,wellP ac sp),(ac,intsP ns)])
  (h0:0≤sp) (pm:(A.map (fun r=>(r.1,r.2.1))++L).Perm spansI) (hw:∀ r∈A,r.2.2∈wordsS) (hn:A.length=i)
noncomputable def r_477:Ss:=match k_477 with
 | .cons _ (.cons _ (.cons _ (.cons _ (.cons _ (.cons _ c)))))=>c
 |_=>.nil
noncomputable def q_477:Ss:=match k_477 with
 | .cons _ (.cons _ (.cons _ c))=>c
 |_=>.nil
noncomputable def e_477:Ss:=match r_477 with
 | .cons _ (.cons _ c)=>c
 |_=>.nil
noncomputable abbrev vs477 (aw lf s o3 o4 o5:Option P) (mo:Option Str) (o7 due told data:Option P) (b:Bool):PVs:=[aw,lf,s,o3,o4,o5,some (strO mo),o7,due,told,data,some (.dct wordsS (tellP b)),some (.bool b)]
inductive JB477 (b:Bool) (mo:Option Str) (A:List (Int×Int×Str)) (base:PL) (aw lf s o3:Option P) (i:Nat) (vs:PVs) (pl:PL):Prop
 |mk (o4 o5 o7:Option P) (hv:vs=vs477 aw lf s o3 o4 o5 mo o7 (some (.bytes (catB (propL (tellOf b) mo (A.take i))))) none none b) (hl:pl=base)
inductive JC477 (b:Bool) (mo:Option Str) (base:PL) (aw lf s o3 due told data:Option P) (vs:PVs) (pl:PL):Prop
 |mk (o4 o5 o7:Option P) (hv:vs=vs477 aw lf s o3 o4 o5 mo o7 due told data b) (hl:pl=base)
theorem eqS {w:World} {D:Nat} {z:Str} {pl:PL} {K:KP} (k:K (.bool true) pl):pCmp w D .Eq (.str z) (.str z) pl K:=by
 show K (.bool (z==z)) pl
 rw [beq_self_eq_true];exact k
theorem due_size' {b:Bool} {mo:Option Str} {A:List (Int×Int×Str)} (hm:∀ m,mo=some m→m∈wordsS) (hA:∀ r∈A,SpanOK (tellOf b) r) (hl:A.length≤5) (i:Nat):(catB (propL (tellOf b) mo (A.take i))).size≤1200:=by
 have h1:=propL_size (tell:=tellOf b) (mo:=mo) (rs:=A.take i) (fun m e=>Nat.le_trans (words_ok b (hm m e)).1 (by decide)) fun r hr=>hA r (List.mem_of_mem_take hr)
 have h2:=propL_len (tell:=tellOf b) (mo:=mo) (rs:=A.take i)
 rw [List.length_take] at h2
 exact Nat.le_trans (catB_size h1) (Nat.mul_le_mul_left 200 (m:=6) (by omega))
structure Picked (mo:Option Str) (A:List (Int×Int×Str)) (L:List (Int×Int)):Prop where
 m:mo=none∨mo=some sCn∨mo=some sLu
 pm:(A.map (fun r=>(r.1,r.2.1))++L).Perm spansI
 w:∀ r∈A,r.2.2∈wordsS
 n:A.length≤4
theorem Picked.mw {mo:Option Str} {A:List (Int×Int×Str)} {L:List (Int×Int)} (h:Picked mo A L):∀ m,mo=some m→m∈wordsS:=fun m e=>by
 rcases h.m with h|h|h
 ·rw [h] at e;cases e
 ·rw [h] at e;cases e;exact .tail _ (.tail _ (.head _))
 ·rw [h] at e;cases e;exact .head _
theorem Picked.sp {mo:Option Str} {A:List (Int×Int×Str)} {L:List (Int×Int)} (h:Picked mo A L):∀ r∈A,(r.1,r.2.1)∈spansI:=fun r hr=>h.pm.mem_iff.mp (List.mem_append_left _ (List.mem_map.mpr ⟨r,hr,rfl⟩))
theorem Picked.ok {mo:Option Str} {A:List (Int×Int×Str)} {L:List (Int×Int)} (h:Picked mo A L) (b:Bool):∀ r∈A,SpanOK (tellOf b) r:=fun r hr=>span_ok b (h.sp r hr) (h.w r hr)
theorem propr_end (w:World) {I:Fi} {K:KPF} {aw lf o3 o4 o5 o7:Option P} {b:Bool} {mo:Option Str} {A:List (Int×Int×Str)} {L:List (Int×Int)} {base:PL} {B:Array UInt8} (d100:100≤I.D) (pk:Picked mo A L) (eB:B=catB (propL (tellOf b) mo A))
  (k:∀ vs S,K (.ret (.bool true)) vs (DS.pl w S++base)):PSs w I e_477 (vs477 aw lf (some (.lst (A.map trioP))) o3 o4 o5 mo o7 (some (.bytes B)) (some (.bytes B)) none b) base K:=by
 obtain ⟨hs,hz,hl,hfu,hmg,hmk,hrg,hrk,h4,hap,ePS⟩:=read_facts (V:=fun z y=>dAt (wordsS.map (tellOf b)) (wordsS.map P.str) z=some (.str y)) b pk.m pk.pm pk.w pk.n (fun z hz=>told_at b hz) eB
 obtain ⟨vals,val0⟩:=read_vals (mo:=mo) pk.pm
 refine PC.neB (PCall.dnew (Nat.le_trans (by decide) d100) fun S Ok=>?_)
 have hn:sGc∈usedNames:=by decide+kernel
 have nr:=n_readp w (nm:=sGc) Ok (Nat.zero_le _) hn hs hz hl hfu hmg hmk hrg hrk h4 hap (by rw [ePS];exact put_ok pk.pm) (fun c=>⟨sCn,by decide+kernel⟩)
 rw [ePS] at nr
 generalize S.x=x0 at nr ⊢
 refine PDc.each (ks:=wordsS) (ks':=wordsS.map (tellOf b)) (ys:=wordsS.map P.str) rfl rfl rfl (tell_nd b) (by decide) (fun i k k' y hk hk' hy K'=>?_) (PN.call nr d100 (.refl _) ?_)
 ·rw [List.getElem?_map,hk] at hk' hy
  cases hk'
  cases hy
  exact ⟨fun kk=>PSb.dct (tell_at b (List.mem_of_getElem? hk)) kk,fun kk=>kk⟩
 rintro p pl ⟨S',rfl,rfl,hx,Ok'⟩
 subst hx
 have hl5:0+2*(mPut mo++A.filter (keepR mo)).length≤400:=by
  have h1:=Nat.le_trans (List.length_filter_le (keepR mo) A) pk.n
  have h2:(mPut mo).length≤1:=by cases mo with|none=>exact Nat.zero_le _|some m=>exact Nat.le_refl _
  rw [List.length_append]
  omega
 have d25:25≤I.D:=Nat.le_trans (by decide) d100
 refine PFr.lst (fun zq=>JC477 b mo (S'.pl w++base) aw lf (some (.lst (A.map trioP))) o3 (some (.bytes B)) (some (.bytes B)) (some (.val (.ref S'.x)))) ⟨_,_,.refl,.mk _ _ _ rfl rfl⟩ ?_ ?_
 ·rintro i p vs pl hp ⟨o4,o5,o7,rfl,rfl⟩
  obtain ⟨r,hr,rfl⟩:=map_at hp
  have mr:=List.mem_of_getElem? hr
  obtain ⟨a0,_,b0,_,ab,bm⟩:=spans_ok _ (pk.sp r mr)
  obtain ⟨v1,v2⟩:=vals r mr
  refine PMe.dget Sub.refl (PCall.dget Ok' d25 Sub.refl hl5 hn a0 (Int.le_trans ab bm) ?_)
  rw [v1]
  refine por_ne (PMe.dget Sub.refl (PCall.dget Ok' d25 Sub.refl hl5 hn b0 bm ?_))
  rw [v2]
  exact por_ne ⟨_,_,.refl,.mk _ _ _ rfl rfl⟩
 ·rintro vs pl ⟨o4,o5,o7,rfl,rfl⟩
  refine ⟨_,_,.refl,PMe.dget Sub.refl (PCall.dget Ok' d25 Sub.refl hl5 hn (by decide) (by decide) ?_)⟩
  rw [val0]
  cases mo with
  |none=>
   show pCmp w I.D .Eq (.str sCn) (.str sCn) _ (fun p l=>K (.ret p) _ l)
   exact eqS (k _ _)
  |some m=>
   show pCmp w I.D .Eq (.str m) (.str m) _ (fun p l=>K (.ret p) _ l)
   exact eqS (k _ _)
theorem propr_rest (w:World) {I:Fi} {K:KPF} {aw lf o3 o4 o5:Option P} {ls:Addr} {b:Bool} {mo:Option Str} {A:List (Int×Int×Str)} {L:List (Int×Int)} {base:PL} (d100:100≤I.D) (pk:Picked mo A L)
  (k:∀ vs S,K (.ret (.bool true)) vs (DS.pl w S++base)):PSs w I r_477 (vs477 aw lf (some (.val (.ref ls))) o3 o4 o5 mo none (some (.bytes (catB (missB (tellOf b) mo)))) none none b) ((ls,.list (A.map trioP))::base) K:=by
 have dz:=due_size' (b:=b) pk.mw (pk.ok b) (Nat.le_succ_of_le pk.n)
 have d30:30≤I.D:=Nat.le_trans (by decide) d100
 refine PFr.freezeV (pre:=[]) 2 rfl (PFr.lst (JB477 b mo A base aw lf (some (.lst (A.map trioP))) o3) ⟨_,_,.refl,.mk o4 o5 none (by rw [List.take_zero];unfold propL;rw [List.filter_nil,List.map_nil,List.append_nil];rfl) rfl⟩ ?_ ?_)
 ·rintro i p vs pl hp ⟨o4,o5,o7,rfl,rfl⟩
  obtain ⟨r,hr,rfl⟩:=map_at hp
  have mr:=List.mem_of_getElem? hr
  obtain ⟨a0,a1,b0,b1,z,asc⟩:=pk.ok b r mr
  have eS:propL (tellOf b) mo (A.take (i+1))=propL (tellOf b) mo (A.take i)++(if keepR mo r=true then [rowLB (tellOf b) r] else []):=by rw [take_snoc hr];exact propL_snoc
  refine keep_ne ?_
  cases hk:keepR mo r with
  |false=>
   rw [hk,if_neg Bool.false_ne_true,List.append_nil] at eS
   exact ⟨_,_,.refl,.mk _ _ _ (by rw [eS];rfl) rfl⟩
  |true=>
   rw [hk,if_pos rfl] at eS
   have z2:=lineS_size r.1 r.2.1 (tellOf b r.2.2)
   have z3:=encA_size (lineS r.1 r.2.1 (tellOf b r.2.2))
   have z4:=dz i
   have wz:=(words_ok b (pk.w r mr)).1
   refine PSb.dct (tell_at b (pk.w r mr)) (PCall.line (Nat.le_trans (by decide) d30) a0 a1 b0 b1 (Nat.le_trans wz (by decide)) asc (PB.bytes ?_ ⟨_,_,.refl,.mk (some (.int r.1)) (some (.int r.2.1)) (some (.str r.2.2)) ?_ rfl⟩))
   ·rw [Array.size_append];simp only [List.size_toArray,List.length_cons,List.length_nil];omega
   ·rw [eS,catB_snoc,lineB_row];rfl
 ·rintro vs pl ⟨o4,o5,o7,rfl,rfl⟩
  rw [List.length_map,List.take_length]
  have fin:=propr_end w (aw:=aw) (lf:=lf) (o3:=o3) (o4:=o4) (o5:=o5) (o7:=o7) (B:=catB (propL (tellOf b) mo A)) d100 pk rfl k
  have hmz:∀ m,mo=some m→(tellOf b m).cps.size≤100:=fun m e=>Nat.le_trans (words_ok b (pk.mw m e)).1 (by decide)
  have hma:∀ m,mo=some m→Asc (tellOf b m):=fun m e=>(words_ok b (pk.mw m e)).2
  refine ⟨_,_,.refl,?_⟩
  have l10:A.length≤10:=Nat.le_trans pk.n (by decide)
  rw [←catB_join] at fin ⊢
  cases b with
  |true=>
   refine PN.call (n_propoB w (tell:=tellOf true) (fun z hz=>tell_at true ?_) l10 (pk.ok true) hmz hma) d30 (.refl _) ?_
   ·rcases List.mem_append.mp hz with hz|hz
    ·exact pk.mw z (Option.mem_toList.mp hz)
    ·obtain ⟨r,hr,rfl⟩:=List.mem_map.mp hz
     exact pk.w r hr
   ·rintro p pl ⟨rfl,rfl⟩
    exact fin
  |false=>
   have e:tellOf false=id:=rfl
   rw [e] at fin hmz hma ⊢
   refine PN.call (n_propoA w l10 (pk.ok false) hmz hma) d30 (.refl _) ?_
   rintro p pl ⟨rfl,rfl⟩
   exact fin
theorem n_propr (w:World) {aw ac:Addr} {ns:List Int} {spot:Int} (hlen:ns.length≤63) (h0:0≤spot):
  PN w 477 [.val (.ref aw)] 130 [(aw,wellP ac spot),(ac,intsP ns)] fun p pl=>p= .bool true∧∃ sp,0≤sp∧pl=[(aw,wellP ac sp),(ac,intsP ns)]:=by
 refine PN.of (D:=129) ns_477 cn_477 k_477 [some 0,none,none,none,none,none,none,none,none,none,none,none,none] [] [] [some (.val (.ref aw)),none,none,none,none,none,none,none,none,none,none,none,none] ⟨by kernel_rfl,by kernel_rfl⟩ (fun zq=>BndR.eq (by kernel_rfl) (by kernel_rfl)) (fun zq=>.nil) rfl fun I hI=>?_
 have d100:100≤I.D:=Nat.le_trans (by decide) (Nat.le_of_eq hI.symm)
 have d30:30≤I.D:=Nat.le_trans (by decide) d100
 have d20:20≤I.D:=Nat.le_trans (by decide) d100
 have d10:10≤I.D:=Nat.le_trans (by decide) d100
 refine PCall.copyT spans_top (by decide) fun lf ls=>PCall.draw (pre:=[_,_]) d10 (.tail _ (.tail _ (.head _))) hlen h0 (by decide) (by decide) fun x x0 x5=>PCall.range ?_
 obtain ⟨rs1,rs2⟩:=fits5 x0 x5
 refine PFr.rng (J477 aw ac lf ls ns) rs1 rs2 ⟨_,_,.refl,.mk spansI [] _ _ _ _ rfl rfl (Int.le_add_one h0) (.refl _) (fun r hr=>absurd hr List.not_mem_nil) rfl⟩ ?_ ?_
 ·rintro i vs pl hi ⟨L,A,sp,o3,o4,o5,rfl,rfl,hs0,pm,hw,hn⟩
  have hL:A.length+L.length=5:=by
   have e:=pm.length_eq
   rw [List.length_append,List.length_map] at e
   exact e
  have hL5:L.length≤5:=by omega
  have hA5:A.length≤5:=by omega
  have hL0:(0:Int)<(L.length:Int):=by omega
  have up:∀ {n:Nat},n≤5→n≤16777216:=fun h=>Nat.le_trans h (by decide)
  refine PMe.pop (.tail _ (.head _)) (PCall.len (.tail _ (.head _)) (by rw [List.length_map];exact up hL5) ?_)
  rw [List.length_map]
  refine PCall.draw (pre:=[_,_]) d10 (.tail _ (.tail _ (.head _))) hlen hs0 hL0 (by omega) fun y y0 y1=>?_
  have hyl:y.toNat<L.length:=by omega
  have hy:L[y.toNat]? =some L[y.toNat]:=List.getElem?_eq_getElem hyl
  refine PCall.pop (pre:=[_]) (RL.fits y0 (by omega)) (seqIndex_of y0 (by rw [List.length_map];exact y1)) (by rw [List.getElem?_map,hy];rfl) (by rw [List.length_map];exact up hL5) ?_
  refine PMe.append (.head _) (PCall.pick (pre:=[_,_]) d20 (.tail _ (.tail _ (.head _))) hlen (Int.le_add_one hs0) (Nat.le_of_ble_eq_true rfl) (Nat.le_of_ble_eq_true rfl) fun p hp=>?_)
  obtain ⟨z,hz,rfl⟩:∃ z∈wordsS,P.str z=p:=List.mem_map.mp hp
  refine PCall.append (pre:=[]) (by rw [List.length_map];exact up hA5) ⟨_,_,.refl,.mk (L.take y.toNat++L.drop (y.toNat+1)) (A++[(L[y.toNat].1,L[y.toNat].2,z)]) _ _ _ _ rfl ?_ (Int.le_add_one (Int.le_add_one hs0)) ?_ ?_ ?_⟩
  ·rw [List.map_append,List.map_append,List.map_take,List.map_drop];rfl
  ·rw [List.map_append,List.map_cons,List.map_nil]
   exact (pop_permA hy).trans pm
  ·intro r hr
   rcases List.mem_append.mp hr with hr|hr
   ·exact hw r hr
   ·rw [List.mem_singleton.mp hr];exact hz
  ·rw [List.length_append,hn];rfl
 rintro vs pl ⟨L,A,sp,o3,o4,o5,rfl,rfl,hs0,pm,hw,hn⟩
 have hA4:A.length≤4:=by omega
 clear hn rs1 rs2 x0 x5
 refine ⟨_,_,.refl,PCall.pick (pre:=[_,_]) d20 (.tail _ (.tail _ (.head _))) hlen hs0 (Nat.le_of_ble_eq_true rfl) (Nat.le_of_ble_eq_true rfl) fun p hp=>?_⟩
 obtain ⟨mo,hmo,rfl⟩:∃ mo∈[none,some sCn,some sLu],strO mo=p:=List.mem_map.mp hp
 refine PCall.draw (pre:=[_,_]) d10 (.tail _ (.tail _ (.head _))) hlen (Int.le_add_one hs0) (by decide) (by decide) fun y y0 y1=>?_
 have hmo':mo=none∨mo=some sCn∨mo=some sLu:=by
  rcases List.mem_cons.mp hmo with h|hmo
  ·exact .inl h
  rcases List.mem_cons.mp hmo with h|hmo
  ·exact .inr (.inl h)
  ·exact .inr (.inr (List.mem_singleton.mp hmo))
 have pk:Picked mo A L:=⟨hmo',pm,hw,hA4⟩
 have hz:0≤sp+1+1:=Int.le_add_one (Int.le_add_one hs0)
 generalize sp+1+1=sp at hz ⊢
 show PSs w I q_477 [some (.val (.ref aw)),some (.val (.ref lf)),some (.val (.ref ls)),o3,o4,o5,some (strO mo),none,none,none,none,none,some (.bool (decide (y=1)))] _ (pRet _)
 generalize decide (y=1)=b
 clear y0 y1 hmo hs0
 refine PCall.spelt d10 (PDc.each (ks:=wordsS) (ks':=wordsS) (ys:=tellP b) rfl rfl rfl words_nd (by decide) (fun i k k' y hk hk' hy K'=>?_) ?_)
 ·rw [hk] at hk'
  cases hk'
  have hy':y= .str (tellOf b k):=by
   rw [List.getElem?_map,hk] at hy
   exact (Option.some.inj hy).symm
  subst hy'
  refine ⟨fun k=>k,fun kk=>?_⟩
  cases b with
  |false=>exact kk
  |true=>exact PCall.spelt d10 (PSb.dct (tell_at true (List.mem_of_getElem? hk)) kk)
 have fin:∀ {vs:PVs} (S:DS),pRet (fun p pl=>p= .bool true∧∃ sp,0≤sp∧pl=[(aw,wellP ac sp),(ac,intsP ns)]) (.ret (.bool true)) vs (DS.pl w S++[(lf,.list (L.map spanP)),(aw,wellP ac sp),(ac,intsP ns)]):=fun S=>⟨_,⟨S.pl w++[(lf,.list (L.map spanP))],by
  refine List.perm_append_comm.trans ?_
  rw [List.append_assoc]
  exact .refl _⟩,rfl,sp,hz,rfl⟩
 cases mo with
 |none=>exact propr_rest w d100 pk fun zq=>fin
 |some m=>
  obtain ⟨zs,za⟩:=words_ok b (pk.mw m rfl)
  have z3:=encA_size (tellOf b m)
  refine PSb.dct (tell_at b (pk.mw m rfl)) (pEnc za (Nat.le_trans zs (by decide)) (PB.bytes ?_ (PB.bytes ?_ ?_)))
  ·simp only [List.size_toArray,List.length_cons,List.length_nil];omega
  ·simp only [Array.size_append,List.size_toArray,List.length_cons,List.length_nil];omega
  ·have:=propr_rest w d100 pk (K:=pRet _) (b:=b) (aw:=some (.val (.ref aw))) (lf:=some (.val (.ref lf))) (o3:=o3) (o4:=o4) (o5:=o5) (ls:=ls) fun zq=>fin
   rw [show catB (missB (tellOf b) (some m))=missPre++encA (tellOf b m)++#[10] from catB_one _] at this
   exact this
end
section
set_option tactic.hygienic false
noncomputable def ns_489:List Str:=[Str.ofString "script",Str.ofString "well"]
noncomputable def x_489:X:=(.bool .And (.cons (.call (.g (.ref 467)) (.cons (.v 1) .nil)) (.cons (.call (.g (.ref 477)) (.cons (.v 1) .nil)) (.cons (.call (.g (.ref 484)) (.cons (.v 1) .nil)) .nil))))
theorem law_x {w:World} {D:Nat} (hD:130≤D) {aw ac:Addr} {ms:List Int} (h63:ms.length≤63) {sv:Value} {K:KP} (k:∀ pl,K (.bool true) pl):PX w D x_489 [some (.val sv),some (.val (.ref aw))] [(aw,wellP ac 0),(ac,intsP ms)] K:=by
 refine PN.call (r:=[]) (n_rowsr w h63 (Int.le_refl 0)) (Nat.le_trans (by decide) hD) (.refl _) ?_
 rintro p pl ⟨sp,rfl,rfl,h1⟩
 refine PN.call (r:=[]) (n_propr w h63 h1) hD (.refl _) ?_
 rintro p pl ⟨rfl,sp,h2,rfl⟩
 refine PN.call (r:=[]) (n_truths w h63 h2) (Nat.le_trans (by decide) hD) (.refl _) ?_
 rintro p pl ⟨rfl,sp,h3,rfl⟩
 exact k _
theorem law_tail {w:World} {mean:ExcName→Option Value} {mg mb:Str→Option Value} {dp un:Nat} {gd:Option (List Code)} {cn:Str} {cs:Scope} {a:Addr} {ccd:Value} {outer:List Env} {A₀:Around} {base h₀:Heap} {L:Addr} {m:Str→Option Value} {s:Shared} {Q:Flow→Shared→Prop} {E:Value→Shared→Prop} {e:Expr} {pos:Pos} {aw ac:Addr} {ta:Tok} {ys:List Value} {n:Nat} {ms:List Int} {sv:Value}
  (B:Below A₀ base outer h₀) (F:Fr h₀ L s.heap m) (X:(hd.heap_39 w.params).In h₀) (N:News h₀ L s.heap [(aw,wellO ac 0 ta 0),(ac,listOf ys.toArray n)]) (T:Top VW LO mean mg mb h₀) (hk:cs.kind= .function) (hd:dp+130<recursionLimit) (hu:un+10*130<cLine)
  (he:trS cs ns_489 [] 40 (.Return (some e) pos)= .ret x_489) (hm:m=mOf ns_489 [some sv,some (.ref aw)]) (hne:@Ne Nat aw ac) (hv:IntsAre ys ms) (h63:ms.length≤63)
  (ret:∀ h' tk' m',Fr h₀ L h' m'→Q (.ret (.bool true)) { s with heap:=h',toks:=tk' }):wpAny (model PG w) (ktrTop dp un gd cn cs L a ccd [] outer) (exec (.Return (some e) pos) (envX cn cs L a ccd [])) Q E s:=by
 subst hm
 refine wpAny_mono ((ss_ok (I:=⟨cs,ns_489,[],130⟩) 40 (C:=⟨mean,mg,mb,dp,un,gd,cn,cs,a,ccd,[],outer,A₀,base,h₀,L,B,X,T,hk,130,hd,hu,[]⟩) ⟨rfl,Nat.le_refl _,rfl⟩).1 (.Return (some e) pos) [some sv,some (.ref aw)] [(aw,wellO ac 0 ta 0),(ac,listOf ys.toArray n)] (fun f zq zq=>f= .ret (.bool true)) ?_ s Q ⟨[],?_,F,N,List.pairwise_pair.mpr hne⟩ fun v vs' l' h' tk' k S=>?_) (fun zq zq x=>x) fun zq zq x=>x.elim
 ·rw [he]
  have k:PS w ⟨cs,ns_489,[],130⟩ (.ret x_489) [some (.val sv),some (.val (.ref aw))] [(aw,wellP ac 0),(ac,intsP ms)] fun f zq zq=>f= .ret (.bool true):=law_x (D:=130) (Nat.le_refl 130) h63 fun zq=>rfl
  refine WS.mono (.ret x_489) (ps_ok (.ret x_489) k (F:=[]) (.full .val (.full .val .nil)) ⟨_,.list (.cons .val (.cons .int .nil)) (.list (ints_in hv) .nil),by rw [List.append_nil]⟩) ?_
  rintro f rvs l ⟨pf,vs,pl,F1,rf,rv,s1,u1,rfl⟩
  cases rf with
  |ret r=>rw [r.boolI]
 ·trivial
 ·subst k
  obtain ⟨ps,_,S⟩:=S
  exact ret h' tk' _ S.F
end
section
local macro_rules | `(tactic| walk_at $s:str) => `(tactic| k_extra $s)
set_option tactic.hygienic false
theorem law_frame (v u:Value):(fun y=>if y=Str.ofString "well" then some u else List.lookup y [(Str.ofString "script",v)])=mOf ns_489 [some v,some u]:=by
 funext y
 by_cases h:y=Str.ofString "well"
 ·subst h
  rw [if_pos rfl];rfl
 ·rw [if_neg h]
  show _=(match y==Str.ofString "script" with|true=>_|false=>(match y==Str.ofString "well" with|true=>_|false=>_))
  rw [beq_eq_false_iff_ne.mpr h,List.lookup_cons]
  cases y==Str.ofString "script"<;>rfl
set_option tactic.hygienic true
theorem law_body {d:DefRec} {kw:List (Str×Expr)} (e:defOf VW (Str.ofString "law")=some (d,kw)) {w:World} {mean:ExcName→Option Value} {mg mb:Str→Option Value} {dp un:Nat} {gd:Option (List Code)} {cn:Str} {a:Addr} {ccd:Value} {outer:List Env} {A₀:Around} {base h₀:Heap} {L:Addr} {s:Shared} {Q:Flow→Shared→Prop} {E:Value→Shared→Prop} {la:Addr} {vs:List Value} {ns:List Int}
  (B:Below A₀ base outer h₀) (F:Fr h₀ L s.heap fun y=>List.lookup y [(Str.ofString "script",Value.ref la)]) (X:(hd.heap_39 w.params).In h₀) (N:News h₀ L s.heap []) (T:Top VW LO mean mg mb h₀) (hd9:dp+200<recursionLimit) (hu9:un+2000<cLine) (hL:h₀.IsList la vs.toArray) (hI:IntsAre vs ns) (hl9:ns.length≤63)
  (ret:∀ h' tk' m',Fr h₀ L h' m'→Q (.ret (.bool true)) { s with heap:=h',toks:=tk' }):wpAny (model PG w) (ktrTop dp un gd cn d.scope L a ccd [] outer) (execs d.body (envX cn d.scope L a ccd [])) Q E s:=by
 k_with "eval ListComp"=>(k_here;refine Halt.mk ?_)
 k_with "SrcG"=>(k_here;refine Halt.mk ?_)
 k_with "CompEnd"=>(k_here;refine Halt.mk ?_)
 k_with "exec Return some"=>(k_here;refine Halt.mk ?_)
 have e0:defOf VW (Str.ofString "law")=some (_,_):=rfl
 rw [e0] at e
 cases e
 dsimp only
 k_steps
 unfold Halt
 rename Fr _ _ _ _=>F1
 refine LG.ListComp_G F1 (by with_unfolding_all rfl) (by decide) (by rfl) (by decide) (by rfl) ?_
 k_steps
 unfold Halt
 rename Fr _ _ _ _=>F2
 rename News _ _ _ _=>N2
 rename IntsAre _ (List.take 63 _)=>iv
 obtain ⟨ns,hns,_⟩:∃ ns:List Int,ns=List.take 63 _∧IntsAre _ ns:=⟨_,rfl,iv⟩
 have hl63:ns.length≤63:=by rw [hns,List.length_take];omega
 rw [←hns] at iv
 obtain ⟨wv,hwv,_⟩:∃ wv:List Value,wv=_∧IntsAre wv ns:=⟨_,rfl,iv⟩
 subst hwv
 have hwl:wv.length=ns.length:=iv.length
 obtain ⟨LX,eLX,N3⟩:∃ LX,LX=_∧News _ _ _ LX:=⟨_,rfl,N2⟩
 refine LG.src_list (its:=wv.toArray) (fun i ys nx=>nx=LX∧∃ ms,IntsAre ys ms∧ms.length=i) rfl F2 N3 (.inr ⟨_,by rw [eLX];exact .head _,rfl,_,rfl⟩) (by rw [sizeLine_eq,List.size_toArray];omega) ⟨rfl,[],.nil,rfl⟩ ?turn ?done
 case turn=>
  rintro i v ys nx I oI C oC D' m₂ h tk E' hi2 ⟨enx,ms,hv,hm⟩ hC hx F N off ne
  obtain ⟨n,t,rfl,hn⟩:=IntsAre.at iv i v (by simpa using hi2)
  rw [enx,eLX] at N
  k_steps
  unfold Halt
  rename Fr _ _ _ _=>F9
  rename News _ _ _ _=>N9
  refine LCg.CompEnd.intro F9 N9 nx (by rw [enx,eLX];exact fun zq h=>h) off (.inr ⟨_,by rw [enx,eLX];exact .head _,rfl,_,rfl⟩) ⟨enx,ms++[_],hv.append (.cons _ _ .nil),by simp [hm]⟩
 case done=>
  rintro g ys nx ⟨enx,ms,hv,hm⟩
  have hm63:ms.length≤63:=by rw [hm,List.size_toArray];omega
  subst enx
  subst eLX
  k_steps
  unfold Halt
  rename Fr _ _ _ _=>F4
  rename News _ _ _ _=>N4
  rename (@LT.lt Nat _ _ _∧@LT.lt Nat _ _ _)=>lw
  obtain ⟨aw,haw,ltw⟩:∃ x:Addr,x=_∧@LT.lt Nat _ _ x:=⟨_,rfl,lw.1⟩
  subst haw
  obtain ⟨ac,hac,ltc⟩:∃ x:Addr,x=_∧@LT.lt Nat _ x aw:=⟨_,rfl,ltw⟩
  subst hac
  clear lw ltw
  obtain ⟨ta,YY,N5⟩:∃ ta YY,News _ _ _ ((aw,wellO ac 0 ta 0)::(ac,listOf ys.toArray ys.length)::YY):=⟨_,_,N4⟩
  have N6:News _ _ _ ((aw,wellO ac 0 ta 0)::(ac,listOf ys.toArray ys.length)::[]):=news_sub N5 (fun p hp=>by
   simp only [List.mem_cons,List.not_mem_nil,or_false] at hp ⊢
   rcases hp with h|h<;>simp only [h,true_or,or_true])
  clear N5 N4
  have hne:@Ne Nat aw ac:=Nat.ne_of_gt ltc
  refine' law_tail ?k1 ?k2 ?k3 N6 ?k5 ?kK ?kd ?ku ?he ?hm hne hv hm63 ?_
  case k1=>k_asm
  case k2=>k_asm
  case k3=>k_asm
  case k5=>k_asm
  case kK=>first|exact rfl|assumption
  case kd=>ktr_room
  case ku=>ktr_units
  case he=>kernel_rfl
  case hm=>exact law_frame _ _
  intro h9 tk9 m9 F9
  exact ret _ _ _ F9
theorem last_law:PySem.Challenge.rw_pq1306_01.Holds:=Mine.Internal.hd (by rfl) (by rfl) (by rfl) (by
 k_fill
 intro w s₀ s₁ mg mb G Y fa o pm cd doc dV kV ho hd hcd hD hmg hg args vals as hpre hlay hrd hwl hlo
 have KX:=kIn_of Y
 have X:=(Ground.X G).1
 have V:=(Ground.X G).2
 refine Ground.open G ?_
 intro T B D TE TW
 try (refine guard_noD D (by decide+kernel) ?_;clear D)
 obtain ⟨_,_,M⟩:=bmod_of_top T
 have TA:=at_of_top T
 try (obtain ⟨_,_,he,B0⟩:=based_of_top T rfl hmg ho hd;have he':cd=_:=he;subst he';clear he)
 clear hmg
 wrow_args hpre hlay hrd hwl hlo
 first|refine callC_kw (enter_call ?_)|refine enter_call ?_|refine callC_kw (enter_callW ?_)|refine enter_callW ?_|w_how
 w_top on
 try refine codeAny_mono ?_ (fun zq zq g=>GoodW.toG g)
 have K0:=below_caller (Top.heap T)
 w_call any ho hd hcd hD T F
 clear hd TA
 k_drop
 (all_goals try k_fold)
 rename IntsAre _ _=>hI9
 rename Heap.IsList _ _ _=>hL9
 rename Fr _ _ _ _=>F9
 rename News _ _ _ _=>N9
 rename Below _ _ _ _=>B9
 rename Top _ _ _ _ _ _=>T9
 rename (¬_<(_:Int))=>c9
 have e9:defOf VW (Str.ofString "law")=some (_,_):=rfl
 refine law_body e9 B9 F9 (by assumption) N9 T9 (by ktr_room) (by ktr_units) hL9 hI9 (by omega) fun h9 tk9 m9 G9=>?_
 k_steps)
end
end Mine.Internal
theorem PySem.Challenge.cw_pq1306_01_holds : PySem.Challenge.rw_pq1306_01.Holds := by
 exact Mine.Internal.last_law

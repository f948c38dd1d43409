import PyProof.Rows.All
import Wide.All
import OpenK.AllK
import Wide.FinOn
import Lean
import PySem.Challenge.RW_sj0126_01
open PySem PySem.W PyProof.Rows PySem.Calls
set_option Elab.async false
set_option maxRecDepth 100000
set_option maxHeartbeats 8000000
set_option linter.all false
set_option pp.deepTerms false
set_option pp.maxSteps 3000
set_option compiler.extract_closed false
namespace Mine
/-- the objects behind the top; the defs' texts are taken out of the program by place -/
noncomputable def fSt (i j : Nat) : Stmt := match (PySem.Challenge.pw_sj0126_01.main.body[i]?).getD (.Pass ⟨0, 0, 0, 0⟩), j with
  | .ClassDef _ _ _ b .., j + 1 => (b[j]?).getD (.Pass ⟨0, 0, 0, 0⟩)
  | s, _ => s
noncomputable def fB (i j : Nat) : List Stmt := match fSt i j with | .FunctionDef _ _ b .. => b | _ => []
noncomputable def fP (i j : Nat) : Arguments := match fSt i j with | .FunctionDef _ a .. => a | _ => ⟨[], [], none, [], [], none, []⟩
noncomputable def fS (i j : Nat) : Scope := match fSt i j with | .FunctionDef _ _ _ _ _ _ s .. => s | _ => { kind := .function, names := [], isGenerator := false, isCoroutine := false }
noncomputable abbrev o_2 (P : Params) : Obj := ⟨.none, none, (.dict #[⟨(PyData.keyHash P (Str.ofString "type.__subclasses__.Exception.0")), (.str (Str.ofString "type.__subclasses__.Exception.0") 232), (.int 39 0)⟩, ⟨(PyData.keyHash P (Str.ofString "type.__subclasses__.Exception.n")), (.str (Str.ofString "type.__subclasses__.Exception.n") 233), (.int 1 0)⟩] 2), #[]⟩
noncomputable abbrev o_3 (P : Params) : Obj := ⟨(.type "dict"), none, (.dict #[⟨(PyData.keyHash P (Str.ofString "__name__")), (.str (Str.ofString "__name__") 165), (.str (Str.ofString "law_sj0126_01") 575)⟩, ⟨(PyData.keyHash P (Str.ofString "__doc__")), (.str (Str.ofString "__doc__") 166), .none⟩, ⟨(PyData.keyHash P (Str.ofString "__package__")), (.str (Str.ofString "__package__") 167), .none⟩, ⟨(PyData.keyHash P (Str.ofString "__loader__")), (.str (Str.ofString "__loader__") 168), (.builtin "__main__.__loader__#opaque")⟩, ⟨(PyData.keyHash P (Str.ofString "__spec__")), (.str (Str.ofString "__spec__") 169), .none⟩, ⟨(PyData.keyHash P (Str.ofString "__annotations__")), (.str (Str.ofString "__annotations__") 170), (.ref 6)⟩, ⟨(PyData.keyHash P (Str.ofString "__builtins__")), (.str (Str.ofString "__builtins__") 171), (.ref 4)⟩, ⟨(PyData.keyHash P (Str.ofString "__file__")), (.str (Str.ofString "__file__") 173), (.str (Str.ofString "/claim/cut.py") 172)⟩, ⟨(PyData.keyHash P (Str.ofString "__cached__")), (.str (Str.ofString "__cached__") 174), .none⟩, ⟨(PyData.keyHash P (Str.ofString "_wall")), (.str (Str.ofString "_wall") 193), (.ref 21)⟩, ⟨(PyData.keyHash P (Str.ofString "MAX_RUNE")), (.str (Str.ofString "MAX_RUNE") 197), (.int 1114111 196)⟩, ⟨(PyData.keyHash P (Str.ofString "RUNE_ERROR")), (.str (Str.ofString "RUNE_ERROR") 199), (.int 65533 198)⟩, ⟨(PyData.keyHash P (Str.ofString "BAD_ESCAPE")), (.str (Str.ofString "BAD_ESCAPE") 201), (.str (Str.ofString "bad escape") 200)⟩, ⟨(PyData.keyHash P (Str.ofString "TRAILING_BACKSLASH")), (.str (Str.ofString "TRAILING_BACKSLASH") 203), (.str (Str.ofString "trailing backslash") 202)⟩, ⟨(PyData.keyHash P (Str.ofString "BAD_UTF8")), (.str (Str.ofString "BAD_UTF8") 205), (.str (Str.ofString "bad utf-8") 204)⟩, ⟨(PyData.keyHash P (Str.ofString "RecoreError")), (.str (Str.ofString "RecoreError") 235), (.ref 39)⟩, ⟨(PyData.keyHash P (Str.ofString "BadPattern")), (.str (Str.ofString "BadPattern") 266), (.ref 60)⟩, ⟨(PyData.keyHash P (Str.ofString "BadRewrite")), (.str (Str.ofString "BadRewrite") 282), (.ref 72)⟩, ⟨(PyData.keyHash P (Str.ofString "BadCall")), (.str (Str.ofString "BadCall") 298), (.ref 84)⟩, ⟨(PyData.keyHash P (Str.ofString "BACKSLASH")), (.str (Str.ofString "BACKSLASH") 302), (.int 92 301)⟩, ⟨(PyData.keyHash P (Str.ofString "rewrite_is_figure")), (.str (Str.ofString "rewrite_is_figure") 309), (.ref 93)⟩, ⟨(PyData.keyHash P (Str.ofString "rewrite_pieces")), (.str (Str.ofString "rewrite_pieces") 320), (.ref 100)⟩, ⟨(PyData.keyHash P (Str.ofString "rewrite_most")), (.str (Str.ofString "rewrite_most") 329), (.ref 107)⟩, ⟨(PyData.keyHash P (Str.ofString "rewritten")), (.str (Str.ofString "rewritten") 340), (.ref 114)⟩, ⟨(PyData.keyHash P (Str.ofString "quote_meta")), (.str (Str.ofString "quote_meta") 349), (.ref 121)⟩, ⟨(PyData.keyHash P (Str.ofString "rune_length")), (.str (Str.ofString "rune_length") 358), (.ref 128)⟩, ⟨(PyData.keyHash P (Str.ofString "rune_lead")), (.str (Str.ofString "rune_lead") 365), (.ref 135)⟩, ⟨(PyData.keyHash P (Str.ofString "rune_octets")), (.str (Str.ofString "rune_octets") 376), (.ref 142)⟩, ⟨(PyData.keyHash P (Str.ofString "rune_form_length")), (.str (Str.ofString "rune_form_length") 383), (.ref 149)⟩, ⟨(PyData.keyHash P (Str.ofString "rune_at")), (.str (Str.ofString "rune_at") 395), (.ref 156)⟩, ⟨(PyData.keyHash P (Str.ofString "octets_of_runes")), (.str (Str.ofString "octets_of_runes") 401), (.ref 161)⟩, ⟨(PyData.keyHash P (Str.ofString "ESCAPE_LETTERS")), (.str (Str.ofString "ESCAPE_LETTERS") 416), (.ref 168)⟩, ⟨(PyData.keyHash P (Str.ofString "reader_sign")), (.str (Str.ofString "reader_sign") 427), (.ref 175)⟩, ⟨(PyData.keyHash P (Str.ofString "PatternReader")), (.str (Str.ofString "PatternReader") 505), (.ref 235)⟩, ⟨(PyData.keyHash P (Str.ofString "reader_hex")), (.str (Str.ofString "reader_hex") 512), (.ref 246)⟩, ⟨(PyData.keyHash P (Str.ofString "read_escape")), (.str (Str.ofString "read_escape") 525), (.ref 253)⟩, ⟨(PyData.keyHash P (Str.ofString "escape_top")), (.str (Str.ofString "escape_top") 532), (.ref 260)⟩, ⟨(PyData.keyHash P (Str.ofString "escape_sign")), (.str (Str.ofString "escape_sign") 541), (.ref 267)⟩, ⟨(PyData.keyHash P (Str.ofString "escape_octal")), (.str (Str.ofString "escape_octal") 552), (.ref 274)⟩, ⟨(PyData.keyHash P (Str.ofString "escape_hex")), (.str (Str.ofString "escape_hex") 563), (.ref 281)⟩, ⟨(PyData.keyHash P (Str.ofString "escape_braced")), (.str (Str.ofString "escape_braced") 574), (.ref 288)⟩, ⟨(PyData.keyHash P (Str.ofString "_law_forms")), (.str (Str.ofString "_law_forms") 582), (.ref 295)⟩, ⟨(PyData.keyHash P (Str.ofString "_law_rest")), (.str (Str.ofString "_law_rest") 588), (.ref 302)⟩, ⟨(PyData.keyHash P (Str.ofString "_law_digits")), (.str (Str.ofString "_law_digits") 598), (.ref 309)⟩, ⟨(PyData.keyHash P (Str.ofString "_law_read")), (.str (Str.ofString "_law_read") 609), (.ref 316)⟩, ⟨(PyData.keyHash P (Str.ofString "_law_form")), (.str (Str.ofString "_law_form") 615), (.ref 321)⟩, ⟨(PyData.keyHash P (Str.ofString "_law_runes")), (.str (Str.ofString "_law_runes") 628), (.ref 328)⟩, ⟨(PyData.keyHash P (Str.ofString "_law_is_word")), (.str (Str.ofString "_law_is_word") 635), (.ref 335)⟩, ⟨(PyData.keyHash P (Str.ofString "_law_quoted")), (.str (Str.ofString "_law_quoted") 646), (.ref 342)⟩, ⟨(PyData.keyHash P (Str.ofString "_law_rewritten")), (.str (Str.ofString "_law_rewritten") 655), (.ref 349)⟩, ⟨(PyData.keyHash P (Str.ofString "law")), (.str (Str.ofString "law") 661), (.ref 354)⟩] 51), #[]⟩
noncomputable abbrev o_11 (P : Params) : Obj := ⟨(.type "tuple"), none, (.seq #[] 0), #[]⟩
noncomputable abbrev o_12 (P : Params) : Obj := ⟨.none, none, (.fields #[(.int 1 0), (.int 0 0), (.ref 20), (.int 10 0), (.int 0 0), (.ref 27), (.int 14 0), (.int 0 0), (.ref 48), (.int 20 0), (.int 0 0), (.ref 68), (.int 22 0), (.int 0 0), (.ref 80), (.int 26 0), (.int 0 0), (.ref 92), (.int 28 0), (.int 0 0), (.ref 99), (.int 44 0), (.int 0 0), (.ref 106), (.int 51 0), (.int 0 0), (.ref 113), (.int 61 0), (.int 0 0), (.ref 120), (.int 72 0), (.int 0 0), (.ref 127), (.int 78 0), (.int 0 0), (.ref 134), (.int 80 0), (.int 0 0), (.ref 141), (.int 90 0), (.int 0 0), (.ref 148), (.int 98 0), (.int 0 0), (.ref 155), (.int 113 0), (.int 0 0), (.ref 160), (.int 119 0), (.int 0 0), (.ref 174), (.int 126 0), (.int 0 0), (.ref 181), (.int 156 0), (.int 0 0), (.ref 245), (.int 164 0), (.int 0 0), (.ref 252), (.int 180 0), (.int 0 0), (.ref 259), (.int 182 0), (.int 0 0), (.ref 266), (.int 189 0), (.int 0 0), (.ref 273), (.int 199 0), (.int 0 0), (.ref 280), (.int 208 0), (.int 0 0), (.ref 287), (.int 217 0), (.int 0 0), (.ref 294), (.int 219 0), (.int 0 0), (.ref 301), (.int 221 0), (.int 0 0), (.ref 308), (.int 227 0), (.int 0 0), (.ref 315), (.int 238 0), (.int 0 0), (.ref 320), (.int 245 0), (.int 0 0), (.ref 327), (.int 257 0), (.int 0 0), (.ref 334), (.int 259 0), (.int 0 0), (.ref 341), (.int 272 0), (.int 0 0), (.ref 348), (.int 277 0), (.int 0 0), (.ref 353)]), #[]⟩
noncomputable abbrev o_13 (P : Params) : Obj := ⟨(.type "code"), none, (.fields #[(.str (Str.ofString "<module>") 182), (.str (Str.ofString "<module>") 183), (.str (Str.ofString "/claim/cut.py") 184), (.int 1 0), (.int 0 0), (.int 0 0), (.int 0 0), (.int 0 0), (.ref 11), (.bool false), (.int 181 0), (.ref 12), .none, .none, .none, .none, (.int 185 0), (.int 1 0), (.str (Str.ofString "/claim/cut.py") 186)]), #[]⟩
noncomputable abbrev o_14 (P : Params) : Obj := ⟨(.type "frame"), none, .plain, #[(some (.ref 13)), (some (.ref 3)), (some (.ref 3)), none, (some (.str (Str.ofString "__main__") 164)), none, (some (.ref 0))]⟩
noncomputable abbrev o_15 (P : Params) : Obj := ⟨(.type "tuple"), none, (.seq #[] 0), #[]⟩
noncomputable abbrev o_16 (P : Params) : Obj := ⟨.none, none, (.fields #[]), #[]⟩
noncomputable abbrev o_17 (P : Params) : Obj := ⟨(.type "tuple"), none, (.seq #[(.str (Str.ofString "k") 190)] 0), #[]⟩
noncomputable abbrev o_18 (P : Params) : Obj := ⟨(.type "tuple"), none, (.seq #[] 0), #[]⟩
noncomputable abbrev o_19 (P : Params) : Obj := ⟨.none, none, .func (FuncData.mk (Str.ofString "_wall") (Str.ofString "_wall") (fP 0 0) (.stmts (fB 0 0)) (fS 0 0) 0 [] .none .none .none .none none .none .none 0), #[]⟩
noncomputable abbrev o_20 (P : Params) : Obj := ⟨(.type "code"), none, (.fields #[(.str (Str.ofString "_wall") 187), (.str (Str.ofString "_wall") 188), (.str (Str.ofString "/claim/cut.py") 189), (.int 1 0), (.int 1 0), (.int 0 0), (.int 0 0), (.int 3 0), (.ref 15), (.bool true), (.int 181 0), (.ref 16), .none, (.ref 17), (.ref 18), (.ref 19), (.int 191 0), (.int 1 0), (.str (Str.ofString "/claim/cut.py") 192)]), #[]⟩
noncomputable abbrev o_21 (P : Params) : Obj := ⟨(.type "function"), none, .func (FuncData.mk (Str.ofString "_wall") (Str.ofString "_wall") (fP 0 0) (.stmts (fB 0 0)) (fS 0 0) 3 [] .none .none .none (.str (Str.ofString "__main__") 164) none (.ref 20) .none 0), #[]⟩
noncomputable abbrev o_22 (P : Params) : Obj := ⟨(.type "tuple"), none, (.seq #[(.type "Exception")] 0), #[]⟩
noncomputable abbrev o_23 (P : Params) : Obj := ⟨(.type "builtin_function_or_method"), none, (.fields #[(.builtin "type.__prepare__"), (.type "type")]), #[]⟩
noncomputable abbrev o_24 (P : Params) : Obj := ⟨(.type "dict"), none, (.dict #[⟨(PyData.keyHash P (Str.ofString "__module__")), (.str (Str.ofString "__module__") 213), (.str (Str.ofString "recore.base") 194)⟩, ⟨(PyData.keyHash P (Str.ofString "__qualname__")), (.str (Str.ofString "__qualname__") 215), (.str (Str.ofString "RecoreError") 214)⟩, ⟨(PyData.keyHash P (Str.ofString "__firstlineno__")), (.str (Str.ofString "__firstlineno__") 217), (.int 10 216)⟩, ⟨(PyData.keyHash P (Str.ofString "__init__")), (.str (Str.ofString "__init__") 226), (.ref 36)⟩, ⟨(PyData.keyHash P (Str.ofString "__static_attributes__")), (.str (Str.ofString "__static_attributes__") 228), (.ref 37)⟩] 5), #[]⟩
noncomputable abbrev o_25 (P : Params) : Obj := ⟨(.type "tuple"), none, (.seq #[] 0), #[]⟩
noncomputable abbrev o_26 (P : Params) : Obj := ⟨.none, none, (.fields #[(.int 12 0), (.int 4 0), (.ref 35)]), #[]⟩
noncomputable abbrev o_27 (P : Params) : Obj := ⟨(.type "code"), none, (.fields #[(.str (Str.ofString "RecoreError") 208), (.str (Str.ofString "RecoreError") 209), (.str (Str.ofString "/claim/cut.py") 210), (.int 10 0), (.int 0 0), (.int 0 0), (.int 0 0), (.int 0 0), (.ref 25), (.bool false), (.int 181 0), (.ref 26), .none, .none, .none, .none, (.int 211 0), (.int 10 0), (.str (Str.ofString "/claim/cut.py") 212)]), #[]⟩
noncomputable abbrev o_28 (P : Params) : Obj := ⟨(.type "frame"), none, .plain, #[(some (.ref 27)), (some (.ref 3)), (some (.ref 24)), none, (some (.str (Str.ofString "recore.base") 194)), none, (some (.ref 0))]⟩
noncomputable abbrev o_29 (P : Params) : Obj := ⟨(.type "tuple"), none, (.seq #[(.str (Str.ofString "") 218)] 0), #[]⟩
noncomputable abbrev o_30 (P : Params) : Obj := ⟨(.type "tuple"), none, (.seq #[] 0), #[]⟩
noncomputable abbrev o_31 (P : Params) : Obj := ⟨.none, none, (.fields #[]), #[]⟩
noncomputable abbrev o_32 (P : Params) : Obj := ⟨(.type "tuple"), none, (.seq #[(.str (Str.ofString "self") 222), (.str (Str.ofString "told") 223)] 0), #[]⟩
noncomputable abbrev o_33 (P : Params) : Obj := ⟨(.type "tuple"), none, (.seq #[] 0), #[]⟩
noncomputable abbrev o_34 (P : Params) : Obj := ⟨.none, none, .func (FuncData.mk (Str.ofString "__init__") (Str.ofString "RecoreError.__init__") (fP 7 1) (.stmts (fB 7 1)) (fS 7 1) 0 [] .none .none .none .none none .none .none 0), #[]⟩
noncomputable abbrev o_35 (P : Params) : Obj := ⟨(.type "code"), none, (.fields #[(.str (Str.ofString "__init__") 219), (.str (Str.ofString "RecoreError.__init__") 220), (.str (Str.ofString "/claim/cut.py") 221), (.int 12 0), (.int 2 0), (.int 0 0), (.int 0 0), (.int 3 0), (.ref 30), (.bool true), (.int 181 0), (.ref 31), .none, (.ref 32), (.ref 33), (.ref 34), (.int 224 0), (.int 12 0), (.str (Str.ofString "/claim/cut.py") 225)]), #[]⟩
noncomputable abbrev o_36 (P : Params) : Obj := ⟨(.type "function"), none, .func (FuncData.mk (Str.ofString "__init__") (Str.ofString "RecoreError.__init__") (fP 7 1) (.stmts (fB 7 1)) (fS 7 1) 3 [] (.ref 29) .none .none (.str (Str.ofString "recore.base") 194) none (.ref 35) .none 0), #[]⟩
noncomputable abbrev o_37 (P : Params) : Obj := ⟨(.type "tuple"), none, (.seq #[(.str (Str.ofString "told") 227)] 0), #[]⟩
noncomputable abbrev o_38 (P : Params) : Obj := ⟨(.type "dict"), none, (.dict #[⟨(PyData.keyHash P (Str.ofString "__module__")), (.str (Str.ofString "__module__") 213), (.str (Str.ofString "recore.base") 194)⟩, ⟨(PyData.keyHash P (Str.ofString "__firstlineno__")), (.str (Str.ofString "__firstlineno__") 217), (.int 10 216)⟩, ⟨(PyData.keyHash P (Str.ofString "__init__")), (.str (Str.ofString "__init__") 226), (.ref 36)⟩, ⟨(PyData.keyHash P (Str.ofString "__static_attributes__")), (.str (Str.ofString "__static_attributes__") 228), (.ref 37)⟩, ⟨(PyData.keyHash P (Str.ofString "__weakref__")), (.str (Str.ofString "__weakref__") 230), (.ref 40)⟩, ⟨(PyData.keyHash P (Str.ofString "__doc__")), (.str (Str.ofString "__doc__") 231), .none⟩] 3), #[]⟩
noncomputable abbrev o_39 (P : Params) : Obj := ⟨(.type "type"), none, (.cls (ClassData.mk (Str.ofString "RecoreError") [(.type "Exception")] [(.ref 39), (.type "Exception"), (.type "BaseException"), (.type "object")] 38 (Str.ofString "RecoreError") true [] [(.ref 60), (.ref 72), (.ref 84)] false none false)), #[(some (.ref 22)), none, (some (.str (Str.ofString "RecoreError") 206)), (some (.str (Str.ofString "RecoreError") 214)), (some (.builtin "Exception.__new__")), (some (.bool true))]⟩
noncomputable abbrev o_40 (P : Params) : Obj := ⟨(.type "getset_descriptor"), none, (.fields #[(.str (Str.ofString "__weakref__") 229), (.ref 39), (.builtin "ExceptionGroup.__weakref__"), .none]), #[]⟩
noncomputable abbrev o_41 (P : Params) : Obj := ⟨(.type "super"), none, (.fields #[(.ref 39), (.ref 39), (.ref 39)]), #[]⟩
noncomputable abbrev o_42 (P : Params) : Obj := ⟨(.type "builtin_function_or_method"), none, (.fields #[(.builtin "object.__init_subclass__"), (.ref 39)]), #[]⟩
noncomputable abbrev o_43 (P : Params) : Obj := ⟨(.type "tuple"), none, (.seq #[(.ref 39)] 0), #[]⟩
noncomputable abbrev o_44 (P : Params) : Obj := ⟨(.type "builtin_function_or_method"), none, (.fields #[(.builtin "type.__prepare__"), (.type "type")]), #[]⟩
noncomputable abbrev o_45 (P : Params) : Obj := ⟨(.type "dict"), none, (.dict #[⟨(PyData.keyHash P (Str.ofString "__module__")), (.str (Str.ofString "__module__") 243), (.str (Str.ofString "recore.base") 194)⟩, ⟨(PyData.keyHash P (Str.ofString "__qualname__")), (.str (Str.ofString "__qualname__") 245), (.str (Str.ofString "BadPattern") 244)⟩, ⟨(PyData.keyHash P (Str.ofString "__firstlineno__")), (.str (Str.ofString "__firstlineno__") 247), (.int 14 246)⟩, ⟨(PyData.keyHash P (Str.ofString "__init__")), (.str (Str.ofString "__init__") 259), (.ref 57)⟩, ⟨(PyData.keyHash P (Str.ofString "__static_attributes__")), (.str (Str.ofString "__static_attributes__") 263), (.ref 58)⟩] 5), #[]⟩
noncomputable abbrev o_46 (P : Params) : Obj := ⟨(.type "tuple"), none, (.seq #[] 0), #[]⟩
noncomputable abbrev o_47 (P : Params) : Obj := ⟨.none, none, (.fields #[(.int 16 0), (.int 4 0), (.ref 56)]), #[]⟩
noncomputable abbrev o_48 (P : Params) : Obj := ⟨(.type "code"), none, (.fields #[(.str (Str.ofString "BadPattern") 238), (.str (Str.ofString "BadPattern") 239), (.str (Str.ofString "/claim/cut.py") 240), (.int 14 0), (.int 0 0), (.int 0 0), (.int 0 0), (.int 0 0), (.ref 46), (.bool false), (.int 181 0), (.ref 47), .none, .none, .none, .none, (.int 241 0), (.int 14 0), (.str (Str.ofString "/claim/cut.py") 242)]), #[]⟩
noncomputable abbrev o_49 (P : Params) : Obj := ⟨(.type "frame"), none, .plain, #[(some (.ref 48)), (some (.ref 3)), (some (.ref 45)), none, (some (.str (Str.ofString "recore.base") 194)), none, (some (.ref 0))]⟩
noncomputable abbrev o_50 (P : Params) : Obj := ⟨(.type "tuple"), none, (.seq #[(.bytes #[] 248), (.int 0 249)] 0), #[]⟩
noncomputable abbrev o_51 (P : Params) : Obj := ⟨(.type "tuple"), none, (.seq #[] 0), #[]⟩
noncomputable abbrev o_52 (P : Params) : Obj := ⟨.none, none, (.fields #[]), #[]⟩
noncomputable abbrev o_53 (P : Params) : Obj := ⟨(.type "tuple"), none, (.seq #[(.str (Str.ofString "self") 253), (.str (Str.ofString "code") 254), (.str (Str.ofString "told") 255), (.str (Str.ofString "place") 256)] 0), #[]⟩
noncomputable abbrev o_54 (P : Params) : Obj := ⟨(.type "tuple"), none, (.seq #[] 0), #[]⟩
noncomputable abbrev o_55 (P : Params) : Obj := ⟨.none, none, .func (FuncData.mk (Str.ofString "__init__") (Str.ofString "BadPattern.__init__") (fP 8 1) (.stmts (fB 8 1)) (fS 8 1) 0 [] .none .none .none .none none .none .none 0), #[]⟩
noncomputable abbrev o_56 (P : Params) : Obj := ⟨(.type "code"), none, (.fields #[(.str (Str.ofString "__init__") 250), (.str (Str.ofString "BadPattern.__init__") 251), (.str (Str.ofString "/claim/cut.py") 252), (.int 16 0), (.int 4 0), (.int 0 0), (.int 0 0), (.int 3 0), (.ref 51), (.bool true), (.int 181 0), (.ref 52), .none, (.ref 53), (.ref 54), (.ref 55), (.int 257 0), (.int 16 0), (.str (Str.ofString "/claim/cut.py") 258)]), #[]⟩
noncomputable abbrev o_57 (P : Params) : Obj := ⟨(.type "function"), none, .func (FuncData.mk (Str.ofString "__init__") (Str.ofString "BadPattern.__init__") (fP 8 1) (.stmts (fB 8 1)) (fS 8 1) 3 [] (.ref 50) .none .none (.str (Str.ofString "recore.base") 194) none (.ref 56) .none 0), #[]⟩
noncomputable abbrev o_58 (P : Params) : Obj := ⟨(.type "tuple"), none, (.seq #[(.str (Str.ofString "code") 260), (.str (Str.ofString "place") 261), (.str (Str.ofString "told") 262)] 0), #[]⟩
noncomputable abbrev o_59 (P : Params) : Obj := ⟨(.type "dict"), none, (.dict #[⟨(PyData.keyHash P (Str.ofString "__module__")), (.str (Str.ofString "__module__") 243), (.str (Str.ofString "recore.base") 194)⟩, ⟨(PyData.keyHash P (Str.ofString "__firstlineno__")), (.str (Str.ofString "__firstlineno__") 247), (.int 14 246)⟩, ⟨(PyData.keyHash P (Str.ofString "__init__")), (.str (Str.ofString "__init__") 259), (.ref 57)⟩, ⟨(PyData.keyHash P (Str.ofString "__static_attributes__")), (.str (Str.ofString "__static_attributes__") 263), (.ref 58)⟩, ⟨(PyData.keyHash P (Str.ofString "__doc__")), (.str (Str.ofString "__doc__") 264), .none⟩] 2), #[]⟩
noncomputable abbrev o_60 (P : Params) : Obj := ⟨(.type "type"), none, (.cls (ClassData.mk (Str.ofString "BadPattern") [(.ref 39)] [(.ref 60), (.ref 39), (.type "Exception"), (.type "BaseException"), (.type "object")] 59 (Str.ofString "BadPattern") true [] [] false none false)), #[(some (.ref 43)), none, (some (.str (Str.ofString "BadPattern") 236)), (some (.str (Str.ofString "BadPattern") 244)), (some (.builtin "Exception.__new__")), (some (.bool true))]⟩
noncomputable abbrev o_61 (P : Params) : Obj := ⟨(.type "super"), none, (.fields #[(.ref 60), (.ref 60), (.ref 60)]), #[]⟩
noncomputable abbrev o_62 (P : Params) : Obj := ⟨(.type "builtin_function_or_method"), none, (.fields #[(.builtin "object.__init_subclass__"), (.ref 60)]), #[]⟩
noncomputable abbrev o_63 (P : Params) : Obj := ⟨(.type "tuple"), none, (.seq #[(.ref 39)] 0), #[]⟩
noncomputable abbrev o_64 (P : Params) : Obj := ⟨(.type "builtin_function_or_method"), none, (.fields #[(.builtin "type.__prepare__"), (.type "type")]), #[]⟩
noncomputable abbrev o_65 (P : Params) : Obj := ⟨(.type "dict"), none, (.dict #[⟨(PyData.keyHash P (Str.ofString "__module__")), (.str (Str.ofString "__module__") 274), (.str (Str.ofString "recore.base") 194)⟩, ⟨(PyData.keyHash P (Str.ofString "__qualname__")), (.str (Str.ofString "__qualname__") 276), (.str (Str.ofString "BadRewrite") 275)⟩, ⟨(PyData.keyHash P (Str.ofString "__firstlineno__")), (.str (Str.ofString "__firstlineno__") 278), (.int 20 277)⟩, ⟨(PyData.keyHash P (Str.ofString "__static_attributes__")), (.str (Str.ofString "__static_attributes__") 279), (.ref 70)⟩] 4), #[]⟩
noncomputable abbrev o_66 (P : Params) : Obj := ⟨(.type "tuple"), none, (.seq #[] 0), #[]⟩
noncomputable abbrev o_67 (P : Params) : Obj := ⟨.none, none, (.fields #[]), #[]⟩
noncomputable abbrev o_68 (P : Params) : Obj := ⟨(.type "code"), none, (.fields #[(.str (Str.ofString "BadRewrite") 269), (.str (Str.ofString "BadRewrite") 270), (.str (Str.ofString "/claim/cut.py") 271), (.int 20 0), (.int 0 0), (.int 0 0), (.int 0 0), (.int 0 0), (.ref 66), (.bool false), (.int 181 0), (.ref 67), .none, .none, .none, .none, (.int 272 0), (.int 20 0), (.str (Str.ofString "/claim/cut.py") 273)]), #[]⟩
noncomputable abbrev o_69 (P : Params) : Obj := ⟨(.type "frame"), none, .plain, #[(some (.ref 68)), (some (.ref 3)), (some (.ref 65)), none, (some (.str (Str.ofString "recore.base") 194)), none, (some (.ref 0))]⟩
noncomputable abbrev o_70 (P : Params) : Obj := ⟨(.type "tuple"), none, (.seq #[] 0), #[]⟩
noncomputable abbrev o_71 (P : Params) : Obj := ⟨(.type "dict"), none, (.dict #[⟨(PyData.keyHash P (Str.ofString "__module__")), (.str (Str.ofString "__module__") 274), (.str (Str.ofString "recore.base") 194)⟩, ⟨(PyData.keyHash P (Str.ofString "__firstlineno__")), (.str (Str.ofString "__firstlineno__") 278), (.int 20 277)⟩, ⟨(PyData.keyHash P (Str.ofString "__static_attributes__")), (.str (Str.ofString "__static_attributes__") 279), (.ref 70)⟩, ⟨(PyData.keyHash P (Str.ofString "__doc__")), (.str (Str.ofString "__doc__") 280), .none⟩] 2), #[]⟩
noncomputable abbrev o_72 (P : Params) : Obj := ⟨(.type "type"), none, (.cls (ClassData.mk (Str.ofString "BadRewrite") [(.ref 39)] [(.ref 72), (.ref 39), (.type "Exception"), (.type "BaseException"), (.type "object")] 71 (Str.ofString "BadRewrite") true [] [] false none false)), #[(some (.ref 63)), none, (some (.str (Str.ofString "BadRewrite") 267)), (some (.str (Str.ofString "BadRewrite") 275)), (some (.builtin "Exception.__new__")), (some (.bool true))]⟩
noncomputable abbrev o_73 (P : Params) : Obj := ⟨(.type "super"), none, (.fields #[(.ref 72), (.ref 72), (.ref 72)]), #[]⟩
noncomputable abbrev o_74 (P : Params) : Obj := ⟨(.type "builtin_function_or_method"), none, (.fields #[(.builtin "object.__init_subclass__"), (.ref 72)]), #[]⟩
noncomputable abbrev o_75 (P : Params) : Obj := ⟨(.type "tuple"), none, (.seq #[(.ref 39)] 0), #[]⟩
noncomputable abbrev o_76 (P : Params) : Obj := ⟨(.type "builtin_function_or_method"), none, (.fields #[(.builtin "type.__prepare__"), (.type "type")]), #[]⟩
noncomputable abbrev o_77 (P : Params) : Obj := ⟨(.type "dict"), none, (.dict #[⟨(PyData.keyHash P (Str.ofString "__module__")), (.str (Str.ofString "__module__") 290), (.str (Str.ofString "recore.base") 194)⟩, ⟨(PyData.keyHash P (Str.ofString "__qualname__")), (.str (Str.ofString "__qualname__") 292), (.str (Str.ofString "BadCall") 291)⟩, ⟨(PyData.keyHash P (Str.ofString "__firstlineno__")), (.str (Str.ofString "__firstlineno__") 294), (.int 22 293)⟩, ⟨(PyData.keyHash P (Str.ofString "__static_attributes__")), (.str (Str.ofString "__static_attributes__") 295), (.ref 82)⟩] 4), #[]⟩
noncomputable abbrev o_78 (P : Params) : Obj := ⟨(.type "tuple"), none, (.seq #[] 0), #[]⟩
noncomputable abbrev o_79 (P : Params) : Obj := ⟨.none, none, (.fields #[]), #[]⟩
noncomputable abbrev o_80 (P : Params) : Obj := ⟨(.type "code"), none, (.fields #[(.str (Str.ofString "BadCall") 285), (.str (Str.ofString "BadCall") 286), (.str (Str.ofString "/claim/cut.py") 287), (.int 22 0), (.int 0 0), (.int 0 0), (.int 0 0), (.int 0 0), (.ref 78), (.bool false), (.int 181 0), (.ref 79), .none, .none, .none, .none, (.int 288 0), (.int 22 0), (.str (Str.ofString "/claim/cut.py") 289)]), #[]⟩
noncomputable abbrev o_81 (P : Params) : Obj := ⟨(.type "frame"), none, .plain, #[(some (.ref 80)), (some (.ref 3)), (some (.ref 77)), none, (some (.str (Str.ofString "recore.base") 194)), none, (some (.ref 0))]⟩
noncomputable abbrev o_82 (P : Params) : Obj := ⟨(.type "tuple"), none, (.seq #[] 0), #[]⟩
noncomputable abbrev o_83 (P : Params) : Obj := ⟨(.type "dict"), none, (.dict #[⟨(PyData.keyHash P (Str.ofString "__module__")), (.str (Str.ofString "__module__") 290), (.str (Str.ofString "recore.base") 194)⟩, ⟨(PyData.keyHash P (Str.ofString "__firstlineno__")), (.str (Str.ofString "__firstlineno__") 294), (.int 22 293)⟩, ⟨(PyData.keyHash P (Str.ofString "__static_attributes__")), (.str (Str.ofString "__static_attributes__") 295), (.ref 82)⟩, ⟨(PyData.keyHash P (Str.ofString "__doc__")), (.str (Str.ofString "__doc__") 296), .none⟩] 2), #[]⟩
noncomputable abbrev o_84 (P : Params) : Obj := ⟨(.type "type"), none, (.cls (ClassData.mk (Str.ofString "BadCall") [(.ref 39)] [(.ref 84), (.ref 39), (.type "Exception"), (.type "BaseException"), (.type "object")] 83 (Str.ofString "BadCall") true [] [] false none false)), #[(some (.ref 75)), none, (some (.str (Str.ofString "BadCall") 283)), (some (.str (Str.ofString "BadCall") 291)), (some (.builtin "Exception.__new__")), (some (.bool true))]⟩
noncomputable abbrev o_85 (P : Params) : Obj := ⟨(.type "super"), none, (.fields #[(.ref 84), (.ref 84), (.ref 84)]), #[]⟩
noncomputable abbrev o_86 (P : Params) : Obj := ⟨(.type "builtin_function_or_method"), none, (.fields #[(.builtin "object.__init_subclass__"), (.ref 84)]), #[]⟩
noncomputable abbrev o_87 (P : Params) : Obj := ⟨(.type "tuple"), none, (.seq #[] 0), #[]⟩
noncomputable abbrev o_88 (P : Params) : Obj := ⟨.none, none, (.fields #[]), #[]⟩
noncomputable abbrev o_89 (P : Params) : Obj := ⟨(.type "tuple"), none, (.seq #[(.str (Str.ofString "octet") 306)] 0), #[]⟩
noncomputable abbrev o_90 (P : Params) : Obj := ⟨(.type "tuple"), none, (.seq #[] 0), #[]⟩
noncomputable abbrev o_91 (P : Params) : Obj := ⟨.none, none, .func (FuncData.mk (Str.ofString "rewrite_is_figure") (Str.ofString "rewrite_is_figure") (fP 13 0) (.stmts (fB 13 0)) (fS 13 0) 0 [] .none .none .none .none none .none .none 0), #[]⟩
noncomputable abbrev o_92 (P : Params) : Obj := ⟨(.type "code"), none, (.fields #[(.str (Str.ofString "rewrite_is_figure") 303), (.str (Str.ofString "rewrite_is_figure") 304), (.str (Str.ofString "/claim/cut.py") 305), (.int 26 0), (.int 1 0), (.int 0 0), (.int 0 0), (.int 3 0), (.ref 87), (.bool true), (.int 181 0), (.ref 88), .none, (.ref 89), (.ref 90), (.ref 91), (.int 307 0), (.int 26 0), (.str (Str.ofString "/claim/cut.py") 308)]), #[]⟩
noncomputable abbrev o_93 (P : Params) : Obj := ⟨(.type "function"), none, .func (FuncData.mk (Str.ofString "rewrite_is_figure") (Str.ofString "rewrite_is_figure") (fP 13 0) (.stmts (fB 13 0)) (fS 13 0) 3 [] .none .none .none (.str (Str.ofString "recore.rewriting") 299) none (.ref 92) .none 0), #[]⟩
noncomputable abbrev o_94 (P : Params) : Obj := ⟨(.type "tuple"), none, (.seq #[] 0), #[]⟩
noncomputable abbrev o_95 (P : Params) : Obj := ⟨.none, none, (.fields #[]), #[]⟩
noncomputable abbrev o_96 (P : Params) : Obj := ⟨(.type "tuple"), none, (.seq #[(.str (Str.ofString "rewrite") 313), (.str (Str.ofString "found") 314), (.str (Str.ofString "begin") 315), (.str (Str.ofString "at") 316), (.str (Str.ofString "sign") 317)] 0), #[]⟩
noncomputable abbrev o_97 (P : Params) : Obj := ⟨(.type "tuple"), none, (.seq #[] 0), #[]⟩
noncomputable abbrev o_98 (P : Params) : Obj := ⟨.none, none, .func (FuncData.mk (Str.ofString "rewrite_pieces") (Str.ofString "rewrite_pieces") (fP 14 0) (.stmts (fB 14 0)) (fS 14 0) 0 [] .none .none .none .none none .none .none 0), #[]⟩
noncomputable abbrev o_99 (P : Params) : Obj := ⟨(.type "code"), none, (.fields #[(.str (Str.ofString "rewrite_pieces") 310), (.str (Str.ofString "rewrite_pieces") 311), (.str (Str.ofString "/claim/cut.py") 312), (.int 28 0), (.int 1 0), (.int 0 0), (.int 0 0), (.int 3 0), (.ref 94), (.bool true), (.int 181 0), (.ref 95), .none, (.ref 96), (.ref 97), (.ref 98), (.int 318 0), (.int 28 0), (.str (Str.ofString "/claim/cut.py") 319)]), #[]⟩
noncomputable abbrev o_100 (P : Params) : Obj := ⟨(.type "function"), none, .func (FuncData.mk (Str.ofString "rewrite_pieces") (Str.ofString "rewrite_pieces") (fP 14 0) (.stmts (fB 14 0)) (fS 14 0) 3 [] .none .none .none (.str (Str.ofString "recore.rewriting") 299) none (.ref 99) .none 0), #[]⟩
noncomputable abbrev o_101 (P : Params) : Obj := ⟨(.type "tuple"), none, (.seq #[] 0), #[]⟩
noncomputable abbrev o_102 (P : Params) : Obj := ⟨.none, none, (.fields #[]), #[]⟩
noncomputable abbrev o_103 (P : Params) : Obj := ⟨(.type "tuple"), none, (.seq #[(.str (Str.ofString "rewrite") 324), (.str (Str.ofString "most") 325), (.str (Str.ofString "at") 326)] 0), #[]⟩
noncomputable abbrev o_104 (P : Params) : Obj := ⟨(.type "tuple"), none, (.seq #[] 0), #[]⟩
noncomputable abbrev o_105 (P : Params) : Obj := ⟨.none, none, .func (FuncData.mk (Str.ofString "rewrite_most") (Str.ofString "rewrite_most") (fP 15 0) (.stmts (fB 15 0)) (fS 15 0) 0 [] .none .none .none .none none .none .none 0), #[]⟩
noncomputable abbrev o_106 (P : Params) : Obj := ⟨(.type "code"), none, (.fields #[(.str (Str.ofString "rewrite_most") 321), (.str (Str.ofString "rewrite_most") 322), (.str (Str.ofString "/claim/cut.py") 323), (.int 44 0), (.int 1 0), (.int 0 0), (.int 0 0), (.int 3 0), (.ref 101), (.bool true), (.int 181 0), (.ref 102), .none, (.ref 103), (.ref 104), (.ref 105), (.int 327 0), (.int 44 0), (.str (Str.ofString "/claim/cut.py") 328)]), #[]⟩
noncomputable abbrev o_107 (P : Params) : Obj := ⟨(.type "function"), none, .func (FuncData.mk (Str.ofString "rewrite_most") (Str.ofString "rewrite_most") (fP 15 0) (.stmts (fB 15 0)) (fS 15 0) 3 [] .none .none .none (.str (Str.ofString "recore.rewriting") 299) none (.ref 106) .none 0), #[]⟩
noncomputable abbrev o_108 (P : Params) : Obj := ⟨(.type "tuple"), none, (.seq #[] 0), #[]⟩
noncomputable abbrev o_109 (P : Params) : Obj := ⟨.none, none, (.fields #[]), #[]⟩
noncomputable abbrev o_110 (P : Params) : Obj := ⟨(.type "tuple"), none, (.seq #[(.str (Str.ofString "rewrite") 333), (.str (Str.ofString "text") 334), (.str (Str.ofString "captures") 335), (.str (Str.ofString "found") 336), (.str (Str.ofString "piece") 337)] 0), #[]⟩
noncomputable abbrev o_111 (P : Params) : Obj := ⟨(.type "tuple"), none, (.seq #[] 0), #[]⟩
noncomputable abbrev o_112 (P : Params) : Obj := ⟨.none, none, .func (FuncData.mk (Str.ofString "rewritten") (Str.ofString "rewritten") (fP 16 0) (.stmts (fB 16 0)) (fS 16 0) 0 [] .none .none .none .none none .none .none 0), #[]⟩
noncomputable abbrev o_113 (P : Params) : Obj := ⟨(.type "code"), none, (.fields #[(.str (Str.ofString "rewritten") 330), (.str (Str.ofString "rewritten") 331), (.str (Str.ofString "/claim/cut.py") 332), (.int 51 0), (.int 3 0), (.int 0 0), (.int 0 0), (.int 3 0), (.ref 108), (.bool true), (.int 181 0), (.ref 109), .none, (.ref 110), (.ref 111), (.ref 112), (.int 338 0), (.int 51 0), (.str (Str.ofString "/claim/cut.py") 339)]), #[]⟩
noncomputable abbrev o_114 (P : Params) : Obj := ⟨(.type "function"), none, .func (FuncData.mk (Str.ofString "rewritten") (Str.ofString "rewritten") (fP 16 0) (.stmts (fB 16 0)) (fS 16 0) 3 [] .none .none .none (.str (Str.ofString "recore.rewriting") 299) none (.ref 113) .none 0), #[]⟩
noncomputable abbrev o_115 (P : Params) : Obj := ⟨(.type "tuple"), none, (.seq #[] 0), #[]⟩
noncomputable abbrev o_116 (P : Params) : Obj := ⟨.none, none, (.fields #[]), #[]⟩
noncomputable abbrev o_117 (P : Params) : Obj := ⟨(.type "tuple"), none, (.seq #[(.str (Str.ofString "octets") 344), (.str (Str.ofString "found") 345), (.str (Str.ofString "octet") 346)] 0), #[]⟩
noncomputable abbrev o_118 (P : Params) : Obj := ⟨(.type "tuple"), none, (.seq #[] 0), #[]⟩
noncomputable abbrev o_119 (P : Params) : Obj := ⟨.none, none, .func (FuncData.mk (Str.ofString "quote_meta") (Str.ofString "quote_meta") (fP 17 0) (.stmts (fB 17 0)) (fS 17 0) 0 [] .none .none .none .none none .none .none 0), #[]⟩
noncomputable abbrev o_120 (P : Params) : Obj := ⟨(.type "code"), none, (.fields #[(.str (Str.ofString "quote_meta") 341), (.str (Str.ofString "quote_meta") 342), (.str (Str.ofString "/claim/cut.py") 343), (.int 61 0), (.int 1 0), (.int 0 0), (.int 0 0), (.int 3 0), (.ref 115), (.bool true), (.int 181 0), (.ref 116), .none, (.ref 117), (.ref 118), (.ref 119), (.int 347 0), (.int 61 0), (.str (Str.ofString "/claim/cut.py") 348)]), #[]⟩
noncomputable abbrev o_121 (P : Params) : Obj := ⟨(.type "function"), none, .func (FuncData.mk (Str.ofString "quote_meta") (Str.ofString "quote_meta") (fP 17 0) (.stmts (fB 17 0)) (fS 17 0) 3 [] .none .none .none (.str (Str.ofString "recore.rewriting") 299) none (.ref 120) .none 0), #[]⟩
noncomputable abbrev o_122 (P : Params) : Obj := ⟨(.type "tuple"), none, (.seq #[] 0), #[]⟩
noncomputable abbrev o_123 (P : Params) : Obj := ⟨.none, none, (.fields #[]), #[]⟩
noncomputable abbrev o_124 (P : Params) : Obj := ⟨(.type "tuple"), none, (.seq #[(.str (Str.ofString "rune") 355)] 0), #[]⟩
noncomputable abbrev o_125 (P : Params) : Obj := ⟨(.type "tuple"), none, (.seq #[] 0), #[]⟩
noncomputable abbrev o_126 (P : Params) : Obj := ⟨.none, none, .func (FuncData.mk (Str.ofString "rune_length") (Str.ofString "rune_length") (fP 19 0) (.stmts (fB 19 0)) (fS 19 0) 0 [] .none .none .none .none none .none .none 0), #[]⟩
noncomputable abbrev o_127 (P : Params) : Obj := ⟨(.type "code"), none, (.fields #[(.str (Str.ofString "rune_length") 352), (.str (Str.ofString "rune_length") 353), (.str (Str.ofString "/claim/cut.py") 354), (.int 72 0), (.int 1 0), (.int 0 0), (.int 0 0), (.int 3 0), (.ref 122), (.bool true), (.int 181 0), (.ref 123), .none, (.ref 124), (.ref 125), (.ref 126), (.int 356 0), (.int 72 0), (.str (Str.ofString "/claim/cut.py") 357)]), #[]⟩
noncomputable abbrev o_128 (P : Params) : Obj := ⟨(.type "function"), none, .func (FuncData.mk (Str.ofString "rune_length") (Str.ofString "rune_length") (fP 19 0) (.stmts (fB 19 0)) (fS 19 0) 3 [] .none .none .none (.str (Str.ofString "recore.runes") 350) none (.ref 127) .none 0), #[]⟩
noncomputable abbrev o_129 (P : Params) : Obj := ⟨(.type "tuple"), none, (.seq #[] 0), #[]⟩
noncomputable abbrev o_130 (P : Params) : Obj := ⟨.none, none, (.fields #[]), #[]⟩
noncomputable abbrev o_131 (P : Params) : Obj := ⟨(.type "tuple"), none, (.seq #[(.str (Str.ofString "many") 362)] 0), #[]⟩
noncomputable abbrev o_132 (P : Params) : Obj := ⟨(.type "tuple"), none, (.seq #[] 0), #[]⟩
noncomputable abbrev o_133 (P : Params) : Obj := ⟨.none, none, .func (FuncData.mk (Str.ofString "rune_lead") (Str.ofString "rune_lead") (fP 20 0) (.stmts (fB 20 0)) (fS 20 0) 0 [] .none .none .none .none none .none .none 0), #[]⟩
noncomputable abbrev o_134 (P : Params) : Obj := ⟨(.type "code"), none, (.fields #[(.str (Str.ofString "rune_lead") 359), (.str (Str.ofString "rune_lead") 360), (.str (Str.ofString "/claim/cut.py") 361), (.int 78 0), (.int 1 0), (.int 0 0), (.int 0 0), (.int 3 0), (.ref 129), (.bool true), (.int 181 0), (.ref 130), .none, (.ref 131), (.ref 132), (.ref 133), (.int 363 0), (.int 78 0), (.str (Str.ofString "/claim/cut.py") 364)]), #[]⟩
noncomputable abbrev o_135 (P : Params) : Obj := ⟨(.type "function"), none, .func (FuncData.mk (Str.ofString "rune_lead") (Str.ofString "rune_lead") (fP 20 0) (.stmts (fB 20 0)) (fS 20 0) 3 [] .none .none .none (.str (Str.ofString "recore.runes") 350) none (.ref 134) .none 0), #[]⟩
noncomputable abbrev o_136 (P : Params) : Obj := ⟨(.type "tuple"), none, (.seq #[] 0), #[]⟩
noncomputable abbrev o_137 (P : Params) : Obj := ⟨.none, none, (.fields #[]), #[]⟩
noncomputable abbrev o_138 (P : Params) : Obj := ⟨(.type "tuple"), none, (.seq #[(.str (Str.ofString "rune") 369), (.str (Str.ofString "many") 370), (.str (Str.ofString "found") 371), (.str (Str.ofString "rest") 372), (.str (Str.ofString "turn") 373)] 0), #[]⟩
noncomputable abbrev o_139 (P : Params) : Obj := ⟨(.type "tuple"), none, (.seq #[] 0), #[]⟩
noncomputable abbrev o_140 (P : Params) : Obj := ⟨.none, none, .func (FuncData.mk (Str.ofString "rune_octets") (Str.ofString "rune_octets") (fP 21 0) (.stmts (fB 21 0)) (fS 21 0) 0 [] .none .none .none .none none .none .none 0), #[]⟩
noncomputable abbrev o_141 (P : Params) : Obj := ⟨(.type "code"), none, (.fields #[(.str (Str.ofString "rune_octets") 366), (.str (Str.ofString "rune_octets") 367), (.str (Str.ofString "/claim/cut.py") 368), (.int 80 0), (.int 1 0), (.int 0 0), (.int 0 0), (.int 3 0), (.ref 136), (.bool true), (.int 181 0), (.ref 137), .none, (.ref 138), (.ref 139), (.ref 140), (.int 374 0), (.int 80 0), (.str (Str.ofString "/claim/cut.py") 375)]), #[]⟩
noncomputable abbrev o_142 (P : Params) : Obj := ⟨(.type "function"), none, .func (FuncData.mk (Str.ofString "rune_octets") (Str.ofString "rune_octets") (fP 21 0) (.stmts (fB 21 0)) (fS 21 0) 3 [] .none .none .none (.str (Str.ofString "recore.runes") 350) none (.ref 141) .none 0), #[]⟩
noncomputable abbrev o_143 (P : Params) : Obj := ⟨(.type "tuple"), none, (.seq #[] 0), #[]⟩
noncomputable abbrev o_144 (P : Params) : Obj := ⟨.none, none, (.fields #[]), #[]⟩
noncomputable abbrev o_145 (P : Params) : Obj := ⟨(.type "tuple"), none, (.seq #[(.str (Str.ofString "octet") 380)] 0), #[]⟩
noncomputable abbrev o_146 (P : Params) : Obj := ⟨(.type "tuple"), none, (.seq #[] 0), #[]⟩
noncomputable abbrev o_147 (P : Params) : Obj := ⟨.none, none, .func (FuncData.mk (Str.ofString "rune_form_length") (Str.ofString "rune_form_length") (fP 22 0) (.stmts (fB 22 0)) (fS 22 0) 0 [] .none .none .none .none none .none .none 0), #[]⟩
noncomputable abbrev o_148 (P : Params) : Obj := ⟨(.type "code"), none, (.fields #[(.str (Str.ofString "rune_form_length") 377), (.str (Str.ofString "rune_form_length") 378), (.str (Str.ofString "/claim/cut.py") 379), (.int 90 0), (.int 1 0), (.int 0 0), (.int 0 0), (.int 3 0), (.ref 143), (.bool true), (.int 181 0), (.ref 144), .none, (.ref 145), (.ref 146), (.ref 147), (.int 381 0), (.int 90 0), (.str (Str.ofString "/claim/cut.py") 382)]), #[]⟩
noncomputable abbrev o_149 (P : Params) : Obj := ⟨(.type "function"), none, .func (FuncData.mk (Str.ofString "rune_form_length") (Str.ofString "rune_form_length") (fP 22 0) (.stmts (fB 22 0)) (fS 22 0) 3 [] .none .none .none (.str (Str.ofString "recore.runes") 350) none (.ref 148) .none 0), #[]⟩
noncomputable abbrev o_150 (P : Params) : Obj := ⟨(.type "tuple"), none, (.seq #[] 0), #[]⟩
noncomputable abbrev o_151 (P : Params) : Obj := ⟨.none, none, (.fields #[]), #[]⟩
noncomputable abbrev o_152 (P : Params) : Obj := ⟨(.type "tuple"), none, (.seq #[(.str (Str.ofString "octets") 387), (.str (Str.ofString "at") 388), (.str (Str.ofString "first") 389), (.str (Str.ofString "many") 390), (.str (Str.ofString "rune") 391), (.str (Str.ofString "octet") 392)] 0), #[]⟩
noncomputable abbrev o_153 (P : Params) : Obj := ⟨(.type "tuple"), none, (.seq #[] 0), #[]⟩
noncomputable abbrev o_154 (P : Params) : Obj := ⟨.none, none, .func (FuncData.mk (Str.ofString "rune_at") (Str.ofString "rune_at") (fP 23 0) (.stmts (fB 23 0)) (fS 23 0) 0 [] .none .none .none .none none .none .none 0), #[]⟩
noncomputable abbrev o_155 (P : Params) : Obj := ⟨(.type "code"), none, (.fields #[(.str (Str.ofString "rune_at") 384), (.str (Str.ofString "rune_at") 385), (.str (Str.ofString "/claim/cut.py") 386), (.int 98 0), (.int 2 0), (.int 0 0), (.int 0 0), (.int 3 0), (.ref 150), (.bool true), (.int 181 0), (.ref 151), .none, (.ref 152), (.ref 153), (.ref 154), (.int 393 0), (.int 98 0), (.str (Str.ofString "/claim/cut.py") 394)]), #[]⟩
noncomputable abbrev o_156 (P : Params) : Obj := ⟨(.type "function"), none, .func (FuncData.mk (Str.ofString "rune_at") (Str.ofString "rune_at") (fP 23 0) (.stmts (fB 23 0)) (fS 23 0) 3 [] .none .none .none (.str (Str.ofString "recore.runes") 350) none (.ref 155) .none 0), #[]⟩
noncomputable abbrev o_157 (P : Params) : Obj := ⟨(.type "tuple"), none, (.seq #[] 0), #[]⟩
noncomputable abbrev o_158 (P : Params) : Obj := ⟨.none, none, (.fields #[]), #[]⟩
noncomputable abbrev o_159 (P : Params) : Obj := ⟨.none, none, .func (FuncData.mk (Str.ofString "octets_of_runes") (Str.ofString "octets_of_runes") (fP 24 0) (.stmts (fB 24 0)) (fS 24 0) 0 [] .none .none .none .none none .none .none 0), #[]⟩
noncomputable abbrev o_160 (P : Params) : Obj := ⟨(.type "code"), none, (.fields #[(.str (Str.ofString "octets_of_runes") 396), (.str (Str.ofString "octets_of_runes") 397), (.str (Str.ofString "/claim/cut.py") 398), (.int 113 0), (.int 2 0), (.int 0 0), (.int 0 0), (.int 3 0), (.ref 157), (.bool true), (.int 181 0), (.ref 158), .none, .none, .none, (.ref 159), (.int 399 0), (.int 113 0), (.str (Str.ofString "/claim/cut.py") 400)]), #[]⟩
noncomputable abbrev o_161 (P : Params) : Obj := ⟨(.type "function"), none, .func (FuncData.mk (Str.ofString "octets_of_runes") (Str.ofString "octets_of_runes") (fP 24 0) (.stmts (fB 24 0)) (fS 24 0) 3 [] .none .none .none (.str (Str.ofString "recore.runes") 350) none (.ref 160) .none 0), #[]⟩
noncomputable abbrev o_162 (P : Params) : Obj := ⟨(.type "tuple"), none, (.seq #[(.int 97 404), (.int 7 405)] 0), #[]⟩
noncomputable abbrev o_163 (P : Params) : Obj := ⟨(.type "tuple"), none, (.seq #[(.int 102 406), (.int 12 407)] 0), #[]⟩
noncomputable abbrev o_164 (P : Params) : Obj := ⟨(.type "tuple"), none, (.seq #[(.int 110 408), (.int 10 409)] 0), #[]⟩
noncomputable abbrev o_165 (P : Params) : Obj := ⟨(.type "tuple"), none, (.seq #[(.int 114 410), (.int 13 411)] 0), #[]⟩
noncomputable abbrev o_166 (P : Params) : Obj := ⟨(.type "tuple"), none, (.seq #[(.int 116 412), (.int 9 413)] 0), #[]⟩
noncomputable abbrev o_167 (P : Params) : Obj := ⟨(.type "tuple"), none, (.seq #[(.int 118 414), (.int 11 415)] 0), #[]⟩
noncomputable abbrev o_168 (P : Params) : Obj := ⟨(.type "tuple"), none, (.seq #[(.ref 162), (.ref 163), (.ref 164), (.ref 165), (.ref 166), (.ref 167)] 0), #[]⟩
noncomputable abbrev o_169 (P : Params) : Obj := ⟨(.type "tuple"), none, (.seq #[] 0), #[]⟩
noncomputable abbrev o_170 (P : Params) : Obj := ⟨.none, none, (.fields #[]), #[]⟩
noncomputable abbrev o_171 (P : Params) : Obj := ⟨(.type "tuple"), none, (.seq #[(.str (Str.ofString "octets") 420), (.str (Str.ofString "at") 421), (.str (Str.ofString "is_latin1") 422), (.str (Str.ofString "rune") 423), (.str (Str.ofString "many") 424)] 0), #[]⟩
noncomputable abbrev o_172 (P : Params) : Obj := ⟨(.type "tuple"), none, (.seq #[] 0), #[]⟩
noncomputable abbrev o_173 (P : Params) : Obj := ⟨.none, none, .func (FuncData.mk (Str.ofString "reader_sign") (Str.ofString "reader_sign") (fP 27 0) (.stmts (fB 27 0)) (fS 27 0) 0 [] .none .none .none .none none .none .none 0), #[]⟩
noncomputable abbrev o_174 (P : Params) : Obj := ⟨(.type "code"), none, (.fields #[(.str (Str.ofString "reader_sign") 417), (.str (Str.ofString "reader_sign") 418), (.str (Str.ofString "/claim/cut.py") 419), (.int 119 0), (.int 3 0), (.int 0 0), (.int 0 0), (.int 3 0), (.ref 169), (.bool true), (.int 181 0), (.ref 170), .none, (.ref 171), (.ref 172), (.ref 173), (.int 425 0), (.int 119 0), (.str (Str.ofString "/claim/cut.py") 426)]), #[]⟩
noncomputable abbrev o_175 (P : Params) : Obj := ⟨(.type "function"), none, .func (FuncData.mk (Str.ofString "reader_sign") (Str.ofString "reader_sign") (fP 27 0) (.stmts (fB 27 0)) (fS 27 0) 3 [] .none .none .none (.str (Str.ofString "recore.reader") 402) none (.ref 174) .none 0), #[]⟩
noncomputable abbrev o_176 (P : Params) : Obj := ⟨(.type "tuple"), none, (.seq #[] 0), #[]⟩
noncomputable abbrev o_177 (P : Params) : Obj := ⟨(.type "builtin_function_or_method"), none, (.fields #[(.builtin "type.__prepare__"), (.type "type")]), #[]⟩
noncomputable abbrev o_178 (P : Params) : Obj := ⟨(.type "dict"), none, (.dict #[⟨(PyData.keyHash P (Str.ofString "__module__")), (.str (Str.ofString "__module__") 435), (.str (Str.ofString "recore.reader") 402)⟩, ⟨(PyData.keyHash P (Str.ofString "__qualname__")), (.str (Str.ofString "__qualname__") 437), (.str (Str.ofString "PatternReader") 436)⟩, ⟨(PyData.keyHash P (Str.ofString "__firstlineno__")), (.str (Str.ofString "__firstlineno__") 439), (.int 126 438)⟩, ⟨(PyData.keyHash P (Str.ofString "__init__")), (.str (Str.ofString "__init__") 448), (.ref 190)⟩, ⟨(PyData.keyHash P (Str.ofString "is_over")), (.str (Str.ofString "is_over") 455), (.ref 197)⟩, ⟨(PyData.keyHash P (Str.ofString "peek")), (.str (Str.ofString "peek") 462), (.ref 204)⟩, ⟨(PyData.keyHash P (Str.ofString "take")), (.str (Str.ofString "take") 471), (.ref 211)⟩, ⟨(PyData.keyHash P (Str.ofString "starts")), (.str (Str.ofString "starts") 479), (.ref 218)⟩, ⟨(PyData.keyHash P (Str.ofString "skip")), (.str (Str.ofString "skip") 487), (.ref 225)⟩, ⟨(PyData.keyHash P (Str.ofString "rest")), (.str (Str.ofString "rest") 494), (.ref 232)⟩, ⟨(PyData.keyHash P (Str.ofString "__static_attributes__")), (.str (Str.ofString "__static_attributes__") 498), (.ref 233)⟩] 11), #[]⟩
noncomputable abbrev o_179 (P : Params) : Obj := ⟨(.type "tuple"), none, (.seq #[] 0), #[]⟩
noncomputable abbrev o_180 (P : Params) : Obj := ⟨.none, none, (.fields #[(.int 128 0), (.int 4 0), (.ref 189), (.int 133 0), (.int 4 0), (.ref 196), (.int 136 0), (.int 4 0), (.ref 203), (.int 141 0), (.int 4 0), (.ref 210), (.int 148 0), (.int 4 0), (.ref 217), (.int 151 0), (.int 4 0), (.ref 224), (.int 154 0), (.int 4 0), (.ref 231)]), #[]⟩
noncomputable abbrev o_181 (P : Params) : Obj := ⟨(.type "code"), none, (.fields #[(.str (Str.ofString "PatternReader") 430), (.str (Str.ofString "PatternReader") 431), (.str (Str.ofString "/claim/cut.py") 432), (.int 126 0), (.int 0 0), (.int 0 0), (.int 0 0), (.int 0 0), (.ref 179), (.bool false), (.int 181 0), (.ref 180), .none, .none, .none, .none, (.int 433 0), (.int 126 0), (.str (Str.ofString "/claim/cut.py") 434)]), #[]⟩
noncomputable abbrev o_182 (P : Params) : Obj := ⟨(.type "frame"), none, .plain, #[(some (.ref 181)), (some (.ref 3)), (some (.ref 178)), none, (some (.str (Str.ofString "recore.reader") 402)), none, (some (.ref 0))]⟩
noncomputable abbrev o_183 (P : Params) : Obj := ⟨(.type "tuple"), none, (.seq #[(.bool false)] 0), #[]⟩
noncomputable abbrev o_184 (P : Params) : Obj := ⟨(.type "tuple"), none, (.seq #[] 0), #[]⟩
noncomputable abbrev o_185 (P : Params) : Obj := ⟨.none, none, (.fields #[]), #[]⟩
noncomputable abbrev o_186 (P : Params) : Obj := ⟨(.type "tuple"), none, (.seq #[(.str (Str.ofString "self") 443), (.str (Str.ofString "octets") 444), (.str (Str.ofString "is_latin1") 445)] 0), #[]⟩
noncomputable abbrev o_187 (P : Params) : Obj := ⟨(.type "tuple"), none, (.seq #[] 0), #[]⟩
noncomputable abbrev o_188 (P : Params) : Obj := ⟨.none, none, .func (FuncData.mk (Str.ofString "__init__") (Str.ofString "PatternReader.__init__") (fP 28 1) (.stmts (fB 28 1)) (fS 28 1) 0 [] .none .none .none .none none .none .none 0), #[]⟩
noncomputable abbrev o_189 (P : Params) : Obj := ⟨(.type "code"), none, (.fields #[(.str (Str.ofString "__init__") 440), (.str (Str.ofString "PatternReader.__init__") 441), (.str (Str.ofString "/claim/cut.py") 442), (.int 128 0), (.int 3 0), (.int 0 0), (.int 0 0), (.int 3 0), (.ref 184), (.bool true), (.int 181 0), (.ref 185), .none, (.ref 186), (.ref 187), (.ref 188), (.int 446 0), (.int 128 0), (.str (Str.ofString "/claim/cut.py") 447)]), #[]⟩
noncomputable abbrev o_190 (P : Params) : Obj := ⟨(.type "function"), none, .func (FuncData.mk (Str.ofString "__init__") (Str.ofString "PatternReader.__init__") (fP 28 1) (.stmts (fB 28 1)) (fS 28 1) 3 [] (.ref 183) .none .none (.str (Str.ofString "recore.reader") 402) none (.ref 189) .none 0), #[]⟩
noncomputable abbrev o_191 (P : Params) : Obj := ⟨(.type "tuple"), none, (.seq #[] 0), #[]⟩
noncomputable abbrev o_192 (P : Params) : Obj := ⟨.none, none, (.fields #[]), #[]⟩
noncomputable abbrev o_193 (P : Params) : Obj := ⟨(.type "tuple"), none, (.seq #[(.str (Str.ofString "self") 452)] 0), #[]⟩
noncomputable abbrev o_194 (P : Params) : Obj := ⟨(.type "tuple"), none, (.seq #[] 0), #[]⟩
noncomputable abbrev o_195 (P : Params) : Obj := ⟨.none, none, .func (FuncData.mk (Str.ofString "is_over") (Str.ofString "PatternReader.is_over") (fP 28 2) (.stmts (fB 28 2)) (fS 28 2) 0 [] .none .none .none .none none .none .none 0), #[]⟩
noncomputable abbrev o_196 (P : Params) : Obj := ⟨(.type "code"), none, (.fields #[(.str (Str.ofString "is_over") 449), (.str (Str.ofString "PatternReader.is_over") 450), (.str (Str.ofString "/claim/cut.py") 451), (.int 133 0), (.int 1 0), (.int 0 0), (.int 0 0), (.int 3 0), (.ref 191), (.bool true), (.int 181 0), (.ref 192), .none, (.ref 193), (.ref 194), (.ref 195), (.int 453 0), (.int 133 0), (.str (Str.ofString "/claim/cut.py") 454)]), #[]⟩
noncomputable abbrev o_197 (P : Params) : Obj := ⟨(.type "function"), none, .func (FuncData.mk (Str.ofString "is_over") (Str.ofString "PatternReader.is_over") (fP 28 2) (.stmts (fB 28 2)) (fS 28 2) 3 [] .none .none .none (.str (Str.ofString "recore.reader") 402) none (.ref 196) .none 0), #[]⟩
noncomputable abbrev o_198 (P : Params) : Obj := ⟨(.type "tuple"), none, (.seq #[] 0), #[]⟩
noncomputable abbrev o_199 (P : Params) : Obj := ⟨.none, none, (.fields #[]), #[]⟩
noncomputable abbrev o_200 (P : Params) : Obj := ⟨(.type "tuple"), none, (.seq #[(.str (Str.ofString "self") 459)] 0), #[]⟩
noncomputable abbrev o_201 (P : Params) : Obj := ⟨(.type "tuple"), none, (.seq #[] 0), #[]⟩
noncomputable abbrev o_202 (P : Params) : Obj := ⟨.none, none, .func (FuncData.mk (Str.ofString "peek") (Str.ofString "PatternReader.peek") (fP 28 3) (.stmts (fB 28 3)) (fS 28 3) 0 [] .none .none .none .none none .none .none 0), #[]⟩
noncomputable abbrev o_203 (P : Params) : Obj := ⟨(.type "code"), none, (.fields #[(.str (Str.ofString "peek") 456), (.str (Str.ofString "PatternReader.peek") 457), (.str (Str.ofString "/claim/cut.py") 458), (.int 136 0), (.int 1 0), (.int 0 0), (.int 0 0), (.int 3 0), (.ref 198), (.bool true), (.int 181 0), (.ref 199), .none, (.ref 200), (.ref 201), (.ref 202), (.int 460 0), (.int 136 0), (.str (Str.ofString "/claim/cut.py") 461)]), #[]⟩
noncomputable abbrev o_204 (P : Params) : Obj := ⟨(.type "function"), none, .func (FuncData.mk (Str.ofString "peek") (Str.ofString "PatternReader.peek") (fP 28 3) (.stmts (fB 28 3)) (fS 28 3) 3 [] .none .none .none (.str (Str.ofString "recore.reader") 402) none (.ref 203) .none 0), #[]⟩
noncomputable abbrev o_205 (P : Params) : Obj := ⟨(.type "tuple"), none, (.seq #[] 0), #[]⟩
noncomputable abbrev o_206 (P : Params) : Obj := ⟨.none, none, (.fields #[]), #[]⟩
noncomputable abbrev o_207 (P : Params) : Obj := ⟨(.type "tuple"), none, (.seq #[(.str (Str.ofString "self") 466), (.str (Str.ofString "rune") 467), (.str (Str.ofString "many") 468)] 0), #[]⟩
noncomputable abbrev o_208 (P : Params) : Obj := ⟨(.type "tuple"), none, (.seq #[] 0), #[]⟩
noncomputable abbrev o_209 (P : Params) : Obj := ⟨.none, none, .func (FuncData.mk (Str.ofString "take") (Str.ofString "PatternReader.take") (fP 28 4) (.stmts (fB 28 4)) (fS 28 4) 0 [] .none .none .none .none none .none .none 0), #[]⟩
noncomputable abbrev o_210 (P : Params) : Obj := ⟨(.type "code"), none, (.fields #[(.str (Str.ofString "take") 463), (.str (Str.ofString "PatternReader.take") 464), (.str (Str.ofString "/claim/cut.py") 465), (.int 141 0), (.int 1 0), (.int 0 0), (.int 0 0), (.int 3 0), (.ref 205), (.bool true), (.int 181 0), (.ref 206), .none, (.ref 207), (.ref 208), (.ref 209), (.int 469 0), (.int 141 0), (.str (Str.ofString "/claim/cut.py") 470)]), #[]⟩
noncomputable abbrev o_211 (P : Params) : Obj := ⟨(.type "function"), none, .func (FuncData.mk (Str.ofString "take") (Str.ofString "PatternReader.take") (fP 28 4) (.stmts (fB 28 4)) (fS 28 4) 3 [] .none .none .none (.str (Str.ofString "recore.reader") 402) none (.ref 210) .none 0), #[]⟩
noncomputable abbrev o_212 (P : Params) : Obj := ⟨(.type "tuple"), none, (.seq #[] 0), #[]⟩
noncomputable abbrev o_213 (P : Params) : Obj := ⟨.none, none, (.fields #[]), #[]⟩
noncomputable abbrev o_214 (P : Params) : Obj := ⟨(.type "tuple"), none, (.seq #[(.str (Str.ofString "self") 475), (.str (Str.ofString "octets") 476)] 0), #[]⟩
noncomputable abbrev o_215 (P : Params) : Obj := ⟨(.type "tuple"), none, (.seq #[] 0), #[]⟩
noncomputable abbrev o_216 (P : Params) : Obj := ⟨.none, none, .func (FuncData.mk (Str.ofString "starts") (Str.ofString "PatternReader.starts") (fP 28 5) (.stmts (fB 28 5)) (fS 28 5) 0 [] .none .none .none .none none .none .none 0), #[]⟩
noncomputable abbrev o_217 (P : Params) : Obj := ⟨(.type "code"), none, (.fields #[(.str (Str.ofString "starts") 472), (.str (Str.ofString "PatternReader.starts") 473), (.str (Str.ofString "/claim/cut.py") 474), (.int 148 0), (.int 2 0), (.int 0 0), (.int 0 0), (.int 3 0), (.ref 212), (.bool true), (.int 181 0), (.ref 213), .none, (.ref 214), (.ref 215), (.ref 216), (.int 477 0), (.int 148 0), (.str (Str.ofString "/claim/cut.py") 478)]), #[]⟩
noncomputable abbrev o_218 (P : Params) : Obj := ⟨(.type "function"), none, .func (FuncData.mk (Str.ofString "starts") (Str.ofString "PatternReader.starts") (fP 28 5) (.stmts (fB 28 5)) (fS 28 5) 3 [] .none .none .none (.str (Str.ofString "recore.reader") 402) none (.ref 217) .none 0), #[]⟩
noncomputable abbrev o_219 (P : Params) : Obj := ⟨(.type "tuple"), none, (.seq #[] 0), #[]⟩
noncomputable abbrev o_220 (P : Params) : Obj := ⟨.none, none, (.fields #[]), #[]⟩
noncomputable abbrev o_221 (P : Params) : Obj := ⟨(.type "tuple"), none, (.seq #[(.str (Str.ofString "self") 483), (.str (Str.ofString "many") 484)] 0), #[]⟩
noncomputable abbrev o_222 (P : Params) : Obj := ⟨(.type "tuple"), none, (.seq #[] 0), #[]⟩
noncomputable abbrev o_223 (P : Params) : Obj := ⟨.none, none, .func (FuncData.mk (Str.ofString "skip") (Str.ofString "PatternReader.skip") (fP 28 6) (.stmts (fB 28 6)) (fS 28 6) 0 [] .none .none .none .none none .none .none 0), #[]⟩
noncomputable abbrev o_224 (P : Params) : Obj := ⟨(.type "code"), none, (.fields #[(.str (Str.ofString "skip") 480), (.str (Str.ofString "PatternReader.skip") 481), (.str (Str.ofString "/claim/cut.py") 482), (.int 151 0), (.int 2 0), (.int 0 0), (.int 0 0), (.int 3 0), (.ref 219), (.bool true), (.int 181 0), (.ref 220), .none, (.ref 221), (.ref 222), (.ref 223), (.int 485 0), (.int 151 0), (.str (Str.ofString "/claim/cut.py") 486)]), #[]⟩
noncomputable abbrev o_225 (P : Params) : Obj := ⟨(.type "function"), none, .func (FuncData.mk (Str.ofString "skip") (Str.ofString "PatternReader.skip") (fP 28 6) (.stmts (fB 28 6)) (fS 28 6) 3 [] .none .none .none (.str (Str.ofString "recore.reader") 402) none (.ref 224) .none 0), #[]⟩
noncomputable abbrev o_226 (P : Params) : Obj := ⟨(.type "tuple"), none, (.seq #[] 0), #[]⟩
noncomputable abbrev o_227 (P : Params) : Obj := ⟨.none, none, (.fields #[]), #[]⟩
noncomputable abbrev o_228 (P : Params) : Obj := ⟨(.type "tuple"), none, (.seq #[(.str (Str.ofString "self") 491)] 0), #[]⟩
noncomputable abbrev o_229 (P : Params) : Obj := ⟨(.type "tuple"), none, (.seq #[] 0), #[]⟩
noncomputable abbrev o_230 (P : Params) : Obj := ⟨.none, none, .func (FuncData.mk (Str.ofString "rest") (Str.ofString "PatternReader.rest") (fP 28 7) (.stmts (fB 28 7)) (fS 28 7) 0 [] .none .none .none .none none .none .none 0), #[]⟩
noncomputable abbrev o_231 (P : Params) : Obj := ⟨(.type "code"), none, (.fields #[(.str (Str.ofString "rest") 488), (.str (Str.ofString "PatternReader.rest") 489), (.str (Str.ofString "/claim/cut.py") 490), (.int 154 0), (.int 1 0), (.int 0 0), (.int 0 0), (.int 3 0), (.ref 226), (.bool true), (.int 181 0), (.ref 227), .none, (.ref 228), (.ref 229), (.ref 230), (.int 492 0), (.int 154 0), (.str (Str.ofString "/claim/cut.py") 493)]), #[]⟩
noncomputable abbrev o_232 (P : Params) : Obj := ⟨(.type "function"), none, .func (FuncData.mk (Str.ofString "rest") (Str.ofString "PatternReader.rest") (fP 28 7) (.stmts (fB 28 7)) (fS 28 7) 3 [] .none .none .none (.str (Str.ofString "recore.reader") 402) none (.ref 231) .none 0), #[]⟩
noncomputable abbrev o_233 (P : Params) : Obj := ⟨(.type "tuple"), none, (.seq #[(.str (Str.ofString "at") 495), (.str (Str.ofString "is_latin1") 496), (.str (Str.ofString "octets") 497)] 0), #[]⟩
noncomputable abbrev o_234 (P : Params) : Obj := ⟨(.type "dict"), none, (.dict #[⟨(PyData.keyHash P (Str.ofString "__module__")), (.str (Str.ofString "__module__") 435), (.str (Str.ofString "recore.reader") 402)⟩, ⟨(PyData.keyHash P (Str.ofString "__firstlineno__")), (.str (Str.ofString "__firstlineno__") 439), (.int 126 438)⟩, ⟨(PyData.keyHash P (Str.ofString "__init__")), (.str (Str.ofString "__init__") 448), (.ref 190)⟩, ⟨(PyData.keyHash P (Str.ofString "is_over")), (.str (Str.ofString "is_over") 455), (.ref 197)⟩, ⟨(PyData.keyHash P (Str.ofString "peek")), (.str (Str.ofString "peek") 462), (.ref 204)⟩, ⟨(PyData.keyHash P (Str.ofString "take")), (.str (Str.ofString "take") 471), (.ref 211)⟩, ⟨(PyData.keyHash P (Str.ofString "starts")), (.str (Str.ofString "starts") 479), (.ref 218)⟩, ⟨(PyData.keyHash P (Str.ofString "skip")), (.str (Str.ofString "skip") 487), (.ref 225)⟩, ⟨(PyData.keyHash P (Str.ofString "rest")), (.str (Str.ofString "rest") 494), (.ref 232)⟩, ⟨(PyData.keyHash P (Str.ofString "__static_attributes__")), (.str (Str.ofString "__static_attributes__") 498), (.ref 233)⟩, ⟨(PyData.keyHash P (Str.ofString "__dict__")), (.str (Str.ofString "__dict__") 500), (.ref 236)⟩, ⟨(PyData.keyHash P (Str.ofString "__weakref__")), (.str (Str.ofString "__weakref__") 502), (.ref 237)⟩, ⟨(PyData.keyHash P (Str.ofString "__doc__")), (.str (Str.ofString "__doc__") 503), .none⟩] 4), #[]⟩
noncomputable abbrev o_235 (P : Params) : Obj := ⟨(.type "type"), none, (.cls (ClassData.mk (Str.ofString "PatternReader") [(.type "object")] [(.ref 235), (.type "object")] 234 (Str.ofString "PatternReader") true [] [] false none false)), #[none, none, (some (.str (Str.ofString "PatternReader") 428)), (some (.str (Str.ofString "PatternReader") 436)), (some (.builtin "object.__new__")), (some (.bool true))]⟩
noncomputable abbrev o_236 (P : Params) : Obj := ⟨(.type "getset_descriptor"), none, (.fields #[(.str (Str.ofString "__dict__") 499), (.ref 235), (.builtin "function.__dict__"), (.builtin "function.__dict__#set")]), #[]⟩
noncomputable abbrev o_237 (P : Params) : Obj := ⟨(.type "getset_descriptor"), none, (.fields #[(.str (Str.ofString "__weakref__") 501), (.ref 235), (.builtin "ExceptionGroup.__weakref__"), .none]), #[]⟩
noncomputable abbrev o_238 (P : Params) : Obj := ⟨(.type "super"), none, (.fields #[(.ref 235), (.ref 235), (.ref 235)]), #[]⟩
noncomputable abbrev o_239 (P : Params) : Obj := ⟨(.type "builtin_function_or_method"), none, (.fields #[(.builtin "object.__init_subclass__"), (.ref 235)]), #[]⟩
noncomputable abbrev o_240 (P : Params) : Obj := ⟨(.type "tuple"), none, (.seq #[] 0), #[]⟩
noncomputable abbrev o_241 (P : Params) : Obj := ⟨.none, none, (.fields #[]), #[]⟩
noncomputable abbrev o_242 (P : Params) : Obj := ⟨(.type "tuple"), none, (.seq #[(.str (Str.ofString "octet") 509)] 0), #[]⟩
noncomputable abbrev o_243 (P : Params) : Obj := ⟨(.type "tuple"), none, (.seq #[] 0), #[]⟩
noncomputable abbrev o_244 (P : Params) : Obj := ⟨.none, none, .func (FuncData.mk (Str.ofString "reader_hex") (Str.ofString "reader_hex") (fP 29 0) (.stmts (fB 29 0)) (fS 29 0) 0 [] .none .none .none .none none .none .none 0), #[]⟩
noncomputable abbrev o_245 (P : Params) : Obj := ⟨(.type "code"), none, (.fields #[(.str (Str.ofString "reader_hex") 506), (.str (Str.ofString "reader_hex") 507), (.str (Str.ofString "/claim/cut.py") 508), (.int 156 0), (.int 1 0), (.int 0 0), (.int 0 0), (.int 3 0), (.ref 240), (.bool true), (.int 181 0), (.ref 241), .none, (.ref 242), (.ref 243), (.ref 244), (.int 510 0), (.int 156 0), (.str (Str.ofString "/claim/cut.py") 511)]), #[]⟩
noncomputable abbrev o_246 (P : Params) : Obj := ⟨(.type "function"), none, .func (FuncData.mk (Str.ofString "reader_hex") (Str.ofString "reader_hex") (fP 29 0) (.stmts (fB 29 0)) (fS 29 0) 3 [] .none .none .none (.str (Str.ofString "recore.reader") 402) none (.ref 245) .none 0), #[]⟩
noncomputable abbrev o_247 (P : Params) : Obj := ⟨(.type "tuple"), none, (.seq #[] 0), #[]⟩
noncomputable abbrev o_248 (P : Params) : Obj := ⟨.none, none, (.fields #[]), #[]⟩
noncomputable abbrev o_249 (P : Params) : Obj := ⟨(.type "tuple"), none, (.seq #[(.str (Str.ofString "reader") 516), (.str (Str.ofString "begin") 517), (.str (Str.ofString "octets") 518), (.str (Str.ofString "rune") 519), (.str (Str.ofString "many") 520), (.str (Str.ofString "at") 521), (.str (Str.ofString "found") 522)] 0), #[]⟩
noncomputable abbrev o_250 (P : Params) : Obj := ⟨(.type "tuple"), none, (.seq #[] 0), #[]⟩
noncomputable abbrev o_251 (P : Params) : Obj := ⟨.none, none, .func (FuncData.mk (Str.ofString "read_escape") (Str.ofString "read_escape") (fP 30 0) (.stmts (fB 30 0)) (fS 30 0) 0 [] .none .none .none .none none .none .none 0), #[]⟩
noncomputable abbrev o_252 (P : Params) : Obj := ⟨(.type "code"), none, (.fields #[(.str (Str.ofString "read_escape") 513), (.str (Str.ofString "read_escape") 514), (.str (Str.ofString "/claim/cut.py") 515), (.int 164 0), (.int 1 0), (.int 0 0), (.int 0 0), (.int 3 0), (.ref 247), (.bool true), (.int 181 0), (.ref 248), .none, (.ref 249), (.ref 250), (.ref 251), (.int 523 0), (.int 164 0), (.str (Str.ofString "/claim/cut.py") 524)]), #[]⟩
noncomputable abbrev o_253 (P : Params) : Obj := ⟨(.type "function"), none, .func (FuncData.mk (Str.ofString "read_escape") (Str.ofString "read_escape") (fP 30 0) (.stmts (fB 30 0)) (fS 30 0) 3 [] .none .none .none (.str (Str.ofString "recore.reader") 402) none (.ref 252) .none 0), #[]⟩
noncomputable abbrev o_254 (P : Params) : Obj := ⟨(.type "tuple"), none, (.seq #[] 0), #[]⟩
noncomputable abbrev o_255 (P : Params) : Obj := ⟨.none, none, (.fields #[]), #[]⟩
noncomputable abbrev o_256 (P : Params) : Obj := ⟨(.type "tuple"), none, (.seq #[(.str (Str.ofString "reader") 529)] 0), #[]⟩
noncomputable abbrev o_257 (P : Params) : Obj := ⟨(.type "tuple"), none, (.seq #[] 0), #[]⟩
noncomputable abbrev o_258 (P : Params) : Obj := ⟨.none, none, .func (FuncData.mk (Str.ofString "escape_top") (Str.ofString "escape_top") (fP 31 0) (.stmts (fB 31 0)) (fS 31 0) 0 [] .none .none .none .none none .none .none 0), #[]⟩
noncomputable abbrev o_259 (P : Params) : Obj := ⟨(.type "code"), none, (.fields #[(.str (Str.ofString "escape_top") 526), (.str (Str.ofString "escape_top") 527), (.str (Str.ofString "/claim/cut.py") 528), (.int 180 0), (.int 1 0), (.int 0 0), (.int 0 0), (.int 3 0), (.ref 254), (.bool true), (.int 181 0), (.ref 255), .none, (.ref 256), (.ref 257), (.ref 258), (.int 530 0), (.int 180 0), (.str (Str.ofString "/claim/cut.py") 531)]), #[]⟩
noncomputable abbrev o_260 (P : Params) : Obj := ⟨(.type "function"), none, .func (FuncData.mk (Str.ofString "escape_top") (Str.ofString "escape_top") (fP 31 0) (.stmts (fB 31 0)) (fS 31 0) 3 [] .none .none .none (.str (Str.ofString "recore.reader") 402) none (.ref 259) .none 0), #[]⟩
noncomputable abbrev o_261 (P : Params) : Obj := ⟨(.type "tuple"), none, (.seq #[] 0), #[]⟩
noncomputable abbrev o_262 (P : Params) : Obj := ⟨.none, none, (.fields #[]), #[]⟩
noncomputable abbrev o_263 (P : Params) : Obj := ⟨(.type "tuple"), none, (.seq #[(.str (Str.ofString "rune") 536), (.str (Str.ofString "letter") 537), (.str (Str.ofString "value") 538)] 0), #[]⟩
noncomputable abbrev o_264 (P : Params) : Obj := ⟨(.type "tuple"), none, (.seq #[] 0), #[]⟩
noncomputable abbrev o_265 (P : Params) : Obj := ⟨.none, none, .func (FuncData.mk (Str.ofString "escape_sign") (Str.ofString "escape_sign") (fP 32 0) (.stmts (fB 32 0)) (fS 32 0) 0 [] .none .none .none .none none .none .none 0), #[]⟩
noncomputable abbrev o_266 (P : Params) : Obj := ⟨(.type "code"), none, (.fields #[(.str (Str.ofString "escape_sign") 533), (.str (Str.ofString "escape_sign") 534), (.str (Str.ofString "/claim/cut.py") 535), (.int 182 0), (.int 1 0), (.int 0 0), (.int 0 0), (.int 3 0), (.ref 261), (.bool true), (.int 181 0), (.ref 262), .none, (.ref 263), (.ref 264), (.ref 265), (.int 539 0), (.int 182 0), (.str (Str.ofString "/claim/cut.py") 540)]), #[]⟩
noncomputable abbrev o_267 (P : Params) : Obj := ⟨(.type "function"), none, .func (FuncData.mk (Str.ofString "escape_sign") (Str.ofString "escape_sign") (fP 32 0) (.stmts (fB 32 0)) (fS 32 0) 3 [] .none .none .none (.str (Str.ofString "recore.reader") 402) none (.ref 266) .none 0), #[]⟩
noncomputable abbrev o_268 (P : Params) : Obj := ⟨(.type "tuple"), none, (.seq #[] 0), #[]⟩
noncomputable abbrev o_269 (P : Params) : Obj := ⟨.none, none, (.fields #[]), #[]⟩
noncomputable abbrev o_270 (P : Params) : Obj := ⟨(.type "tuple"), none, (.seq #[(.str (Str.ofString "octets") 545), (.str (Str.ofString "at") 546), (.str (Str.ofString "rune") 547), (.str (Str.ofString "found") 548), (.str (Str.ofString "begin") 549)] 0), #[]⟩
noncomputable abbrev o_271 (P : Params) : Obj := ⟨(.type "tuple"), none, (.seq #[] 0), #[]⟩
noncomputable abbrev o_272 (P : Params) : Obj := ⟨.none, none, .func (FuncData.mk (Str.ofString "escape_octal") (Str.ofString "escape_octal") (fP 33 0) (.stmts (fB 33 0)) (fS 33 0) 0 [] .none .none .none .none none .none .none 0), #[]⟩
noncomputable abbrev o_273 (P : Params) : Obj := ⟨(.type "code"), none, (.fields #[(.str (Str.ofString "escape_octal") 542), (.str (Str.ofString "escape_octal") 543), (.str (Str.ofString "/claim/cut.py") 544), (.int 189 0), (.int 3 0), (.int 0 0), (.int 0 0), (.int 3 0), (.ref 268), (.bool true), (.int 181 0), (.ref 269), .none, (.ref 270), (.ref 271), (.ref 272), (.int 550 0), (.int 189 0), (.str (Str.ofString "/claim/cut.py") 551)]), #[]⟩
noncomputable abbrev o_274 (P : Params) : Obj := ⟨(.type "function"), none, .func (FuncData.mk (Str.ofString "escape_octal") (Str.ofString "escape_octal") (fP 33 0) (.stmts (fB 33 0)) (fS 33 0) 3 [] .none .none .none (.str (Str.ofString "recore.reader") 402) none (.ref 273) .none 0), #[]⟩
noncomputable abbrev o_275 (P : Params) : Obj := ⟨(.type "tuple"), none, (.seq #[] 0), #[]⟩
noncomputable abbrev o_276 (P : Params) : Obj := ⟨.none, none, (.fields #[]), #[]⟩
noncomputable abbrev o_277 (P : Params) : Obj := ⟨(.type "tuple"), none, (.seq #[(.str (Str.ofString "octets") 556), (.str (Str.ofString "at") 557), (.str (Str.ofString "top") 558), (.str (Str.ofString "high") 559), (.str (Str.ofString "low") 560)] 0), #[]⟩
noncomputable abbrev o_278 (P : Params) : Obj := ⟨(.type "tuple"), none, (.seq #[] 0), #[]⟩
noncomputable abbrev o_279 (P : Params) : Obj := ⟨.none, none, .func (FuncData.mk (Str.ofString "escape_hex") (Str.ofString "escape_hex") (fP 34 0) (.stmts (fB 34 0)) (fS 34 0) 0 [] .none .none .none .none none .none .none 0), #[]⟩
noncomputable abbrev o_280 (P : Params) : Obj := ⟨(.type "code"), none, (.fields #[(.str (Str.ofString "escape_hex") 553), (.str (Str.ofString "escape_hex") 554), (.str (Str.ofString "/claim/cut.py") 555), (.int 199 0), (.int 3 0), (.int 0 0), (.int 0 0), (.int 3 0), (.ref 275), (.bool true), (.int 181 0), (.ref 276), .none, (.ref 277), (.ref 278), (.ref 279), (.int 561 0), (.int 199 0), (.str (Str.ofString "/claim/cut.py") 562)]), #[]⟩
noncomputable abbrev o_281 (P : Params) : Obj := ⟨(.type "function"), none, .func (FuncData.mk (Str.ofString "escape_hex") (Str.ofString "escape_hex") (fP 34 0) (.stmts (fB 34 0)) (fS 34 0) 3 [] .none .none .none (.str (Str.ofString "recore.reader") 402) none (.ref 280) .none 0), #[]⟩
noncomputable abbrev o_282 (P : Params) : Obj := ⟨(.type "tuple"), none, (.seq #[] 0), #[]⟩
noncomputable abbrev o_283 (P : Params) : Obj := ⟨.none, none, (.fields #[]), #[]⟩
noncomputable abbrev o_284 (P : Params) : Obj := ⟨(.type "tuple"), none, (.seq #[(.str (Str.ofString "octets") 567), (.str (Str.ofString "at") 568), (.str (Str.ofString "top") 569), (.str (Str.ofString "found") 570), (.str (Str.ofString "begin") 571)] 0), #[]⟩
noncomputable abbrev o_285 (P : Params) : Obj := ⟨(.type "tuple"), none, (.seq #[] 0), #[]⟩
noncomputable abbrev o_286 (P : Params) : Obj := ⟨.none, none, .func (FuncData.mk (Str.ofString "escape_braced") (Str.ofString "escape_braced") (fP 35 0) (.stmts (fB 35 0)) (fS 35 0) 0 [] .none .none .none .none none .none .none 0), #[]⟩
noncomputable abbrev o_287 (P : Params) : Obj := ⟨(.type "code"), none, (.fields #[(.str (Str.ofString "escape_braced") 564), (.str (Str.ofString "escape_braced") 565), (.str (Str.ofString "/claim/cut.py") 566), (.int 208 0), (.int 3 0), (.int 0 0), (.int 0 0), (.int 3 0), (.ref 282), (.bool true), (.int 181 0), (.ref 283), .none, (.ref 284), (.ref 285), (.ref 286), (.int 572 0), (.int 208 0), (.str (Str.ofString "/claim/cut.py") 573)]), #[]⟩
noncomputable abbrev o_288 (P : Params) : Obj := ⟨(.type "function"), none, .func (FuncData.mk (Str.ofString "escape_braced") (Str.ofString "escape_braced") (fP 35 0) (.stmts (fB 35 0)) (fS 35 0) 3 [] .none .none .none (.str (Str.ofString "recore.reader") 402) none (.ref 287) .none 0), #[]⟩
noncomputable abbrev o_289 (P : Params) : Obj := ⟨(.type "tuple"), none, (.seq #[] 0), #[]⟩
noncomputable abbrev o_290 (P : Params) : Obj := ⟨.none, none, (.fields #[]), #[]⟩
noncomputable abbrev o_291 (P : Params) : Obj := ⟨(.type "tuple"), none, (.seq #[] 0), #[]⟩
noncomputable abbrev o_292 (P : Params) : Obj := ⟨(.type "tuple"), none, (.seq #[] 0), #[]⟩
noncomputable abbrev o_293 (P : Params) : Obj := ⟨.none, none, .func (FuncData.mk (Str.ofString "_law_forms") (Str.ofString "_law_forms") (fP 37 0) (.stmts (fB 37 0)) (fS 37 0) 0 [] .none .none .none .none none .none .none 0), #[]⟩
noncomputable abbrev o_294 (P : Params) : Obj := ⟨(.type "code"), none, (.fields #[(.str (Str.ofString "_law_forms") 577), (.str (Str.ofString "_law_forms") 578), (.str (Str.ofString "/claim/cut.py") 579), (.int 217 0), (.int 0 0), (.int 0 0), (.int 0 0), (.int 3 0), (.ref 289), (.bool true), (.int 181 0), (.ref 290), .none, (.ref 291), (.ref 292), (.ref 293), (.int 580 0), (.int 217 0), (.str (Str.ofString "/claim/cut.py") 581)]), #[]⟩
noncomputable abbrev o_295 (P : Params) : Obj := ⟨(.type "function"), none, .func (FuncData.mk (Str.ofString "_law_forms") (Str.ofString "_law_forms") (fP 37 0) (.stmts (fB 37 0)) (fS 37 0) 3 [] .none .none .none (.str (Str.ofString "law_sj0126_01") 575) none (.ref 294) .none 0), #[]⟩
noncomputable abbrev o_296 (P : Params) : Obj := ⟨(.type "tuple"), none, (.seq #[] 0), #[]⟩
noncomputable abbrev o_297 (P : Params) : Obj := ⟨.none, none, (.fields #[]), #[]⟩
noncomputable abbrev o_298 (P : Params) : Obj := ⟨(.type "tuple"), none, (.seq #[] 0), #[]⟩
noncomputable abbrev o_299 (P : Params) : Obj := ⟨(.type "tuple"), none, (.seq #[] 0), #[]⟩
noncomputable abbrev o_300 (P : Params) : Obj := ⟨.none, none, .func (FuncData.mk (Str.ofString "_law_rest") (Str.ofString "_law_rest") (fP 38 0) (.stmts (fB 38 0)) (fS 38 0) 0 [] .none .none .none .none none .none .none 0), #[]⟩
noncomputable abbrev o_301 (P : Params) : Obj := ⟨(.type "code"), none, (.fields #[(.str (Str.ofString "_law_rest") 583), (.str (Str.ofString "_law_rest") 584), (.str (Str.ofString "/claim/cut.py") 585), (.int 219 0), (.int 0 0), (.int 0 0), (.int 0 0), (.int 3 0), (.ref 296), (.bool true), (.int 181 0), (.ref 297), .none, (.ref 298), (.ref 299), (.ref 300), (.int 586 0), (.int 219 0), (.str (Str.ofString "/claim/cut.py") 587)]), #[]⟩
noncomputable abbrev o_302 (P : Params) : Obj := ⟨(.type "function"), none, .func (FuncData.mk (Str.ofString "_law_rest") (Str.ofString "_law_rest") (fP 38 0) (.stmts (fB 38 0)) (fS 38 0) 3 [] .none .none .none (.str (Str.ofString "law_sj0126_01") 575) none (.ref 301) .none 0), #[]⟩
noncomputable abbrev o_303 (P : Params) : Obj := ⟨(.type "tuple"), none, (.seq #[] 0), #[]⟩
noncomputable abbrev o_304 (P : Params) : Obj := ⟨.none, none, (.fields #[]), #[]⟩
noncomputable abbrev o_305 (P : Params) : Obj := ⟨(.type "tuple"), none, (.seq #[(.str (Str.ofString "number") 592), (.str (Str.ofString "bases") 593), (.str (Str.ofString "found") 594), (.str (Str.ofString "base") 595)] 0), #[]⟩
noncomputable abbrev o_306 (P : Params) : Obj := ⟨(.type "tuple"), none, (.seq #[] 0), #[]⟩
noncomputable abbrev o_307 (P : Params) : Obj := ⟨.none, none, .func (FuncData.mk (Str.ofString "_law_digits") (Str.ofString "_law_digits") (fP 39 0) (.stmts (fB 39 0)) (fS 39 0) 0 [] .none .none .none .none none .none .none 0), #[]⟩
noncomputable abbrev o_308 (P : Params) : Obj := ⟨(.type "code"), none, (.fields #[(.str (Str.ofString "_law_digits") 589), (.str (Str.ofString "_law_digits") 590), (.str (Str.ofString "/claim/cut.py") 591), (.int 221 0), (.int 2 0), (.int 0 0), (.int 0 0), (.int 3 0), (.ref 303), (.bool true), (.int 181 0), (.ref 304), .none, (.ref 305), (.ref 306), (.ref 307), (.int 596 0), (.int 221 0), (.str (Str.ofString "/claim/cut.py") 597)]), #[]⟩
noncomputable abbrev o_309 (P : Params) : Obj := ⟨(.type "function"), none, .func (FuncData.mk (Str.ofString "_law_digits") (Str.ofString "_law_digits") (fP 39 0) (.stmts (fB 39 0)) (fS 39 0) 3 [] .none .none .none (.str (Str.ofString "law_sj0126_01") 575) none (.ref 308) .none 0), #[]⟩
noncomputable abbrev o_310 (P : Params) : Obj := ⟨(.type "tuple"), none, (.seq #[] 0), #[]⟩
noncomputable abbrev o_311 (P : Params) : Obj := ⟨.none, none, (.fields #[]), #[]⟩
noncomputable abbrev o_312 (P : Params) : Obj := ⟨(.type "tuple"), none, (.seq #[(.str (Str.ofString "rewrite") 602), (.str (Str.ofString "groups") 603), (.str (Str.ofString "found") 604), (.str (Str.ofString "is_behind") 605), (.str (Str.ofString "octet") 606)] 0), #[]⟩
noncomputable abbrev o_313 (P : Params) : Obj := ⟨(.type "tuple"), none, (.seq #[] 0), #[]⟩
noncomputable abbrev o_314 (P : Params) : Obj := ⟨.none, none, .func (FuncData.mk (Str.ofString "_law_read") (Str.ofString "_law_read") (fP 40 0) (.stmts (fB 40 0)) (fS 40 0) 0 [] .none .none .none .none none .none .none 0), #[]⟩
noncomputable abbrev o_315 (P : Params) : Obj := ⟨(.type "code"), none, (.fields #[(.str (Str.ofString "_law_read") 599), (.str (Str.ofString "_law_read") 600), (.str (Str.ofString "/claim/cut.py") 601), (.int 227 0), (.int 2 0), (.int 0 0), (.int 0 0), (.int 3 0), (.ref 310), (.bool true), (.int 181 0), (.ref 311), .none, (.ref 312), (.ref 313), (.ref 314), (.int 607 0), (.int 227 0), (.str (Str.ofString "/claim/cut.py") 608)]), #[]⟩
noncomputable abbrev o_316 (P : Params) : Obj := ⟨(.type "function"), none, .func (FuncData.mk (Str.ofString "_law_read") (Str.ofString "_law_read") (fP 40 0) (.stmts (fB 40 0)) (fS 40 0) 3 [] .none .none .none (.str (Str.ofString "law_sj0126_01") 575) none (.ref 315) .none 0), #[]⟩
noncomputable abbrev o_317 (P : Params) : Obj := ⟨(.type "tuple"), none, (.seq #[] 0), #[]⟩
noncomputable abbrev o_318 (P : Params) : Obj := ⟨.none, none, (.fields #[]), #[]⟩
noncomputable abbrev o_319 (P : Params) : Obj := ⟨.none, none, .func (FuncData.mk (Str.ofString "_law_form") (Str.ofString "_law_form") (fP 41 0) (.stmts (fB 41 0)) (fS 41 0) 0 [] .none .none .none .none none .none .none 0), #[]⟩
noncomputable abbrev o_320 (P : Params) : Obj := ⟨(.type "code"), none, (.fields #[(.str (Str.ofString "_law_form") 610), (.str (Str.ofString "_law_form") 611), (.str (Str.ofString "/claim/cut.py") 612), (.int 238 0), (.int 2 0), (.int 0 0), (.int 0 0), (.int 3 0), (.ref 317), (.bool true), (.int 181 0), (.ref 318), .none, .none, .none, (.ref 319), (.int 613 0), (.int 238 0), (.str (Str.ofString "/claim/cut.py") 614)]), #[]⟩
noncomputable abbrev o_321 (P : Params) : Obj := ⟨(.type "function"), none, .func (FuncData.mk (Str.ofString "_law_form") (Str.ofString "_law_form") (fP 41 0) (.stmts (fB 41 0)) (fS 41 0) 3 [] .none .none .none (.str (Str.ofString "law_sj0126_01") 575) none (.ref 320) .none 0), #[]⟩
noncomputable abbrev o_322 (P : Params) : Obj := ⟨(.type "tuple"), none, (.seq #[] 0), #[]⟩
noncomputable abbrev o_323 (P : Params) : Obj := ⟨.none, none, (.fields #[]), #[]⟩
noncomputable abbrev o_324 (P : Params) : Obj := ⟨(.type "tuple"), none, (.seq #[(.str (Str.ofString "octets") 619), (.str (Str.ofString "is_latin1") 620), (.str (Str.ofString "found") 621), (.str (Str.ofString "at") 622), (.str (Str.ofString "many") 623), (.str (Str.ofString "rune") 624), (.str (Str.ofString "octet") 625)] 0), #[]⟩
noncomputable abbrev o_325 (P : Params) : Obj := ⟨(.type "tuple"), none, (.seq #[] 0), #[]⟩
noncomputable abbrev o_326 (P : Params) : Obj := ⟨.none, none, .func (FuncData.mk (Str.ofString "_law_runes") (Str.ofString "_law_runes") (fP 42 0) (.stmts (fB 42 0)) (fS 42 0) 0 [] .none .none .none .none none .none .none 0), #[]⟩
noncomputable abbrev o_327 (P : Params) : Obj := ⟨(.type "code"), none, (.fields #[(.str (Str.ofString "_law_runes") 616), (.str (Str.ofString "_law_runes") 617), (.str (Str.ofString "/claim/cut.py") 618), (.int 245 0), (.int 2 0), (.int 0 0), (.int 0 0), (.int 3 0), (.ref 322), (.bool true), (.int 181 0), (.ref 323), .none, (.ref 324), (.ref 325), (.ref 326), (.int 626 0), (.int 245 0), (.str (Str.ofString "/claim/cut.py") 627)]), #[]⟩
noncomputable abbrev o_328 (P : Params) : Obj := ⟨(.type "function"), none, .func (FuncData.mk (Str.ofString "_law_runes") (Str.ofString "_law_runes") (fP 42 0) (.stmts (fB 42 0)) (fS 42 0) 3 [] .none .none .none (.str (Str.ofString "law_sj0126_01") 575) none (.ref 327) .none 0), #[]⟩
noncomputable abbrev o_329 (P : Params) : Obj := ⟨(.type "tuple"), none, (.seq #[] 0), #[]⟩
noncomputable abbrev o_330 (P : Params) : Obj := ⟨.none, none, (.fields #[]), #[]⟩
noncomputable abbrev o_331 (P : Params) : Obj := ⟨(.type "tuple"), none, (.seq #[(.str (Str.ofString "octet") 632)] 0), #[]⟩
noncomputable abbrev o_332 (P : Params) : Obj := ⟨(.type "tuple"), none, (.seq #[] 0), #[]⟩
noncomputable abbrev o_333 (P : Params) : Obj := ⟨.none, none, .func (FuncData.mk (Str.ofString "_law_is_word") (Str.ofString "_law_is_word") (fP 43 0) (.stmts (fB 43 0)) (fS 43 0) 0 [] .none .none .none .none none .none .none 0), #[]⟩
noncomputable abbrev o_334 (P : Params) : Obj := ⟨(.type "code"), none, (.fields #[(.str (Str.ofString "_law_is_word") 629), (.str (Str.ofString "_law_is_word") 630), (.str (Str.ofString "/claim/cut.py") 631), (.int 257 0), (.int 1 0), (.int 0 0), (.int 0 0), (.int 3 0), (.ref 329), (.bool true), (.int 181 0), (.ref 330), .none, (.ref 331), (.ref 332), (.ref 333), (.int 633 0), (.int 257 0), (.str (Str.ofString "/claim/cut.py") 634)]), #[]⟩
noncomputable abbrev o_335 (P : Params) : Obj := ⟨(.type "function"), none, .func (FuncData.mk (Str.ofString "_law_is_word") (Str.ofString "_law_is_word") (fP 43 0) (.stmts (fB 43 0)) (fS 43 0) 3 [] .none .none .none (.str (Str.ofString "law_sj0126_01") 575) none (.ref 334) .none 0), #[]⟩
noncomputable abbrev o_336 (P : Params) : Obj := ⟨(.type "tuple"), none, (.seq #[] 0), #[]⟩
noncomputable abbrev o_337 (P : Params) : Obj := ⟨.none, none, (.fields #[]), #[]⟩
noncomputable abbrev o_338 (P : Params) : Obj := ⟨(.type "tuple"), none, (.seq #[(.str (Str.ofString "octets") 639), (.str (Str.ofString "is_latin1") 640), (.str (Str.ofString "reader") 641), (.str (Str.ofString "found") 642), (.str (Str.ofString "e") 643)] 0), #[]⟩
noncomputable abbrev o_339 (P : Params) : Obj := ⟨(.type "tuple"), none, (.seq #[] 0), #[]⟩
noncomputable abbrev o_340 (P : Params) : Obj := ⟨.none, none, .func (FuncData.mk (Str.ofString "_law_quoted") (Str.ofString "_law_quoted") (fP 44 0) (.stmts (fB 44 0)) (fS 44 0) 0 [] .none .none .none .none none .none .none 0), #[]⟩
noncomputable abbrev o_341 (P : Params) : Obj := ⟨(.type "code"), none, (.fields #[(.str (Str.ofString "_law_quoted") 636), (.str (Str.ofString "_law_quoted") 637), (.str (Str.ofString "/claim/cut.py") 638), (.int 259 0), (.int 2 0), (.int 0 0), (.int 0 0), (.int 3 0), (.ref 336), (.bool true), (.int 181 0), (.ref 337), .none, (.ref 338), (.ref 339), (.ref 340), (.int 644 0), (.int 259 0), (.str (Str.ofString "/claim/cut.py") 645)]), #[]⟩
noncomputable abbrev o_342 (P : Params) : Obj := ⟨(.type "function"), none, .func (FuncData.mk (Str.ofString "_law_quoted") (Str.ofString "_law_quoted") (fP 44 0) (.stmts (fB 44 0)) (fS 44 0) 3 [] .none .none .none (.str (Str.ofString "law_sj0126_01") 575) none (.ref 341) .none 0), #[]⟩
noncomputable abbrev o_343 (P : Params) : Obj := ⟨(.type "tuple"), none, (.seq #[] 0), #[]⟩
noncomputable abbrev o_344 (P : Params) : Obj := ⟨.none, none, (.fields #[]), #[]⟩
noncomputable abbrev o_345 (P : Params) : Obj := ⟨(.type "tuple"), none, (.seq #[(.str (Str.ofString "rewrite") 650), (.str (Str.ofString "text") 651), (.str (Str.ofString "captures") 652)] 0), #[]⟩
noncomputable abbrev o_346 (P : Params) : Obj := ⟨(.type "tuple"), none, (.seq #[] 0), #[]⟩
noncomputable abbrev o_347 (P : Params) : Obj := ⟨.none, none, .func (FuncData.mk (Str.ofString "_law_rewritten") (Str.ofString "_law_rewritten") (fP 45 0) (.stmts (fB 45 0)) (fS 45 0) 0 [] .none .none .none .none none .none .none 0), #[]⟩
noncomputable abbrev o_348 (P : Params) : Obj := ⟨(.type "code"), none, (.fields #[(.str (Str.ofString "_law_rewritten") 647), (.str (Str.ofString "_law_rewritten") 648), (.str (Str.ofString "/claim/cut.py") 649), (.int 272 0), (.int 3 0), (.int 0 0), (.int 0 0), (.int 3 0), (.ref 343), (.bool true), (.int 181 0), (.ref 344), .none, (.ref 345), (.ref 346), (.ref 347), (.int 653 0), (.int 272 0), (.str (Str.ofString "/claim/cut.py") 654)]), #[]⟩
noncomputable abbrev o_349 (P : Params) : Obj := ⟨(.type "function"), none, .func (FuncData.mk (Str.ofString "_law_rewritten") (Str.ofString "_law_rewritten") (fP 45 0) (.stmts (fB 45 0)) (fS 45 0) 3 [] .none .none .none (.str (Str.ofString "law_sj0126_01") 575) none (.ref 348) .none 0), #[]⟩
noncomputable abbrev o_350 (P : Params) : Obj := ⟨(.type "tuple"), none, (.seq #[] 0), #[]⟩
noncomputable abbrev o_351 (P : Params) : Obj := ⟨.none, none, (.fields #[]), #[]⟩
noncomputable abbrev o_352 (P : Params) : Obj := ⟨.none, none, .func (FuncData.mk (Str.ofString "law") (Str.ofString "law") (fP 46 0) (.stmts (fB 46 0)) (fS 46 0) 0 [] .none .none .none .none none .none .none 0), #[]⟩
noncomputable abbrev o_353 (P : Params) : Obj := ⟨(.type "code"), none, (.fields #[(.str (Str.ofString "law") 656), (.str (Str.ofString "law") 657), (.str (Str.ofString "/claim/cut.py") 658), (.int 277 0), (.int 1 0), (.int 0 0), (.int 0 0), (.int 3 0), (.ref 350), (.bool true), (.int 181 0), (.ref 351), .none, .none, .none, (.ref 352), (.int 659 0), (.int 277 0), (.str (Str.ofString "/claim/cut.py") 660)]), #[]⟩
noncomputable abbrev o_354 (P : Params) : Obj := ⟨(.type "function"), none, .func (FuncData.mk (Str.ofString "law") (Str.ofString "law") (fP 46 0) (.stmts (fB 46 0)) (fS 46 0) 3 [] .none .none .none (.str (Str.ofString "law_sj0126_01") 575) none (.ref 353) .none 0), #[]⟩
noncomputable def heapF (P : Params) : Heap := ⟨⟨boot_o_0 P :: boot_o_1 P :: o_2 P :: o_3 P :: boot_o_4 P :: boot_o_5 P :: boot_o_6 P :: boot_o_7 P :: boot_o_8 P :: boot_o_9 P :: boot_o_10 P :: o_11 P :: o_12 P :: o_13 P :: o_14 P :: o_15 P :: o_16 P :: o_17 P :: o_18 P :: o_19 P :: o_20 P :: o_21 P :: o_22 P :: o_23 P :: o_24 P :: o_25 P :: o_26 P :: o_27 P :: o_28 P :: o_29 P :: o_30 P :: o_31 P :: o_32 P :: o_33 P :: o_34 P :: o_35 P :: o_36 P :: o_37 P :: o_38 P :: o_39 P :: o_40 P :: o_41 P :: o_42 P :: o_43 P :: o_44 P :: o_45 P :: o_46 P :: o_47 P :: o_48 P :: o_49 P :: o_50 P :: o_51 P :: o_52 P :: o_53 P :: o_54 P :: o_55 P :: o_56 P :: o_57 P :: o_58 P :: o_59 P :: o_60 P :: o_61 P :: o_62 P :: o_63 P :: o_64 P :: o_65 P :: o_66 P :: o_67 P :: o_68 P :: o_69 P :: o_70 P :: o_71 P :: o_72 P :: o_73 P :: o_74 P :: o_75 P :: o_76 P :: o_77 P :: o_78 P :: o_79 P :: o_80 P :: o_81 P :: o_82 P :: o_83 P :: o_84 P :: o_85 P :: o_86 P :: o_87 P :: o_88 P :: o_89 P :: o_90 P :: o_91 P :: o_92 P :: o_93 P :: o_94 P :: o_95 P :: o_96 P :: o_97 P :: o_98 P :: o_99 P :: o_100 P :: o_101 P :: o_102 P :: o_103 P :: o_104 P :: o_105 P :: o_106 P :: o_107 P :: o_108 P :: o_109 P :: o_110 P :: o_111 P :: o_112 P :: o_113 P :: o_114 P :: o_115 P :: o_116 P :: o_117 P :: o_118 P :: o_119 P :: o_120 P :: o_121 P :: o_122 P :: o_123 P :: o_124 P :: o_125 P :: o_126 P :: o_127 P :: o_128 P :: o_129 P :: o_130 P :: o_131 P :: o_132 P :: o_133 P :: o_134 P :: o_135 P :: o_136 P :: o_137 P :: o_138 P :: o_139 P :: o_140 P :: o_141 P :: o_142 P :: o_143 P :: o_144 P :: o_145 P :: o_146 P :: o_147 P :: o_148 P :: o_149 P :: o_150 P :: o_151 P :: o_152 P :: o_153 P :: o_154 P :: o_155 P :: o_156 P :: o_157 P :: o_158 P :: o_159 P :: o_160 P :: o_161 P :: o_162 P :: o_163 P :: o_164 P :: o_165 P :: o_166 P :: o_167 P :: o_168 P :: o_169 P :: o_170 P :: o_171 P :: o_172 P :: o_173 P :: o_174 P :: o_175 P :: o_176 P :: o_177 P :: o_178 P :: o_179 P :: o_180 P :: o_181 P :: o_182 P :: o_183 P :: o_184 P :: o_185 P :: o_186 P :: o_187 P :: o_188 P :: o_189 P :: o_190 P :: o_191 P :: o_192 P :: o_193 P :: o_194 P :: o_195 P :: o_196 P :: o_197 P :: o_198 P :: o_199 P :: o_200 P :: o_201 P :: o_202 P :: o_203 P :: o_204 P :: o_205 P :: o_206 P :: o_207 P :: o_208 P :: o_209 P :: o_210 P :: o_211 P :: o_212 P :: o_213 P :: o_214 P :: o_215 P :: o_216 P :: o_217 P :: o_218 P :: o_219 P :: o_220 P :: o_221 P :: o_222 P :: o_223 P :: o_224 P :: o_225 P :: o_226 P :: o_227 P :: o_228 P :: o_229 P :: o_230 P :: o_231 P :: o_232 P :: o_233 P :: o_234 P :: o_235 P :: o_236 P :: o_237 P :: o_238 P :: o_239 P :: o_240 P :: o_241 P :: o_242 P :: o_243 P :: o_244 P :: o_245 P :: o_246 P :: o_247 P :: o_248 P :: o_249 P :: o_250 P :: o_251 P :: o_252 P :: o_253 P :: o_254 P :: o_255 P :: o_256 P :: o_257 P :: o_258 P :: o_259 P :: o_260 P :: o_261 P :: o_262 P :: o_263 P :: o_264 P :: o_265 P :: o_266 P :: o_267 P :: o_268 P :: o_269 P :: o_270 P :: o_271 P :: o_272 P :: o_273 P :: o_274 P :: o_275 P :: o_276 P :: o_277 P :: o_278 P :: o_279 P :: o_280 P :: o_281 P :: o_282 P :: o_283 P :: o_284 P :: o_285 P :: o_286 P :: o_287 P :: o_288 P :: o_289 P :: o_290 P :: o_291 P :: o_292 P :: o_293 P :: o_294 P :: o_295 P :: o_296 P :: o_297 P :: o_298 P :: o_299 P :: o_300 P :: o_301 P :: o_302 P :: o_303 P :: o_304 P :: o_305 P :: o_306 P :: o_307 P :: o_308 P :: o_309 P :: o_310 P :: o_311 P :: o_312 P :: o_313 P :: o_314 P :: o_315 P :: o_316 P :: o_317 P :: o_318 P :: o_319 P :: o_320 P :: o_321 P :: o_322 P :: o_323 P :: o_324 P :: o_325 P :: o_326 P :: o_327 P :: o_328 P :: o_329 P :: o_330 P :: o_331 P :: o_332 P :: o_333 P :: o_334 P :: o_335 P :: o_336 P :: o_337 P :: o_338 P :: o_339 P :: o_340 P :: o_341 P :: o_342 P :: o_343 P :: o_344 P :: o_345 P :: o_346 P :: o_347 P :: o_348 P :: o_349 P :: o_350 P :: o_351 P :: o_352 P :: o_353 P :: o_354 P :: []⟩, { }⟩
noncomputable def treeF (P : Params) : BT := (.node (boot_o_0 P) (.node (boot_o_1 P) (.node (o_3 P) (.node (boot_o_7 P) (.node (o_15 P) (.node (o_31 P) (.node (o_63 P) (.node (o_127 P) (.node (o_255 P) .nil .nil) .nil) (.node (o_191 P) (.node (o_319 P) .nil .nil) .nil)) (.node (o_95 P) (.node (o_159 P) (.node (o_287 P) .nil .nil) .nil) (.node (o_223 P) (.node (o_351 P) .nil .nil) .nil))) (.node (o_47 P) (.node (o_79 P) (.node (o_143 P) (.node (o_271 P) .nil .nil) .nil) (.node (o_207 P) (.node (o_335 P) .nil .nil) .nil)) (.node (o_111 P) (.node (o_175 P) (.node (o_303 P) .nil .nil) .nil) (.node (o_239 P) .nil .nil)))) (.node (o_23 P) (.node (o_39 P) (.node (o_71 P) (.node (o_135 P) (.node (o_263 P) .nil .nil) .nil) (.node (o_199 P) (.node (o_327 P) .nil .nil) .nil)) (.node (o_103 P) (.node (o_167 P) (.node (o_295 P) .nil .nil) .nil) (.node (o_231 P) .nil .nil))) (.node (o_55 P) (.node (o_87 P) (.node (o_151 P) (.node (o_279 P) .nil .nil) .nil) (.node (o_215 P) (.node (o_343 P) .nil .nil) .nil)) (.node (o_119 P) (.node (o_183 P) (.node (o_311 P) .nil .nil) .nil) (.node (o_247 P) .nil .nil))))) (.node (o_11 P) (.node (o_19 P) (.node (o_35 P) (.node (o_67 P) (.node (o_131 P) (.node (o_259 P) .nil .nil) .nil) (.node (o_195 P) (.node (o_323 P) .nil .nil) .nil)) (.node (o_99 P) (.node (o_163 P) (.node (o_291 P) .nil .nil) .nil) (.node (o_227 P) .nil .nil))) (.node (o_51 P) (.node (o_83 P) (.node (o_147 P) (.node (o_275 P) .nil .nil) .nil) (.node (o_211 P) (.node (o_339 P) .nil .nil) .nil)) (.node (o_115 P) (.node (o_179 P) (.node (o_307 P) .nil .nil) .nil) (.node (o_243 P) .nil .nil)))) (.node (o_27 P) (.node (o_43 P) (.node (o_75 P) (.node (o_139 P) (.node (o_267 P) .nil .nil) .nil) (.node (o_203 P) (.node (o_331 P) .nil .nil) .nil)) (.node (o_107 P) (.node (o_171 P) (.node (o_299 P) .nil .nil) .nil) (.node (o_235 P) .nil .nil))) (.node (o_59 P) (.node (o_91 P) (.node (o_155 P) (.node (o_283 P) .nil .nil) .nil) (.node (o_219 P) (.node (o_347 P) .nil .nil) .nil)) (.node (o_123 P) (.node (o_187 P) (.node (o_315 P) .nil .nil) .nil) (.node (o_251 P) .nil .nil)))))) (.node (boot_o_5 P) (.node (boot_o_9 P) (.node (o_17 P) (.node (o_33 P) (.node (o_65 P) (.node (o_129 P) (.node (o_257 P) .nil .nil) .nil) (.node (o_193 P) (.node (o_321 P) .nil .nil) .nil)) (.node (o_97 P) (.node (o_161 P) (.node (o_289 P) .nil .nil) .nil) (.node (o_225 P) (.node (o_353 P) .nil .nil) .nil))) (.node (o_49 P) (.node (o_81 P) (.node (o_145 P) (.node (o_273 P) .nil .nil) .nil) (.node (o_209 P) (.node (o_337 P) .nil .nil) .nil)) (.node (o_113 P) (.node (o_177 P) (.node (o_305 P) .nil .nil) .nil) (.node (o_241 P) .nil .nil)))) (.node (o_25 P) (.node (o_41 P) (.node (o_73 P) (.node (o_137 P) (.node (o_265 P) .nil .nil) .nil) (.node (o_201 P) (.node (o_329 P) .nil .nil) .nil)) (.node (o_105 P) (.node (o_169 P) (.node (o_297 P) .nil .nil) .nil) (.node (o_233 P) .nil .nil))) (.node (o_57 P) (.node (o_89 P) (.node (o_153 P) (.node (o_281 P) .nil .nil) .nil) (.node (o_217 P) (.node (o_345 P) .nil .nil) .nil)) (.node (o_121 P) (.node (o_185 P) (.node (o_313 P) .nil .nil) .nil) (.node (o_249 P) .nil .nil))))) (.node (o_13 P) (.node (o_21 P) (.node (o_37 P) (.node (o_69 P) (.node (o_133 P) (.node (o_261 P) .nil .nil) .nil) (.node (o_197 P) (.node (o_325 P) .nil .nil) .nil)) (.node (o_101 P) (.node (o_165 P) (.node (o_293 P) .nil .nil) .nil) (.node (o_229 P) .nil .nil))) (.node (o_53 P) (.node (o_85 P) (.node (o_149 P) (.node (o_277 P) .nil .nil) .nil) (.node (o_213 P) (.node (o_341 P) .nil .nil) .nil)) (.node (o_117 P) (.node (o_181 P) (.node (o_309 P) .nil .nil) .nil) (.node (o_245 P) .nil .nil)))) (.node (o_29 P) (.node (o_45 P) (.node (o_77 P) (.node (o_141 P) (.node (o_269 P) .nil .nil) .nil) (.node (o_205 P) (.node (o_333 P) .nil .nil) .nil)) (.node (o_109 P) (.node (o_173 P) (.node (o_301 P) .nil .nil) .nil) (.node (o_237 P) .nil .nil))) (.node (o_61 P) (.node (o_93 P) (.node (o_157 P) (.node (o_285 P) .nil .nil) .nil) (.node (o_221 P) (.node (o_349 P) .nil .nil) .nil)) (.node (o_125 P) (.node (o_189 P) (.node (o_317 P) .nil .nil) .nil) (.node (o_253 P) .nil .nil))))))) (.node (o_2 P) (.node (boot_o_4 P) (.node (boot_o_8 P) (.node (o_16 P) (.node (o_32 P) (.node (o_64 P) (.node (o_128 P) (.node (o_256 P) .nil .nil) .nil) (.node (o_192 P) (.node (o_320 P) .nil .nil) .nil)) (.node (o_96 P) (.node (o_160 P) (.node (o_288 P) .nil .nil) .nil) (.node (o_224 P) (.node (o_352 P) .nil .nil) .nil))) (.node (o_48 P) (.node (o_80 P) (.node (o_144 P) (.node (o_272 P) .nil .nil) .nil) (.node (o_208 P) (.node (o_336 P) .nil .nil) .nil)) (.node (o_112 P) (.node (o_176 P) (.node (o_304 P) .nil .nil) .nil) (.node (o_240 P) .nil .nil)))) (.node (o_24 P) (.node (o_40 P) (.node (o_72 P) (.node (o_136 P) (.node (o_264 P) .nil .nil) .nil) (.node (o_200 P) (.node (o_328 P) .nil .nil) .nil)) (.node (o_104 P) (.node (o_168 P) (.node (o_296 P) .nil .nil) .nil) (.node (o_232 P) .nil .nil))) (.node (o_56 P) (.node (o_88 P) (.node (o_152 P) (.node (o_280 P) .nil .nil) .nil) (.node (o_216 P) (.node (o_344 P) .nil .nil) .nil)) (.node (o_120 P) (.node (o_184 P) (.node (o_312 P) .nil .nil) .nil) (.node (o_248 P) .nil .nil))))) (.node (o_12 P) (.node (o_20 P) (.node (o_36 P) (.node (o_68 P) (.node (o_132 P) (.node (o_260 P) .nil .nil) .nil) (.node (o_196 P) (.node (o_324 P) .nil .nil) .nil)) (.node (o_100 P) (.node (o_164 P) (.node (o_292 P) .nil .nil) .nil) (.node (o_228 P) .nil .nil))) (.node (o_52 P) (.node (o_84 P) (.node (o_148 P) (.node (o_276 P) .nil .nil) .nil) (.node (o_212 P) (.node (o_340 P) .nil .nil) .nil)) (.node (o_116 P) (.node (o_180 P) (.node (o_308 P) .nil .nil) .nil) (.node (o_244 P) .nil .nil)))) (.node (o_28 P) (.node (o_44 P) (.node (o_76 P) (.node (o_140 P) (.node (o_268 P) .nil .nil) .nil) (.node (o_204 P) (.node (o_332 P) .nil .nil) .nil)) (.node (o_108 P) (.node (o_172 P) (.node (o_300 P) .nil .nil) .nil) (.node (o_236 P) .nil .nil))) (.node (o_60 P) (.node (o_92 P) (.node (o_156 P) (.node (o_284 P) .nil .nil) .nil) (.node (o_220 P) (.node (o_348 P) .nil .nil) .nil)) (.node (o_124 P) (.node (o_188 P) (.node (o_316 P) .nil .nil) .nil) (.node (o_252 P) .nil .nil)))))) (.node (boot_o_6 P) (.node (boot_o_10 P) (.node (o_18 P) (.node (o_34 P) (.node (o_66 P) (.node (o_130 P) (.node (o_258 P) .nil .nil) .nil) (.node (o_194 P) (.node (o_322 P) .nil .nil) .nil)) (.node (o_98 P) (.node (o_162 P) (.node (o_290 P) .nil .nil) .nil) (.node (o_226 P) (.node (o_354 P) .nil .nil) .nil))) (.node (o_50 P) (.node (o_82 P) (.node (o_146 P) (.node (o_274 P) .nil .nil) .nil) (.node (o_210 P) (.node (o_338 P) .nil .nil) .nil)) (.node (o_114 P) (.node (o_178 P) (.node (o_306 P) .nil .nil) .nil) (.node (o_242 P) .nil .nil)))) (.node (o_26 P) (.node (o_42 P) (.node (o_74 P) (.node (o_138 P) (.node (o_266 P) .nil .nil) .nil) (.node (o_202 P) (.node (o_330 P) .nil .nil) .nil)) (.node (o_106 P) (.node (o_170 P) (.node (o_298 P) .nil .nil) .nil) (.node (o_234 P) .nil .nil))) (.node (o_58 P) (.node (o_90 P) (.node (o_154 P) (.node (o_282 P) .nil .nil) .nil) (.node (o_218 P) (.node (o_346 P) .nil .nil) .nil)) (.node (o_122 P) (.node (o_186 P) (.node (o_314 P) .nil .nil) .nil) (.node (o_250 P) .nil .nil))))) (.node (o_14 P) (.node (o_22 P) (.node (o_38 P) (.node (o_70 P) (.node (o_134 P) (.node (o_262 P) .nil .nil) .nil) (.node (o_198 P) (.node (o_326 P) .nil .nil) .nil)) (.node (o_102 P) (.node (o_166 P) (.node (o_294 P) .nil .nil) .nil) (.node (o_230 P) .nil .nil))) (.node (o_54 P) (.node (o_86 P) (.node (o_150 P) (.node (o_278 P) .nil .nil) .nil) (.node (o_214 P) (.node (o_342 P) .nil .nil) .nil)) (.node (o_118 P) (.node (o_182 P) (.node (o_310 P) .nil .nil) .nil) (.node (o_246 P) .nil .nil)))) (.node (o_30 P) (.node (o_46 P) (.node (o_78 P) (.node (o_142 P) (.node (o_270 P) .nil .nil) .nil) (.node (o_206 P) (.node (o_334 P) .nil .nil) .nil)) (.node (o_110 P) (.node (o_174 P) (.node (o_302 P) .nil .nil) .nil) (.node (o_238 P) .nil .nil))) (.node (o_62 P) (.node (o_94 P) (.node (o_158 P) (.node (o_286 P) .nil .nil) .nil) (.node (o_222 P) (.node (o_350 P) .nil .nil) .nil)) (.node (o_126 P) (.node (o_190 P) (.node (o_318 P) .nil .nil) .nil) (.node (o_254 P) .nil .nil))))))))
noncomputable def KF : Params → Frag := fun P => (nat_lit 2, o_2 P) :: (nat_lit 3, o_3 P) :: (nat_lit 15, o_15 P) :: (nat_lit 17, o_17 P) :: (nat_lit 18, o_18 P) :: (nat_lit 20, o_20 P) :: (nat_lit 21, o_21 P) :: (nat_lit 22, o_22 P) :: (nat_lit 29, o_29 P) :: (nat_lit 30, o_30 P) :: (nat_lit 32, o_32 P) :: (nat_lit 33, o_33 P) :: (nat_lit 35, o_35 P) :: (nat_lit 36, o_36 P) :: (nat_lit 37, o_37 P) :: (nat_lit 38, o_38 P) :: (nat_lit 39, o_39 P) :: (nat_lit 40, o_40 P) :: (nat_lit 43, o_43 P) :: (nat_lit 50, o_50 P) :: (nat_lit 51, o_51 P) :: (nat_lit 53, o_53 P) :: (nat_lit 54, o_54 P) :: (nat_lit 56, o_56 P) :: (nat_lit 57, o_57 P) :: (nat_lit 58, o_58 P) :: (nat_lit 59, o_59 P) :: (nat_lit 60, o_60 P) :: (nat_lit 63, o_63 P) :: (nat_lit 70, o_70 P) :: (nat_lit 71, o_71 P) :: (nat_lit 72, o_72 P) :: (nat_lit 75, o_75 P) :: (nat_lit 82, o_82 P) :: (nat_lit 83, o_83 P) :: (nat_lit 84, o_84 P) :: (nat_lit 87, o_87 P) :: (nat_lit 89, o_89 P) :: (nat_lit 90, o_90 P) :: (nat_lit 92, o_92 P) :: (nat_lit 93, o_93 P) :: (nat_lit 94, o_94 P) :: (nat_lit 96, o_96 P) :: (nat_lit 97, o_97 P) :: (nat_lit 99, o_99 P) :: (nat_lit 100, o_100 P) :: (nat_lit 101, o_101 P) :: (nat_lit 103, o_103 P) :: (nat_lit 104, o_104 P) :: (nat_lit 106, o_106 P) :: (nat_lit 107, o_107 P) :: (nat_lit 108, o_108 P) :: (nat_lit 110, o_110 P) :: (nat_lit 111, o_111 P) :: (nat_lit 113, o_113 P) :: (nat_lit 114, o_114 P) :: (nat_lit 115, o_115 P) :: (nat_lit 117, o_117 P) :: (nat_lit 118, o_118 P) :: (nat_lit 120, o_120 P) :: (nat_lit 121, o_121 P) :: (nat_lit 122, o_122 P) :: (nat_lit 124, o_124 P) :: (nat_lit 125, o_125 P) :: (nat_lit 127, o_127 P) :: (nat_lit 128, o_128 P) :: (nat_lit 129, o_129 P) :: (nat_lit 131, o_131 P) :: (nat_lit 132, o_132 P) :: (nat_lit 134, o_134 P) :: (nat_lit 135, o_135 P) :: (nat_lit 136, o_136 P) :: (nat_lit 138, o_138 P) :: (nat_lit 139, o_139 P) :: (nat_lit 141, o_141 P) :: (nat_lit 142, o_142 P) :: (nat_lit 143, o_143 P) :: (nat_lit 145, o_145 P) :: (nat_lit 146, o_146 P) :: (nat_lit 148, o_148 P) :: (nat_lit 149, o_149 P) :: (nat_lit 150, o_150 P) :: (nat_lit 152, o_152 P) :: (nat_lit 153, o_153 P) :: (nat_lit 155, o_155 P) :: (nat_lit 156, o_156 P) :: (nat_lit 157, o_157 P) :: (nat_lit 160, o_160 P) :: (nat_lit 161, o_161 P) :: (nat_lit 162, o_162 P) :: (nat_lit 163, o_163 P) :: (nat_lit 164, o_164 P) :: (nat_lit 165, o_165 P) :: (nat_lit 166, o_166 P) :: (nat_lit 167, o_167 P) :: (nat_lit 168, o_168 P) :: (nat_lit 169, o_169 P) :: (nat_lit 171, o_171 P) :: (nat_lit 172, o_172 P) :: (nat_lit 174, o_174 P) :: (nat_lit 175, o_175 P) :: (nat_lit 183, o_183 P) :: (nat_lit 184, o_184 P) :: (nat_lit 186, o_186 P) :: (nat_lit 187, o_187 P) :: (nat_lit 189, o_189 P) :: (nat_lit 190, o_190 P) :: (nat_lit 191, o_191 P) :: (nat_lit 193, o_193 P) :: (nat_lit 194, o_194 P) :: (nat_lit 196, o_196 P) :: (nat_lit 197, o_197 P) :: (nat_lit 198, o_198 P) :: (nat_lit 200, o_200 P) :: (nat_lit 201, o_201 P) :: (nat_lit 203, o_203 P) :: (nat_lit 204, o_204 P) :: (nat_lit 205, o_205 P) :: (nat_lit 207, o_207 P) :: (nat_lit 208, o_208 P) :: (nat_lit 210, o_210 P) :: (nat_lit 211, o_211 P) :: (nat_lit 212, o_212 P) :: (nat_lit 214, o_214 P) :: (nat_lit 215, o_215 P) :: (nat_lit 217, o_217 P) :: (nat_lit 218, o_218 P) :: (nat_lit 219, o_219 P) :: (nat_lit 221, o_221 P) :: (nat_lit 222, o_222 P) :: (nat_lit 224, o_224 P) :: (nat_lit 225, o_225 P) :: (nat_lit 226, o_226 P) :: (nat_lit 228, o_228 P) :: (nat_lit 229, o_229 P) :: (nat_lit 231, o_231 P) :: (nat_lit 232, o_232 P) :: (nat_lit 233, o_233 P) :: (nat_lit 234, o_234 P) :: (nat_lit 235, o_235 P) :: (nat_lit 236, o_236 P) :: (nat_lit 237, o_237 P) :: (nat_lit 240, o_240 P) :: (nat_lit 242, o_242 P) :: (nat_lit 243, o_243 P) :: (nat_lit 245, o_245 P) :: (nat_lit 246, o_246 P) :: (nat_lit 247, o_247 P) :: (nat_lit 249, o_249 P) :: (nat_lit 250, o_250 P) :: (nat_lit 252, o_252 P) :: (nat_lit 253, o_253 P) :: (nat_lit 254, o_254 P) :: (nat_lit 256, o_256 P) :: (nat_lit 257, o_257 P) :: (nat_lit 259, o_259 P) :: (nat_lit 260, o_260 P) :: (nat_lit 261, o_261 P) :: (nat_lit 263, o_263 P) :: (nat_lit 264, o_264 P) :: (nat_lit 266, o_266 P) :: (nat_lit 267, o_267 P) :: (nat_lit 268, o_268 P) :: (nat_lit 270, o_270 P) :: (nat_lit 271, o_271 P) :: (nat_lit 273, o_273 P) :: (nat_lit 274, o_274 P) :: (nat_lit 275, o_275 P) :: (nat_lit 277, o_277 P) :: (nat_lit 278, o_278 P) :: (nat_lit 280, o_280 P) :: (nat_lit 281, o_281 P) :: (nat_lit 282, o_282 P) :: (nat_lit 284, o_284 P) :: (nat_lit 285, o_285 P) :: (nat_lit 287, o_287 P) :: (nat_lit 288, o_288 P) :: (nat_lit 289, o_289 P) :: (nat_lit 291, o_291 P) :: (nat_lit 292, o_292 P) :: (nat_lit 294, o_294 P) :: (nat_lit 295, o_295 P) :: (nat_lit 296, o_296 P) :: (nat_lit 298, o_298 P) :: (nat_lit 299, o_299 P) :: (nat_lit 301, o_301 P) :: (nat_lit 302, o_302 P) :: (nat_lit 303, o_303 P) :: (nat_lit 305, o_305 P) :: (nat_lit 306, o_306 P) :: (nat_lit 308, o_308 P) :: (nat_lit 309, o_309 P) :: (nat_lit 310, o_310 P) :: (nat_lit 312, o_312 P) :: (nat_lit 313, o_313 P) :: (nat_lit 315, o_315 P) :: (nat_lit 316, o_316 P) :: (nat_lit 317, o_317 P) :: (nat_lit 320, o_320 P) :: (nat_lit 321, o_321 P) :: (nat_lit 322, o_322 P) :: (nat_lit 324, o_324 P) :: (nat_lit 325, o_325 P) :: (nat_lit 327, o_327 P) :: (nat_lit 328, o_328 P) :: (nat_lit 329, o_329 P) :: (nat_lit 331, o_331 P) :: (nat_lit 332, o_332 P) :: (nat_lit 334, o_334 P) :: (nat_lit 335, o_335 P) :: (nat_lit 336, o_336 P) :: (nat_lit 338, o_338 P) :: (nat_lit 339, o_339 P) :: (nat_lit 341, o_341 P) :: (nat_lit 342, o_342 P) :: (nat_lit 343, o_343 P) :: (nat_lit 345, o_345 P) :: (nat_lit 346, o_346 P) :: (nat_lit 348, o_348 P) :: (nat_lit 349, o_349 P) :: (nat_lit 350, o_350 P) :: (nat_lit 353, o_353 P) :: (nat_lit 354, o_354 P) :: []
noncomputable def asF : List Nat := 2 :: 3 :: 15 :: 17 :: 18 :: 20 :: 21 :: 22 :: 29 :: 30 :: 32 :: 33 :: 35 :: 36 :: 37 :: 38 :: 39 :: 40 :: 43 :: 50 :: 51 :: 53 :: 54 :: 56 :: 57 :: 58 :: 59 :: 60 :: 63 :: 70 :: 71 :: 72 :: 75 :: 82 :: 83 :: 84 :: 87 :: 89 :: 90 :: 92 :: 93 :: 94 :: 96 :: 97 :: 99 :: 100 :: 101 :: 103 :: 104 :: 106 :: 107 :: 108 :: 110 :: 111 :: 113 :: 114 :: 115 :: 117 :: 118 :: 120 :: 121 :: 122 :: 124 :: 125 :: 127 :: 128 :: 129 :: 131 :: 132 :: 134 :: 135 :: 136 :: 138 :: 139 :: 141 :: 142 :: 143 :: 145 :: 146 :: 148 :: 149 :: 150 :: 152 :: 153 :: 155 :: 156 :: 157 :: 160 :: 161 :: 162 :: 163 :: 164 :: 165 :: 166 :: 167 :: 168 :: 169 :: 171 :: 172 :: 174 :: 175 :: 183 :: 184 :: 186 :: 187 :: 189 :: 190 :: 191 :: 193 :: 194 :: 196 :: 197 :: 198 :: 200 :: 201 :: 203 :: 204 :: 205 :: 207 :: 208 :: 210 :: 211 :: 212 :: 214 :: 215 :: 217 :: 218 :: 219 :: 221 :: 222 :: 224 :: 225 :: 226 :: 228 :: 229 :: 231 :: 232 :: 233 :: 234 :: 235 :: 236 :: 237 :: 240 :: 242 :: 243 :: 245 :: 246 :: 247 :: 249 :: 250 :: 252 :: 253 :: 254 :: 256 :: 257 :: 259 :: 260 :: 261 :: 263 :: 264 :: 266 :: 267 :: 268 :: 270 :: 271 :: 273 :: 274 :: 275 :: 277 :: 278 :: 280 :: 281 :: 282 :: 284 :: 285 :: 287 :: 288 :: 289 :: 291 :: 292 :: 294 :: 295 :: 296 :: 298 :: 299 :: 301 :: 302 :: 303 :: 305 :: 306 :: 308 :: 309 :: 310 :: 312 :: 313 :: 315 :: 316 :: 317 :: 320 :: 321 :: 322 :: 324 :: 325 :: 327 :: 328 :: 329 :: 331 :: 332 :: 334 :: 335 :: 336 :: 338 :: 339 :: 341 :: 342 :: 343 :: 345 :: 346 :: 348 :: 349 :: 350 :: 353 :: 354 :: []
noncomputable abbrev LN : List Str := [Str.ofString "_wall", Str.ofString "MAX_RUNE", Str.ofString "RUNE_ERROR", Str.ofString "BAD_ESCAPE", Str.ofString "TRAILING_BACKSLASH", Str.ofString "BAD_UTF8", Str.ofString "RecoreError", Str.ofString "BadPattern", Str.ofString "BadRewrite", Str.ofString "BadCall", Str.ofString "BACKSLASH", Str.ofString "rewrite_is_figure", Str.ofString "rewrite_pieces", Str.ofString "rewrite_most", Str.ofString "rewritten", Str.ofString "quote_meta", Str.ofString "rune_length", Str.ofString "rune_lead", Str.ofString "rune_octets", Str.ofString "rune_form_length", Str.ofString "rune_at", Str.ofString "octets_of_runes", Str.ofString "ESCAPE_LETTERS", Str.ofString "reader_sign", Str.ofString "PatternReader", Str.ofString "reader_hex", Str.ofString "read_escape", Str.ofString "escape_top", Str.ofString "escape_sign", Str.ofString "escape_octal", Str.ofString "escape_hex", Str.ofString "escape_braced", Str.ofString "_law_forms", Str.ofString "_law_rest", Str.ofString "_law_digits", Str.ofString "_law_read", Str.ofString "_law_form", Str.ofString "_law_runes", Str.ofString "_law_is_word", Str.ofString "_law_quoted", Str.ofString "_law_rewritten"]
noncomputable abbrev a_12 (P : Params) : Obj := ⟨.none, none, (.fields #[]), #[]⟩
noncomputable abbrev HP : Program := PySem.Challenge.rw_sj0126_01.row.prog
noncomputable abbrev VQ : Program := view HP [46]
abbrev Led := List (Addr × Obj)
noncomputable abbrev LS : List Str := looseW VQ LN
/-- a call that gives back a plain value and leaves the ledger as it is -/
abbrev CtV (w : World) (mean : ExcName → Option Value) (mg mb : Str → Option Value) (f : Addr) (d u : Nat) (vs : List Value) (pre : Prop) (R : Tok → Value) : Prop :=
  ∀ (dp un : Nat) (gd : Option (List Code)) (cn : Str) (cs : Scope) (a : Addr) (ccd : Value) (cl : List (Str × Addr)) (outer : List Env) (A₀ : Around) (base h₀ : Heap) (L : Addr) (m : Str → Option Value) (news : Led) (s : Shared) (Q E : Value → Shared → Prop),
    Below A₀ base outer h₀ → Fr h₀ L s.heap m → (KF w.params).In h₀ → News h₀ L s.heap news → Top VQ LS mean mg mb h₀ → cs.kind = .function →
    dp + d < recursionLimit → un + u < cLine → pre →
    (∀ (t : Tok) (h' : Heap) (tk' : Nat), Fr h₀ L h' m → News h₀ L h' news → Q (R t) { s with heap := h', toks := tk' }) →
    wpAny (model PySem.Challenge.rw_sj0126_01.row.prog w) (ktrTop dp un gd cn cs L a ccd cl outer) (call (.ref f) vs) Q E s
/-- a call that may add to the ledger -/
abbrev CtN (w : World) (mean : ExcName → Option Value) (mg mb : Str → Option Value) (f : Addr) (d u : Nat) (news : Led) (vs : List Value) (pre : Prop) (Ret : Value → Led → Prop) : Prop :=
  ∀ (dp un : Nat) (gd : Option (List Code)) (cn : Str) (cs : Scope) (a : Addr) (ccd : Value) (cl : List (Str × Addr)) (outer : List Env) (A₀ : Around) (base h₀ : Heap) (L : Addr) (m : Str → Option Value) (s : Shared) (Q E : Value → Shared → Prop),
    Below A₀ base outer h₀ → Fr h₀ L s.heap m → (KF w.params).In h₀ → News h₀ L s.heap news → Top VQ LS mean mg mb h₀ → cs.kind = .function →
    dp + d < recursionLimit → un + u < cLine → pre →
    (∀ (v : Value) (new : Led) (h' : Heap) (tk' : Nat), Ret v new → Fr h₀ L h' m → News h₀ L h' (new ++ news) → (∀ p ∈ news, ∀ q ∈ new, p.1 < q.1) → Q v { s with heap := h', toks := tk' }) →
    wpAny (model PySem.Challenge.rw_sj0126_01.row.prog w) (ktrTop dp un gd cn cs L a ccd cl outer) (call (.ref f) vs) Q E s
/-- carries the row's name into the context, for the part that is written out -/
abbrev Rw := { r : OpenLaw // r = PySem.Challenge.rw_sj0126_01 }
section
variable {w : World} {mean : ExcName → Option Value} {mg mb : Str → Option Value} {f : Addr} {d u : Nat} {news : Led} {vs : List Value} {pre : Prop} {R : Tok → Value} {Ret : Value → Led → Prop}
  {dp un : Nat} {gd : Option (List Code)} {cn : Str} {cs : Scope} {a : Addr} {ccd : Value} {cl : List (Str × Addr)} {outer : List Env} {A₀ : Around} {base h₀ : Heap} {L : Addr} {m : Str → Option Value} {s : Shared} {Q E : Value → Shared → Prop}
theorem ctv_use (C : CtV w mean mg mb f d u vs pre R) (B : Below A₀ base outer h₀) (F : Fr h₀ L s.heap m) (X : (KF w.params).In h₀) (N : News h₀ L s.heap news) (T : Top VQ LS mean mg mb h₀)
    (hk : cs.kind = .function) (hd' : dp + d < recursionLimit) (hu : un + u < cLine) (hp : pre)
    (ret : ∀ (t : Tok) (h' : Heap) (tk' : Nat), Fr h₀ L h' m → News h₀ L h' news → Q (R t) { s with heap := h', toks := tk' }) :
    wpAny (model PySem.Challenge.rw_sj0126_01.row.prog w) (ktrTop dp un gd cn cs L a ccd cl outer) (call (.ref f) vs) Q E s :=
  C _ _ _ _ _ _ _ _ _ _ _ _ _ _ _ _ _ _ B F X N T hk hd' hu hp ret
theorem ctn_use (C : CtN w mean mg mb f d u news vs pre Ret) (B : Below A₀ base outer h₀) (F : Fr h₀ L s.heap m) (X : (KF w.params).In h₀) (N : News h₀ L s.heap news) (T : Top VQ LS mean mg mb h₀)
    (hk : cs.kind = .function) (hd' : dp + d < recursionLimit) (hu : un + u < cLine) (hp : pre)
    (ret : ∀ (v : Value) (new : Led) (h' : Heap) (tk' : Nat), Ret v new → Fr h₀ L h' m → News h₀ L h' (new ++ news) → (∀ p ∈ news, ∀ q ∈ new, p.1 < q.1) → Q v { s with heap := h', toks := tk' }) :
    wpAny (model PySem.Challenge.rw_sj0126_01.row.prog w) (ktrTop dp un gd cn cs L a ccd cl outer) (call (.ref f) vs) Q E s :=
  C _ _ _ _ _ _ _ _ _ _ _ _ _ _ _ _ _ B F X N T hk hd' hu hp ret
end
section Walk
-- part A0
/-- a loop, held for the proof's own hand -/
def Held (P : Prop) : Prop := P
theorem held {P : Prop} (h : Held P) : P := h
theorem Held.go {P : Prop} (h : P) : Held P := h
/-- the run of a list from x up to y -/
def seg (ks : List Int) (x y : Int) : List Int := (ks.take y.toNat).drop x.toNat
theorem clip_nn {n : Nat} {x : Int} (h : 0 ≤ x) : clipAt n x = min x.toNat n := by
  have := clipAt_nat n x.toNat
  rwa [Int.toNat_of_nonneg h] at this
theorem seg_core (ks : List Int) (x y : Nat) : List.take (min y ks.length - min x ks.length) (List.drop (min x ks.length) ks) = (ks.take y).drop x := by
  rw [List.drop_take]
  by_cases h : x ≤ ks.length
  · rw [Nat.min_eq_left h, List.take_eq_take_iff, List.length_drop]
    omega
  · rw [Nat.min_eq_right (Nat.le_of_not_le h), List.drop_length, List.drop_eq_nil_of_le (Nat.le_of_not_le h), List.take_nil, List.take_nil]
theorem seg_of {ks : List Int} {x y : Int} (hx : 0 ≤ x) (hy : 0 ≤ y) : List.take (clipAt ks.length y - clipAt ks.length x) (List.drop (clipAt ks.length x) ks) = seg ks x y := by
  rw [clip_nn hx, clip_nn hy]
  exact seg_core ks _ _
theorem seg_length (ks : List Int) (x y : Int) : (seg ks x y).length = min y.toNat ks.length - x.toNat := by simp [seg]
abbrev tup (D : Addr) (vs : List Value) : Addr × Obj := (D, { cls := .type "tuple", data := .seq vs.toArray })
abbrev lst (D : Addr) (vs : List Value) (n : Nat) : Addr × Obj := (D, { cls := .type "list", data := .seq vs.toArray n })
/-- what comes back is a pair of ints -/
abbrev RetPair (p : Int × Int) (v : Value) (new : Led) : Prop := ∃ D u u', v = .ref D ∧ new = [tup D [.int p.1 u, .int p.2 u']]
theorem news_cons {h₀ h : Heap} {L : Addr} {news led : Led} {x : Addr × Obj} (N : News h₀ L h (x :: led)) (hs : ∀ q ∈ news, q ∈ led) : News h₀ L h (x :: news) := fun q hq => by
  rcases List.mem_cons.mp hq with rfl | hq
  · exact N _ (.head _)
  · exact N q (.tail _ (hs q hq))
theorem endPair {h₀ h' : Heap} {L : Addr} {m : Str → Option Value} {news led : Led} {s : Shared} {Q : Value → Shared → Prop} {p : Int × Int} {D : Addr} {x y : Int} {u u' : Tok} {tk' : Nat}
    (hret : ∀ (v : Value) (new : Led) (h' : Heap) (tk' : Nat), RetPair p v new → Fr h₀ L h' m → News h₀ L h' (new ++ news) → (∀ p ∈ news, ∀ q ∈ new, p.1 < q.1) → Q v { s with heap := h', toks := tk' })
    (e : (x, y) = p) (F : Fr h₀ L h' m) (N : News h₀ L h' (tup D [.int x u, .int y u'] :: led)) (hs : ∀ q ∈ news, q ∈ led) (l : ∀ p ∈ led, p.1 < D) : Q (.ref D) { s with heap := h', toks := tk' } := by
  subst e
  refine hret _ [tup D [.int x u, .int y u']] _ _ ⟨D, u, u', rfl, rfl⟩ F (news_cons N hs) fun p hp q hq => ?_
  rw [List.mem_singleton.mp hq]
  exact l p (hs p hp)
theorem lt_sub {l l' : Led} {d : Addr} (h : ∀ p ∈ l, p.1 < d) (hs : ∀ p ∈ l', p ∈ l) : ∀ p ∈ l', p.1 < d := fun p hp => h p (hs p hp)
theorem of_allLt {d : Addr} : ∀ {l : Led}, AllLt d l → ∀ p ∈ l, p.1 < d
  | [], _, _, hp => nomatch hp
  | x :: r, h, p, hp => by
    rcases List.mem_cons.mp hp with rfl | hp
    · exact h.1
    · exact of_allLt h.2 p hp
theorem News_tl {h₀ h : Heap} {L : Addr} {l : Led} {x : Addr × Obj} (N : News h₀ L h (x :: l)) : News h₀ L h l := fun q hq => N q (.tail _ hq)
theorem memA {x : Addr × Obj} {news own : Led} : ∀ p ∈ x :: news, p ∈ x :: (news ++ own) := fun p hp => by
  rcases List.mem_cons.mp hp with rfl | hp
  · exact .head _
  · exact .tail _ (List.mem_append_left _ hp)
theorem memB {x y : Addr × Obj} {news own : Led} : ∀ p ∈ x :: news, p ∈ y :: x :: (news ++ own) := fun p hp => .tail _ (memA p hp)
theorem own_all {news own : Led} {D : Addr} (l1 : ∀ p ∈ news, p.1 < D) (h : OwnOff own (D :: news.map (·.1))) : ∀ p ∈ news ++ own, p.1 ≠ D := fun p hp => by
  rcases List.mem_append.mp hp with hp | hp
  · exact Nat.ne_of_lt (l1 p hp)
  · exact h.ne (.head _) p hp
/-- while this lies in the context the loops are held for the proof's own hand -/
def MyLoops : Prop := True
theorem myLoops : MyLoops := trivial
/-- while this lies in the context the calls of the program's own defs are held -/
def MyCalls : Prop := True
theorem myCalls : MyCalls := trivial
theorem push_fits {a : Array Value} {v : Value} (h : a.size + 1 ≤ 16777216) : (a.push v).size ≤ sizeLine := by rw [Array.size_push, sizeLine_eq]; exact h
theorem lit_fits {l : List Value} (h : Nat.ble l.length 16 = true) : l.toArray.size ≤ sizeLine := by
  have := Nat.le_of_ble_eq_true h
  rw [List.size_toArray, sizeLine_eq]
  omega
theorem room2 {dp k j n : Nat} (h : dp + k < n) (hj : Nat.ble (1 + j) k = true) : dp + 1 + j < n := by
  have := Nat.le_of_ble_eq_true hj
  omega
theorem unit2 {un k j n : Nat} (h : un + k < n) (hj : Nat.ble (3 + j) k = true) : un + 3 + j < n := by
  have := Nat.le_of_ble_eq_true hj
  omega
local macro_rules | `(tactic| omega) => `(tactic| lia)
-- part E1
section
open Builtin PyProof PySem.Spec
/-- the object at e keeps its own dict at dx -/
def DictAt (h : Heap) (e dx : Addr) : Prop := ∃ o, h.get? e = some o ∧ o.dict = some dx
theorem dict_mapFields (f : Array Value → Array Value) (o : Obj) : (Obj.mapFields f o).dict = o.dict := by
  obtain ⟨c, d, da, sl⟩ := o
  cases da <;> rfl
variable {M : Model} {A : Around} {E : Value → Shared → Prop} {s : Shared}
theorem entryD {base : Heap} {env : Env} {outer : List Env} {L e dx : Addr} {oe : Obj} {vs : Array Value} {head a0 : Value} {hadNext : Bool} {Q : Unit → Shared → Prop}
    (hfr : A.frames = some (env :: outer)) (hl : s.heap.FunFrames base (env :: outer)) (hf : env.frame = some L)
    (he : s.heap.get? e = some oe) (hx : oe.dict = some dx) (hkb : base.StaysIn s.heap) (hen : base.get? e = none) (hd : oe.data = .fields vs) (hsz : 1 < vs.size) (h0 : vs[0]? = some a0)
    (h : ∀ h', Heap.NotedW base (env :: outer) e oe.cls a0 (rawInt L) s.heap h' → DictAt h' e dx → Q () { s with heap := h' }) :
    wpAny M A (do let a ← frameOf env; let pl ← entryPlaceOf L hadNext; let b ← EntryCells.newEntry head a .none (rawInt L) .none pl; setField (.ref e) 1 b) Q E s := by
  have hene : e ∉ (env :: outer).filterMap (·.frame) := fun hm => by
    obtain ⟨_, o, ho, hnf⟩ := hl.mem hm
    rw [he] at ho
    cases ho
    exact hnf vs hd
  refine wpAny_bind (wpAny_frameOf_fun hfr hl hf fun h₁ hs₁ => ?_)
  refine wpAny_bind (wpAny_entryPlaceOf fun pl hpl => ?_)
  unfold EntryCells.newEntry newFields
  refine wpAny_bind (wpAny_newObj_type ?_ (hpl.sizeOk5 _ _ _ _ _))
  have he₁ : h₁.get? e = some oe := (hs₁.2.1 e hene).trans he
  have kb₁ : base.StaysIn h₁ := fun b o hbo => (hs₁.2.1 b fun hm => by rw [(hl.mem hm).1] at hbo; cases hbo).trans (hkb b o hbo)
  generalize hT : ({ cls := .type "traceback", dict := none, data := .fields ([head, .ref L, .none, rawInt L, .none] ++ (if pl.isEmpty then List.replicate 6 Value.none else pl)).toArray } : Obj) = tb
  have htbd : tb.data = .fields ([head, .ref L, .none, rawInt L, .none] ++ (if pl.isEmpty then List.replicate 6 Value.none else pl)).toArray := by rw [← hT]
  have htbf : tb.isFreed = false := by rw [← hT]; rfl
  have he₂ : (h₁.push tb).get? e = some oe := Heap.get?_push_of_some tb he₁
  refine wpAny_setField he₂ hd hsz ?_
  have hTe : h₁.objs.size ≠ e := Nat.ne_of_gt (Heap.lt_size he₁)
  have hd₃ := Obj.data_mapFields hd (·.setIfInBounds 1 (Value.ref h₁.objs.size))
  have he₃ := Heap.get?_update_self (Obj.mapFields (·.setIfInBounds 1 (Value.ref h₁.objs.size))) he₂ (Obj.isFreed_of_fields hd₃)
  have hT₃ := (Heap.get?_update_other (h₁.push tb) (Obj.mapFields (·.setIfInBounds 1 (Value.ref h₁.objs.size))) (Ne.symm hTe)).trans (Heap.get?_push_size h₁ htbf)
  have keep : ∀ b o, b ≠ e → h₁.get? b = some o → ((h₁.push tb).update e (Obj.mapFields (·.setIfInBounds 1 (Value.ref h₁.objs.size)))).get? b = some o :=
    fun b o hbe hb => (Heap.get?_update_other _ _ (Ne.symm hbe)).trans (Heap.get?_push_of_some _ hb)
  have noRecord : ∀ b o, s.heap.get? b = some o → (∀ vs, o.data ≠ .fields vs) → b ≠ e := fun b o hb hnf q => by
    rw [q, he] at hb
    cases hb
    exact hnf vs hd
  refine h _ ⟨fun b o hbo => keep b o (fun q => by rw [q, hen] at hbo; cases hbo) (kb₁ b o hbo), hl.of_keeps fun b o hb hnf => ?_, ?_, fun b o hb hnf => ?_⟩ ⟨_, he₃, by rw [dict_mapFields, hx]⟩
  · obtain ⟨sl, hs⟩ := hs₁.2.2 b o hb
    exact ⟨_, keep b _ (noRecord b o hb hnf) hs, rfl⟩
  · refine ⟨_, _, h₁.objs.size, _, _, he₃, ⟨Obj.cls_mapFields _ _, by rw [Array.getElem?_setIfInBounds_ne (by decide)]; exact h0⟩, hd₃, by simp [hsz], kb₁.fresh, hTe, hT₃, htbd, ?_⟩
    rcases hpl with rfl | ⟨_, _, _, _, _, _, _, rfl⟩ <;> simp
  · obtain ⟨sl, hs⟩ := hs₁.2.2 b o hb
    exact ⟨sl, keep b _ (noRecord b o hb hnf) hs⟩
/-- the first frame that a new exception leaves -/
theorem noteD0 {base : Heap} {env : Env} {outer : List Env} {L e dx : Addr} {oe : Obj} {vs : Array Value} {a0 : Value} {Q : Unit → Shared → Prop}
    (hfr : A.frames = some (env :: outer)) (hl : s.heap.FunFrames base (env :: outer)) (hf : env.frame = some L)
    (he : s.heap.get? e = some oe) (hx : oe.dict = some dx) (hkb : base.StaysIn s.heap) (hen : base.get? e = none) (hd : oe.data = .fields vs) (h1 : vs[1]? = some .none) (h0 : vs[0]? = some a0)
    (h : ∀ h', Heap.NotedW base (env :: outer) e oe.cls a0 (rawInt L) s.heap h' → DictAt h' e dx → Q () { s with heap := h' }) : wpAny M A (noteFrame (.ref e) env) Q E s := by
  unfold noteFrame
  simp only [hf]
  refine wpAny_bind (wpAny_field he hd h1 ?_)
  rw [if_neg (by decide)]
  exact entryD hfr hl hf he hx hkb hen hd (Array.getElem?_eq_some_iff.mp h1).1 h0 h
/-- each further frame -/
theorem noteD {base : Heap} {env : Env} {outer : List Env} {L e dx : Addr} {cls a0 : Value} {Q : Unit → Shared → Prop}
    (hfr : A.frames = some (env :: outer)) (hl : s.heap.FunFrames base (env :: outer)) (hf : env.frame = some L) (ht : s.heap.TracedW base e cls a0) (hdx : DictAt s.heap e dx) (hkb : base.StaysIn s.heap) (hen : base.get? e = none)
    (h : ∀ h', Heap.NotedW base (env :: outer) e cls a0 (rawInt L) s.heap h' → DictAt h' e dx → Q () { s with heap := h' }) : wpAny M A (noteFrame (.ref e) env) Q E s := by
  obtain ⟨oe, vs, T, oT, ts, he, ⟨hcls, h0⟩, hd, h1, hnT, hTe, hT, hdT, h3⟩ := ht
  obtain ⟨oe', he', hx⟩ := hdx
  rw [he] at he'
  cases he'
  subst hcls
  unfold noteFrame
  simp only [hf]
  refine wpAny_bind (wpAny_field he hd h1 ?_)
  rw [if_pos (show (Value.ref T != Value.none) = true from by simp)]
  refine wpAny_bind (wpAny_field hT hdT h3 ?_)
  rw [if_neg (show ¬ ((Value.none == rawInt L) = true) from by simp [rawInt])]
  refine wpAny_bind (wpAny_setField hT hdT (Array.getElem?_eq_some_iff.mp h3).1 ?_)
  have other : ∀ b, b ≠ T → (s.heap.update T (Obj.mapFields (·.setIfInBounds 3 Value.none))).get? b = s.heap.get? b := fun b hb => Heap.get?_update_other _ _ (Ne.symm hb)
  have noRecord : ∀ b o, s.heap.get? b = some o → (∀ vs, o.data ≠ .fields vs) → b ≠ T := fun b o hb hnf q => by
    rw [q, hT] at hb
    cases hb
    exact hnf ts hdT
  exact entryD hfr (hl.of_keeps fun b o hb hnf => ⟨o, (other b (noRecord b o hb hnf)).trans hb, rfl⟩) hf ((other e (Ne.symm hTe)).trans he) hx
    (fun b o hbo => (other b fun q => by rw [q, hnT] at hbo; cases hbo).trans (hkb b o hbo)) hen hd (Array.getElem?_eq_some_iff.mp h1).1 h0
    fun h' ⟨x1, x2, x3, x4⟩ => h h' ⟨x1, x2, x3, fun b o hb hnf => x4 b o ((other b (noRecord b o hb hnf)).trans hb) hnf⟩
theorem flightD {base : Heap} {l : List Env} {e dx : Addr} {cls a0 fl : Value} {Q : Unit → Shared → Prop}
    (hkb : base.StaysIn s.heap) (hl : s.heap.FunFrames base l) (ht : s.heap.TracedAtW base e cls a0 fl) (hdx : DictAt s.heap e dx)
    (h : ∀ h', base.StaysIn h' → h'.FunFrames base l → h'.TracedW base e cls a0 → DictAt h' e dx → (∀ b o, s.heap.get? b = some o → (∀ vs, o.data ≠ .fields vs) → h'.get? b = some o) → Q () { s with heap := h' }) :
    wpAny M A (setFlight (.ref e) none) Q E s := by
  obtain ⟨oe, vs, T, oT, ts, he, hcls, hd, h1, hnT, hTe, hT, hdT, h3⟩ := ht
  obtain ⟨oe', he', hx⟩ := hdx
  rw [he] at he'
  cases he'
  have hsz3 : 3 < ts.size := (Array.getElem?_eq_some_iff.mp h3).1
  have other : ∀ b, b ≠ T → (s.heap.update T (Obj.mapFields (·.setIfInBounds 3 ((none : Option Addr).elim Value.none fun f => rawInt f)))).get? b = s.heap.get? b :=
    fun b hb => Heap.get?_update_other _ _ (Ne.symm hb)
  have noRecord : ∀ b o, s.heap.get? b = some o → (∀ vs, o.data ≠ .fields vs) → b ≠ T := fun b o hb hnf q => by
    rw [q, hT] at hb
    cases hb
    exact hnf ts hdT
  unfold setFlight
  refine wpAny_bind (wpAny_field he hd h1 ?_)
  rw [if_pos (show (Value.ref T != Value.none) = true from by simp)]
  refine wpAny_setField hT hdT hsz3 (h _ (fun b o hbo => (other b fun q => by rw [q, hnT] at hbo; cases hbo).trans (hkb b o hbo))
    (hl.of_keeps fun b o hb hnf => ⟨o, (other b (noRecord b o hb hnf)).trans hb, rfl⟩) ?_ ⟨_, (other e (Ne.symm hTe)).trans he, hx⟩ fun b o hb hnf => (other b (noRecord b o hb hnf)).trans hb)
  exact ⟨oe, vs, T, _, _, (other e (Ne.symm hTe)).trans he, hcls, hd, h1, hnT, hTe, Heap.get?_update_self _ hT (Obj.isFreed_of_fields (Obj.data_mapFields hdT _)), Obj.data_mapFields hdT _, by simp [hsz3]⟩
end
-- part E2
section
open Builtin PyProof PySem.Spec
/-- an exception of an own class on its way: its own dict stays at dx, the ledger stays -/
def RaisedD (base : Heap) (l : List Env) (e : Addr) (cls : Value) (dx : Addr) (news : Led) (h : Heap) : Prop :=
  ∃ B a0, base.StaysIn B ∧ (∀ q ∈ news, B.get? q.1 = some q.2 ∧ base.get? q.1 = none) ∧ Heap.FlyingW B l e cls a0 h ∧ DictAt h e dx
theorem RaisedD.sub {base : Heap} {l : List Env} {e dx : Addr} {cls : Value} {news news' : Led} {h : Heap} (R : RaisedD base l e cls dx news h) (hs : ∀ q ∈ news', q ∈ news) : RaisedD base l e cls dx news' h := by
  obtain ⟨B, a0, h1, h2, h3, h4⟩ := R
  exact ⟨B, a0, h1, fun q hq => h2 q (hs q hq), h3, h4⟩
section
variable {M : Model} {A : Around} {E : Value → Shared → Prop} {s' : Shared} {base g g₂ h : Heap} {outer : List Env} {L a e dx : Addr} {m : Str → Option Value} {name : Str} {scope : Scope} {cd : Value} {Q : Unit → Shared → Prop} {news : Led}
theorem leaveD0 {oe : Obj} {vs : Array Value} {a0 : Value} (K : Below A base outer g) (F : Fr g L s'.heap m) (N : News g L s'.heap news)
    (he : s'.heap.get? e = some oe) (hx : oe.dict = some dx) (hd : oe.data = .fields vs) (h1 : vs[1]? = some .none) (h0 : vs[0]? = some a0) (heg : g.get? e = none) (hne : ∀ q ∈ news, q.1 ≠ e)
    (hQ : ∀ h', RaisedD base outer e oe.cls dx news h' → g.UpToSlots h' → Q () { s' with heap := h' }) (hk : scope.kind = .function := by rfl) :
    wpAny M (A.deeper (envOf name scope L a cd)) (leaving (envOf name scope L a cd) (.ref e)) Q E s' := by
  have K' := K.push (name := name) (a := a) (cd := cd) F hk
  generalize hfs : (envOf name scope L a cd :: outer).filterMap (·.frame) = fs
  have hin : ∀ env ∈ (envOf name scope L a cd :: outer), ∀ b, env.frame = some b → b ∈ e :: fs := fun env he b hb => .tail _ (hfs ▸ List.mem_filterMap.mpr ⟨env, he, hb⟩)
  have heb : base.get? e = none := fresh_of_stays K.stays heg
  have st : base.StaysIn (hideAll s'.heap (e :: fs)) := fun b o q => hideAll_get _ (K'.stays b o q) fun hm => by
    rcases List.mem_cons.mp hm with rfl | hm
    · rw [heb] at q; cases q
    · rw [(K'.frames.mem (hfs ▸ hm)).1] at q; cases q
  have hl : ∀ q ∈ news, (hideAll s'.heap (e :: fs)).get? q.1 = some q.2 ∧ base.get? q.1 = none := fun q hq => by
    refine ⟨hideAll_get _ (N q hq).1 fun hm => ?_, fresh_of_stays K.stays (N q hq).2.2⟩
    rcases List.mem_cons.mp hm with hm | hm
    · exact hne q hq hm
    · obtain ⟨env, he', hf⟩ := List.mem_filterMap.mp (hfs ▸ hm)
      rcases List.mem_cons.mp he' with rfl | he'
      · exact (N q hq).2.1 (Option.some.inj hf).symm
      · obtain ⟨o, ho, _⟩ := (K.frames.mem (List.mem_filterMap.mpr ⟨env, he', hf⟩)).2
        rw [(N q hq).2.2] at ho; cases ho
  have hen : (hideAll s'.heap (e :: fs)).get? e = none := hideAll_none _ (.head _)
  unfold leaving
  refine wpAny_bind (noteD0 K'.stack (funFrames_hide K'.frames hin) rfl he hx (fun b o q => of_hideAll _ q) hen hd h1 h0 fun h₁ N₁ d₁ => ?_)
  obtain ⟨n1, n2, n3, n4⟩ := N₁
  refine flightD n1 n2 n3 d₁ fun h₂ k1 k2 k3 k4 k5 => ?_
  obtain ⟨_, _, k2⟩ := k2
  exact hQ h₂ ⟨_, a0, st, hl, ⟨k1, hen, k2, k3⟩, k4⟩ ((Heap.UpToSlots.of_keeps F.keep).trans fun b o hb hnf => by
    obtain ⟨sl, hs⟩ := n4 b o hb hnf
    exact ⟨sl, k5 b _ hs hnf⟩)
theorem leaveD {cls : Value} (K : Below A base outer g) (F : Fr g L g₂ m) (R : RaisedD base (envOf name scope L a cd :: outer) e cls dx news s'.heap) (hsm : g₂.UpToSlots s'.heap)
    (hQ : ∀ h', RaisedD base outer e cls dx news h' → g.UpToSlots h' → Q () { s' with heap := h' }) :
    wpAny M (A.deeper (envOf name scope L a cd)) (leaving (envOf name scope L a cd) (.ref e)) Q E s' := by
  obtain ⟨B, a0, hB, hl, ⟨f1, f2, f3, f4⟩, hdx⟩ := R
  unfold leaving
  refine wpAny_bind (noteD (Around.frames_deeper K.stack) f3 rfl f4 hdx f1 f2 fun h₁ N₁ d₁ => ?_)
  obtain ⟨n1, n2, n3, n4⟩ := N₁
  refine flightD n1 n2 n3 d₁ fun h₂ k1 k2 k3 k4 k5 => ?_
  obtain ⟨_, _, k2⟩ := k2
  exact hQ h₂ ⟨B, a0, hB, hl, ⟨k1, f2, k2, k3⟩, k4⟩ (((Heap.UpToSlots.of_keeps F.keep).trans hsm).trans fun b o hb hnf => by
    obtain ⟨sl, hs⟩ := n4 b o hb hnf
    exact ⟨sl, k5 b _ hs hnf⟩)
end
section
variable {prog : Program} {w : World} {A₀ : Around} {E : Value → Shared → Prop} {s' : Shared} {h₀ h : Heap} {outer : List Env} {L a e dx : Addr} {m : Str → Option Value} {name : Str} {scope : Scope} {cd : Value}
  {n : Str} {b₀ : Stmt} {suite : List Stmt} {pos np : Pos} {rest : List ExceptHandler} {Q : Flow → Shared → Prop} {news : Led} {KF : Frag} {C : Addr}
  {p : Program} {loose : List Str} {mg mb : Str → Option Value} {x : Str}
  {nm q : Str} {N : Addr} {bs bm : List Value} {hdct : Bool} {sn : List Str} {sub : List Value} {ab : Bool} {col : Option Bool} {dd : Option Addr} {k0 k1 k2 k3 k5 : Option Value} {newId : String}
end
end
-- part H0
/-- all that a contract speaks of, in one: the walk is shown at one chosen constant («pick»), so that its terms are closed and shared -/
structure Cx where
  w : World
  mean : ExcName → Option Value
  mg : Str → Option Value
  mb : Str → Option Value
  dp : Nat
  un : Nat
  gd : Option (List Code)
  cn : Str
  cs : Scope
  a : Addr
  ccd : Value
  cl : List (Str × Addr)
  outer : List Env
  A₀ : Around
  base : Heap
  h₀ : Heap
  L : Addr
  m : Str → Option Value
  s : Shared
  Q : Value → Shared → Prop
  E : Value → Shared → Prop
  led : Led
  b1 : Array UInt8
  b2 : Array UInt8
  t1 : Tok
  t2 : Tok
  t3 : Tok
  t4 : Tok
  t5 : Tok
  i1 : Int
  i2 : Int
  k1 : List Int
  k2 : List Int
  k3 : List Int
  a1 : Addr
  a2 : Addr
  v1 : List Value
  n1 : Nat
  lat : Bool
theorem cx_some : Nonempty Cx := ⟨⟨aWorld 1, fun _ => none, fun _ => none, fun _ => none, 0, 0, none, default, { kind := .function, names := [], isGenerator := false, isCoroutine := false }, 0, .none, [], [], callerA, ⟨#[], default⟩, ⟨#[], default⟩, 0, fun _ => none, (start HP).1, fun _ _ => True, fun _ _ => True,
  [], #[], #[], default, default, default, default, default, 0, 0, [], [], [], 0, 0, [], 0, true⟩⟩
noncomputable def cx0 : Cx := Classical.choice cx_some
section
variable {α : Type}
theorem drink (ne : Nonempty α) (G : α → Prop) : Nonempty { x : α // G x → ∀ y, G y } := by
  by_cases h : ∀ y, G y
  · obtain ⟨x⟩ := ne
    exact ⟨⟨x, fun _ => h⟩⟩
  · obtain ⟨x, hx⟩ := Classical.not_forall.mp h
    exact ⟨⟨x, fun hp => absurd hp hx⟩⟩
@[irreducible] noncomputable def pick (ne : Nonempty α) (G : α → Prop) : α := (Classical.choice (drink ne G)).1
theorem pick_all {ne : Nonempty α} {G : α → Prop} {d : α} (e : d = pick ne G) (h : G d) : ∀ y, G y := by
  subst e
  unfold pick at h
  exact (Classical.choice (drink ne G)).2 h
end
/-- a cut: what is left to show, read off the walk -/
structure Cut (T : Prop) (α : Type) where
  G : α → Prop
  go : (∀ x, G x) → T
section
variable {T : Prop} {α β γ δ ε ζ η : Type}
abbrev Cut.mk1 {G : α → Prop} (go : (∀ a, G a) → T) : Cut T α := ⟨G, go⟩
abbrev Cut.mk2 {G : α → β → Prop} (go : (∀ a b, G a b) → T) : Cut T (α × β) := ⟨fun x => G x.1 x.2, fun h => go fun a b => h (a, b)⟩
abbrev Cut.mk3 {G : α → β → γ → Prop} (go : (∀ a b c, G a b c) → T) : Cut T (α × β × γ) := ⟨fun x => G x.1 x.2.1 x.2.2, fun h => go fun a b c => h (a, b, c)⟩
abbrev Cut.mk4 {G : α → β → γ → δ → Prop} (go : (∀ a b c d, G a b c d) → T) : Cut T (α × β × γ × δ) := ⟨fun x => G x.1 x.2.1 x.2.2.1 x.2.2.2, fun h => go fun a b c d => h (a, b, c, d)⟩
abbrev Cut.mk5 {G : α → β → γ → δ → ε → Prop} (go : (∀ a b c d e, G a b c d e) → T) : Cut T (α × β × γ × δ × ε) := ⟨fun x => G x.1 x.2.1 x.2.2.1 x.2.2.2.1 x.2.2.2.2, fun h => go fun a b c d e => h (a, b, c, d, e)⟩
abbrev Cut.mk6 {G : α → β → γ → δ → ε → ζ → Prop} (go : (∀ a b c d e f, G a b c d e f) → T) : Cut T (α × β × γ × δ × ε × ζ) := ⟨fun x => G x.1 x.2.1 x.2.2.1 x.2.2.2.1 x.2.2.2.2.1 x.2.2.2.2.2, fun h => go fun a b c d e f => h (a, b, c, d, e, f)⟩
abbrev Cut.mk7 {G : α → β → γ → δ → ε → ζ → η → Prop} (go : (∀ a b c d e f g, G a b c d e f g) → T) : Cut T (α × β × γ × δ × ε × ζ × η) := ⟨fun x => G x.1 x.2.1 x.2.2.1 x.2.2.2.1 x.2.2.2.2.1 x.2.2.2.2.2.1 x.2.2.2.2.2.2, fun h => go fun a b c d e f g => h (a, b, c, d, e, f, g)⟩
end
/-- the contracts at the constant -/
abbrev CtVc (c : Cx) (f : Addr) (d u : Nat) (vs : List Value) (pre : Prop) (R : Tok → Value) : Prop :=
    Below c.A₀ c.base c.outer c.h₀ → Fr c.h₀ c.L c.s.heap c.m → (KF c.w.params).In c.h₀ → News c.h₀ c.L c.s.heap c.led → Top VQ LS c.mean c.mg c.mb c.h₀ → c.cs.kind = .function →
    c.dp + d < recursionLimit → c.un + u < cLine → pre →
    (∀ (t : Tok) (h' : Heap) (tk' : Nat), Fr c.h₀ c.L h' c.m → News c.h₀ c.L h' c.led → c.Q (R t) { c.s with heap := h', toks := tk' }) →
    wpAny (model PySem.Challenge.rw_sj0126_01.row.prog c.w) (ktrTop c.dp c.un c.gd c.cn c.cs c.L c.a c.ccd c.cl c.outer) (call (.ref f) vs) c.Q c.E c.s
abbrev CtNc (c : Cx) (f : Addr) (d u : Nat) (news : Led) (vs : List Value) (pre : Prop) (Ret : Value → Led → Prop) : Prop :=
    Below c.A₀ c.base c.outer c.h₀ → Fr c.h₀ c.L c.s.heap c.m → (KF c.w.params).In c.h₀ → News c.h₀ c.L c.s.heap news → Top VQ LS c.mean c.mg c.mb c.h₀ → c.cs.kind = .function →
    c.dp + d < recursionLimit → c.un + u < cLine → pre →
    (∀ (v : Value) (new : Led) (h' : Heap) (tk' : Nat), Ret v new → Fr c.h₀ c.L h' c.m → News c.h₀ c.L h' (new ++ news) → (∀ p ∈ news, ∀ q ∈ new, p.1 < q.1) → c.Q v { c.s with heap := h', toks := tk' }) →
    wpAny (model PySem.Challenge.rw_sj0126_01.row.prog c.w) (ktrTop c.dp c.un c.gd c.cn c.cs c.L c.a c.ccd c.cl c.outer) (call (.ref f) vs) c.Q c.E c.s
abbrev CtEc (c : Cx) (f : Addr) (d u : Nat) (news : Led) (vs : List Value) (pre : Prop) (Ret : Value → Led → Prop) (C : Addr) (PX : List DictEntry → Prop) : Prop :=
    Below c.A₀ c.base c.outer c.h₀ → Fr c.h₀ c.L c.s.heap c.m → (KF c.w.params).In c.h₀ → News c.h₀ c.L c.s.heap news → Top VQ LS c.mean c.mg c.mb c.h₀ → c.cs.kind = .function →
    c.dp + d < recursionLimit → c.un + u < cLine → pre →
    (∀ (v : Value) (new : Led) (h' : Heap) (tk' : Nat), Ret v new → Fr c.h₀ c.L h' c.m → News c.h₀ c.L h' (new ++ news) → (∀ p ∈ news, ∀ q ∈ new, p.1 < q.1) → c.Q v { c.s with heap := h', toks := tk' }) →
    (∀ (e dx : Addr) (es : List DictEntry) (n : Nat) (g h' : Heap) (tk' : Nat), Fr c.h₀ c.L g c.m → g.UpToSlots h' → RaisedD c.base (envX c.cn c.cs c.L c.a c.ccd c.cl :: c.outer) e (.ref C) dx ((dx, dictOf es n) :: news) h' → (∀ p ∈ news, p.1 < dx) → PX es → c.E (.ref e) { c.s with heap := h', toks := tk' }) →
    wpAny (model PySem.Challenge.rw_sj0126_01.row.prog c.w) (ktrTop c.dp c.un c.gd c.cn c.cs c.L c.a c.ccd c.cl c.outer) (call (.ref f) vs) c.Q c.E c.s
abbrev CtGc (c : Cx) (f : Addr) (d u : Nat) (news newsX : Led) (vs : List Value) (pre : Prop) (Ret : Value → Led → Prop) (C : Addr) (PX : List DictEntry → Prop) : Prop :=
    Below c.A₀ c.base c.outer c.h₀ → Fr c.h₀ c.L c.s.heap c.m → (KF c.w.params).In c.h₀ → News c.h₀ c.L c.s.heap news → Top VQ LS c.mean c.mg c.mb c.h₀ → c.cs.kind = .function →
    c.dp + d < recursionLimit → c.un + u < cLine → pre →
    (∀ (v : Value) (led : Led) (h' : Heap) (tk' : Nat), Ret v led → Fr c.h₀ c.L h' c.m → News c.h₀ c.L h' led → c.Q v { c.s with heap := h', toks := tk' }) →
    (∀ (e dx : Addr) (es : List DictEntry) (n : Nat) (g h' : Heap) (tk' : Nat), Fr c.h₀ c.L g c.m → g.UpToSlots h' → RaisedD c.base (envX c.cn c.cs c.L c.a c.ccd c.cl :: c.outer) e (.ref C) dx ((dx, dictOf es n) :: newsX) h' → (∀ p ∈ newsX, p.1 < dx) → PX es → c.E (.ref e) { c.s with heap := h', toks := tk' }) →
    wpAny (model PySem.Challenge.rw_sj0126_01.row.prog c.w) (ktrTop c.dp c.un c.gd c.cn c.cs c.L c.a c.ccd c.cl c.outer) (call (.ref f) vs) c.Q c.E c.s
abbrev CtN0c (c : Cx) (f : Addr) (d u : Nat) (news : Led) (vs : List Value) (Ret : Value → Led → Prop) : Prop :=
    Below c.A₀ c.h₀ [] c.h₀ → Fr c.h₀ c.L c.s.heap c.m → (KF c.w.params).In c.h₀ → News c.h₀ c.L c.s.heap news → Top VQ LS c.mean c.mg c.mb c.h₀ → c.cs.kind = .function →
    c.dp + d < recursionLimit → c.un + u < cLine →
    (∀ (v : Value) (new : Led) (h' : Heap) (tk' : Nat), Ret v new → Fr c.h₀ c.L h' c.m → News c.h₀ c.L h' (new ++ news) → (∀ p ∈ news, ∀ q ∈ new, p.1 < q.1) → c.Q v { c.s with heap := h', toks := tk' }) →
    wpAny (model PySem.Challenge.rw_sj0126_01.row.prog c.w) (ktrTop c.dp c.un c.gd c.cn c.cs c.L c.a c.ccd c.cl []) (call (.ref f) vs) c.Q c.E c.s
structure Lx where
  w : World
  mean : ExcName → Option Value
  mg : Str → Option Value
  mb : Str → Option Value
  g : Heap
  L : Addr
  la : Addr
  a1 : Addr
  a2 : Addr
  a3 : Addr
  a4 : Addr
  a5 : Addr
  a6 : Addr
  lcd : Value
  x1 : Value
  x2 : Value
  x3 : Value
  u : Str → Option Value
  s : Shared
  Q : Flow → Shared → Prop
  E : Value → Shared → Prop
  rest : List Stmt
  i1 : Int
  i2 : Int
  i3 : Int
  i4 : Int
  t1 : Tok
  t2 : Tok
  t3 : Tok
  t4 : Tok
  t5 : Tok
  t6 : Tok
  t7 : Tok
  t8 : Tok
  b1 : Array UInt8
  b2 : Array UInt8
  b3 : Array UInt8
  b4 : Array UInt8
  k1 : List Int
  k2 : List Int
  k3 : List Int
  k4 : List Int
  k5 : List Int
  v1 : List Value
  v2 : List Value
  v3 : List Value
  n1 : Nat
  n2 : Nat
  n3 : Nat
  n4 : Nat
  n5 : Nat
  n6 : Nat
  r1 : Array Value
  p1 : List (List Int ⊕ Int)
theorem lx_some : Nonempty Lx := ⟨⟨aWorld 1, fun _ => none, fun _ => none, fun _ => none, ⟨#[], default⟩, 0, 0, 0, 0, 0, 0, 0, 0, .none, .none, .none, .none, fun _ => none, (start HP).1, fun _ _ => True, fun _ _ => True, [], 0, 0, 0, 0, default, default, default, default, default, default, default, default, #[], #[], #[], #[], [], [], [], [], [], [], [], [], 0, 0, 0, 0, 0, 0, #[], []⟩⟩
noncomputable def lx0 : Lx := Classical.choice lx_some
-- part A1
def isFig (o : Int) : Bool := decide (48 ≤ o) && decide (o ≤ 57)
def rLen (r : Int) : Int := if r < 128 then 1 else if r < 2048 then 2 else if r < 65536 then 3 else 4
def rLead (m : Int) : Int := if m = 2 then 192 else if m = 3 then 224 else 240
def fLen (o : Int) : Int := if o < 128 then 1 else if o < 192 then 0 else if 248 ≤ o then 0 else if o < 224 then 2 else if o < 240 then 3 else 4
def isWord (o : Int) : Bool := decide (o = 95) || (decide (48 ≤ o) && decide (o ≤ 57)) || (decide (65 ≤ o) && decide (o ≤ 90)) || (decide (97 ≤ o) && decide (o ≤ 122))
theorem flen_cases (o : Int) : fLen o = 0 ∨ fLen o = 1 ∨ fLen o = 2 ∨ fLen o = 3 ∨ fLen o = 4 := by unfold fLen; (repeat' split) <;> omega
theorem flen_lead {o : Int} (h1 : fLen o ≠ 1) (h0 : fLen o ≠ 0) : 2 ≤ fLen o ∧ fLen o ≤ 4 := by have := flen_cases o; omega
local macro_rules | `(tactic| walk_at "ite") => `(tactic| (k_here; (fail_if_success k_openite); first | (refine ite_neg (by (try simp only [decide_eq_true_eq]); omega) ?_) | (refine ite_pos (by (try simp only [decide_eq_true_eq]); omega) ?_)))
local macro_rules | `(tactic| walk_at "call ref") => `(tactic| ((with_reducible rename MyCalls => calls9); refine held ?_))
local macro_rules | `(tactic| walk_at "exec While Compare cons nil") => `(tactic| ((with_reducible rename MyLoops => loops9); refine held ?_))
local macro_rules | `(tactic| walk_at "exec While UnaryOp cons nil") => `(tactic| walk_at "exec While Compare cons nil")
local macro_rules | `(tactic| walk_at "InvEndN") => `(tactic| refine held ?_)
local macro_rules | `(tactic| walk_at "exec For Name Subscript cons nil") => `(tactic| ((with_reducible rename MyLoops => loops9); (k_here; (rename Fr _ _ _ _ => lF'); (with_unfolding_all refine' For_invVF lF' ?k1 ?k2 ?_; (case k1 => exact rfl); (case k2 => exact rfl); k_whole))))
local macro_rules | `(tactic| walk_at "exec For Name Name cons nil") => `(tactic| walk_at "exec For Name Subscript cons nil")
local macro_rules | `(tactic| walk_at "exec For Name Call cons nil") => `(tactic| walk_at "exec For Name Subscript cons nil")
local macro_rules | `(tactic| walk_at "pyIter bytes") => `(tactic| ((with_reducible rename MyLoops => loops9); ((with_reducible show wpAny _ _ (pyIter (Value.bytes _ _)) (fun it s₂ => LoopAtV _ _ _ _ _ _ _ _ _ it s₂) _ _); refine held ?_)))
local macro_rules | `(tactic| walk_at "pyIter ref") => `(tactic| ((with_reducible rename MyLoops => loops9); ((with_reducible show wpAny _ _ (pyIter (Value.ref _)) (fun it s₂ => LoopAtV _ _ _ _ _ _ _ _ _ it s₂) _ _); refine held ?_)))
theorem isFig_iff (n : Int) : isFig n = true ↔ 48 ≤ n ∧ n ≤ 57 := by unfold isFig; simp
theorem isFig_no {n : Int} (h : isFig n = false) : n < 48 ∨ 57 < n := by unfold isFig at h; simp at h; omega
theorem isWord_iff (n : Int) : isWord n = true ↔ n = 95 ∨ (48 ≤ n ∧ n ≤ 57) ∨ (65 ≤ n ∧ n ≤ 90) ∨ (97 ≤ n ∧ n ≤ 122) := by unfold isWord; simp; omega
theorem oct_back {n : Int} (h0 : 0 ≤ n) (h1 : n < 256) : (n.toNat.toUInt8.toNat : Int) = n := by
  obtain ⟨k, rfl⟩ := Int.eq_ofNat_of_zero_le h0
  have hk : k < 256 := by omega
  simp [Nat.toUInt8, Nat.mod_eq_of_lt hk]
theorem ints1 {n : Int} (h0 : 0 ≤ n) (h1 : n < 256) : KBw.bInts #[n.toNat.toUInt8] = [n] := by
  show [((n.toNat.toUInt8.toNat : Nat) : Int)] = [n]
  rw [oct_back h0 h1]
theorem ints2 {m n : Int} (g0 : 0 ≤ m) (g1 : m < 256) (h0 : 0 ≤ n) (h1 : n < 256) : KBw.bInts #[m.toNat.toUInt8, n.toNat.toUInt8] = [m, n] := by
  show [((m.toNat.toUInt8.toNat : Nat) : Int), ((n.toNat.toUInt8.toNat : Nat) : Int)] = [m, n]
  rw [oct_back h0 h1, oct_back g0 g1]
theorem isfig_ok (r : Rw) (w : World) (mean : ExcName → Option Value) (mg mb : Str → Option Value) (o : Int) (t : Tok) : CtV w mean mg mb 93 2 16 [.int o t] True (fun _ => .bool (isFig o)) := by
  unfold CtV
  k_fill
  intros
  rename_i hd hu hpre hret
  (((refine wpAny_call ?_); k_dflt cell_enter))
  (repeat' (first | (k_unfold; (try dsimp only)) | walk1 | (dsimp only; walk1) | (leave1; (try dsimp only))))
  all_goals (refine cb_retB hret ?_ (by k_asm) (by k_asm); unfold isFig; (((try simp only [decide_eq_true_eq, decide_eq_false_iff_not, Bool.not_eq_true, Bool.not_eq_false, Bool.and_eq_true, Bool.or_eq_true, beq_iff_eq] at *); (refine Bool.eq_iff_iff.mpr ?_); (try simp only [beq_iff_eq, Bool.and_eq_true, Bool.or_eq_true, decide_eq_true_eq, Bool.not_eq_true', decide_eq_false_iff_not, Bool.false_eq_true, true_iff, false_iff, eq_self, iff_true, iff_false]); omega)))
theorem rlen_ok (r : Rw) (w : World) (mean : ExcName → Option Value) (mg mb : Str → Option Value) (o : Int) (t : Tok) : CtV w mean mg mb 128 2 16 [.int o t] True (fun tt => .int (rLen o) tt) := by
  unfold CtV
  k_fill
  intros
  rename_i hd hu hpre hret
  (((refine wpAny_call ?_); k_dflt cell_enter))
  (repeat' (first | (k_unfold; (try dsimp only)) | walk1 | (dsimp only; walk1) | (leave1; (try dsimp only))))
  all_goals (refine cb_retI hret ?_ (by k_asm) (by k_asm); unfold rLen; (((try simp only [decide_eq_true_eq, decide_eq_false_iff_not] at *); (repeat' split) <;> omega)))
def flen_ok_P (c : Cx) : Prop := CtVc c 149 2 16 [.int c.i1 c.t1] True (fun tt => .int (fLen c.i1) tt)
@[irreducible] noncomputable def flen_ok_c : Cx := pick cx_some flen_ok_P
noncomputable def flen_ok_g : Cut (flen_ok_P flen_ok_c) (Heap × Addr × Heap) := by
  refine Cut.mk3 (G := ?G) fun H => ?main
  rotate_left
  unfold flen_ok_P CtVc
  k_fill
  intro hB0 hF0 hX0 hN0 hT0 hk0 hd hu hpre hret
  refine wpAny_call ?_
  with_unfolding_all refine' code_def ?k1 ?k2 ?k3 ?k4 ?k5 ?kA ?kF ?kK ?k6 ?k7 ?k8 ?k9 ?kB ?_ ?c2 ?c3 ?c4 ?c5
  case kA => exact rfl
  case kF => exact rfl
  case kK => assumption
  case k1 => k_asm
  case k2 => k_asm
  case k3 => k_asm
  case k4 => k_asm
  case k5 => k_asm
  case k6 => k_is
  case k7 => k_is
  case k8 => exact Nat.lt_of_le_of_lt (Nat.le_add_right _ _) hd
  case k9 => exact BindsTo.of_eq (binds := [(Str.ofString "octet", .int flen_ok_c.i1 flen_ok_c.t1)]) rfl
  case c5 => decide
  case kB => exact locs rfl
  case c2 => exact rfl
  case c3 => exact rfl
  case c4 => exact rfl
  intro gH LH hH FGH FH NH BH XH TH
  (try dsimp only)
  (try k_lift BH)
  revert hB0 hX0 hT0 hk0 hd hu hpre hret FGH FH NH BH XH TH
  exact H gH LH hH
@[irreducible] noncomputable def flen_ok_d : Heap × Addr × Heap := pick ⟨(⟨#[], default⟩, 0, ⟨#[], default⟩)⟩ flen_ok_g.G
theorem flen_ok_t1 : flen_ok_g.G flen_ok_d := by
  intro hB0 hX0 hT0 hk0 hd hu hpre hret FGH FH NH BH XH TH
  (try k_fold)
  (repeat' (first | (k_unfold; (try dsimp only)) | walk1 | (dsimp only; walk1) | (leave1; (try dsimp only))))
  all_goals (refine cb_retI hret ?_ (by k_asm) (by k_asm); unfold fLen; (((try simp only [decide_eq_true_eq, decide_eq_false_iff_not] at *); (repeat' split) <;> omega)))
theorem flen_ok (r : Rw) (w : World) (mean : ExcName → Option Value) (mg mb : Str → Option Value) (o : Int) (t : Tok) : CtV w mean mg mb 149 2 16 [.int o t] True (fun tt => .int (fLen o) tt) := by
  intro dp9 un9 gd9 cn9 cs9 a9 ccd9 cl9 outer9 A₀9 base9 h₀9 L9 m9 led9 s9 Q9 E9
  exact pick_all (ne := cx_some) (by with_unfolding_all rfl) (flen_ok_g.go (pick_all (ne := ⟨(⟨#[], default⟩, 0, ⟨#[], default⟩)⟩) (by with_unfolding_all rfl) flen_ok_t1)) { cx0 with w := w, mean := mean, mg := mg, mb := mb, dp := dp9, un := un9, gd := gd9, cn := cn9, cs := cs9, a := a9, ccd := ccd9, cl := cl9, outer := outer9, A₀ := A₀9, base := base9, h₀ := h₀9, L := L9, m := m9, led := led9, s := s9, Q := Q9, E := E9, i1 := o, t1 := t } 
def isword_ok_P (c : Cx) : Prop := CtVc c 335 2 16 [.int c.i1 c.t1] True (fun _ => .bool (isWord c.i1))
@[irreducible] noncomputable def isword_ok_c : Cx := pick cx_some isword_ok_P
noncomputable def isword_ok_g : Cut (isword_ok_P isword_ok_c) (Heap × Addr × Heap) := by
  refine Cut.mk3 (G := ?G) fun H => ?main
  rotate_left
  unfold isword_ok_P CtVc
  k_fill
  intro hB0 hF0 hX0 hN0 hT0 hk0 hd hu hpre hret
  refine wpAny_call ?_
  with_unfolding_all refine' code_def ?k1 ?k2 ?k3 ?k4 ?k5 ?kA ?kF ?kK ?k6 ?k7 ?k8 ?k9 ?kB ?_ ?c2 ?c3 ?c4 ?c5
  case kA => exact rfl
  case kF => exact rfl
  case kK => assumption
  case k1 => k_asm
  case k2 => k_asm
  case k3 => k_asm
  case k4 => k_asm
  case k5 => k_asm
  case k6 => k_is
  case k7 => k_is
  case k8 => exact Nat.lt_of_le_of_lt (Nat.le_add_right _ _) hd
  case k9 => exact BindsTo.of_eq (binds := [(Str.ofString "octet", .int isword_ok_c.i1 isword_ok_c.t1)]) rfl
  case c5 => decide
  case kB => exact locs rfl
  case c2 => exact rfl
  case c3 => exact rfl
  case c4 => exact rfl
  intro gH LH hH FGH FH NH BH XH TH
  (try dsimp only)
  (try k_lift BH)
  revert hB0 hX0 hT0 hk0 hd hu hpre hret FGH FH NH BH XH TH
  exact H gH LH hH
@[irreducible] noncomputable def isword_ok_d : Heap × Addr × Heap := pick ⟨(⟨#[], default⟩, 0, ⟨#[], default⟩)⟩ isword_ok_g.G
theorem isword_ok_t1 : isword_ok_g.G isword_ok_d := by
  intro hB0 hX0 hT0 hk0 hd hu hpre hret FGH FH NH BH XH TH
  (try k_fold)
  (repeat' (first | (k_unfold; (try dsimp only)) | walk1 | (dsimp only; walk1) | (leave1; (try dsimp only))))
  all_goals (refine cb_retB hret ?_ (by k_asm) (by k_asm); unfold isWord; (((try simp only [decide_eq_true_eq, decide_eq_false_iff_not, Bool.not_eq_true, Bool.not_eq_false, Bool.and_eq_true, Bool.or_eq_true, beq_iff_eq] at *); (refine Bool.eq_iff_iff.mpr ?_); (try simp only [beq_iff_eq, Bool.and_eq_true, Bool.or_eq_true, decide_eq_true_eq, Bool.not_eq_true', decide_eq_false_iff_not, Bool.false_eq_true, true_iff, false_iff, eq_self, iff_true, iff_false]); omega)))
theorem isword_ok (r : Rw) (w : World) (mean : ExcName → Option Value) (mg mb : Str → Option Value) (o : Int) (t : Tok) : CtV w mean mg mb 335 2 16 [.int o t] True (fun _ => .bool (isWord o)) := by
  intro dp9 un9 gd9 cn9 cs9 a9 ccd9 cl9 outer9 A₀9 base9 h₀9 L9 m9 led9 s9 Q9 E9
  exact pick_all (ne := cx_some) (by with_unfolding_all rfl) (isword_ok_g.go (pick_all (ne := ⟨(⟨#[], default⟩, 0, ⟨#[], default⟩)⟩) (by with_unfolding_all rfl) isword_ok_t1)) { cx0 with w := w, mean := mean, mg := mg, mb := mb, dp := dp9, un := un9, gd := gd9, cn := cn9, cs := cs9, a := a9, ccd := ccd9, cl := cl9, outer := outer9, A₀ := A₀9, base := base9, h₀ := h₀9, L := L9, m := m9, led := led9, s := s9, Q := Q9, E := E9, i1 := o, t1 := t } 
theorem rlead_ok (r : Rw) (w : World) (mean : ExcName → Option Value) (mg mb : Str → Option Value) (o : Int) (t : Tok) : CtV w mean mg mb 135 2 16 [.int o t] (2 ≤ o ∧ o ≤ 4) (fun tt => .int (rLead o) tt) := by
  unfold CtV
  k_fill
  intros
  rename_i hd hu hpre hret
  (((refine wpAny_call ?_); k_dflt cell_enter))
  obtain ⟨h2, h4⟩ := hpre
  (repeat' (first | (k_unfold; (try dsimp only)) | walk1 | (dsimp only; walk1) | (leave1; (try dsimp only))))
  refine cb_retI hret ?_ (by k_asm) (by k_asm)
  obtain rfl | rfl | rfl : o = 2 ∨ o = 3 ∨ o = 4 := by omega
  all_goals rfl
-- part A2
def contRune (acc : Int) : List Int → Option Int
  | [] => some acc
  | o :: t => if 128 ≤ o ∧ o < 192 then contRune (acc * 64 + o - 128) t else none
theorem contRune_snoc (l : List Int) (o : Int) : ∀ acc : Int, contRune acc (l ++ [o]) = (contRune acc l).bind fun r => if 128 ≤ o ∧ o < 192 then some (r * 64 + o - 128) else none := by
  induction l with
  | nil => intro acc; simp [contRune]
  | cons p r ih =>
    intro acc
    simp only [List.cons_append, contRune]
    split
    · exact ih _
    · rfl
theorem contRune_none {l : List Int} {o : Int} (r : List Int) (h : ¬ (128 ≤ o ∧ o < 192)) : ∀ acc : Int, contRune acc (l ++ o :: r) = none := by
  induction l with
  | nil => intro acc; simp [contRune, h]
  | cons p l ih =>
    intro acc
    simp only [List.cons_append, contRune]
    split
    · exact ih _
    · rfl
def runeAt (ks : List Int) (i : Int) : Int × Int :=
  if fLen (ks.getD i.toNat 0) = 1 then (ks.getD i.toNat 0, 1) else if fLen (ks.getD i.toNat 0) = 0 then (65533, 1) else if (ks.length : Int) < i + fLen (ks.getD i.toNat 0) then (65533, 1)
  else match contRune (ks.getD i.toNat 0 - rLead (fLen (ks.getD i.toNat 0))) (seg ks (i + 1) (i + fLen (ks.getD i.toNat 0))) with
    | none => (65533, 1)
    | some r => if r > 1114111 then (65533, 1) else if rLen r ≠ fLen (ks.getD i.toNat 0) then (65533, 1) else (r, fLen (ks.getD i.toNat 0))
def rat_ok_P (c : Cx) : Prop := ∀ (hks : KBw.bInts c.b1 = c.k1) (hz : c.k1.length ≤ 100000) (h0 : 0 ≤ c.i1) (h1 : c.i1 < (c.k1.length : Int)) , CtNc c 156 4 40 c.led [.bytes c.b1 c.t1, .int c.i1 c.t2] True (RetPair (runeAt c.k1 c.i1))
@[irreducible] noncomputable def rat_ok_c : Cx := pick cx_some rat_ok_P
noncomputable def rat_ok_g : Cut (rat_ok_P rat_ok_c) (Heap × Addr × Heap) := by
  refine Cut.mk3 (G := ?G) fun H => ?main
  rotate_left
  unfold rat_ok_P CtNc
  k_fill
  intro hks hz h0 h1 hB0 hF0 hX0 hN0 hT0 hk0 hd hu hpre hret
  refine wpAny_call ?_
  with_unfolding_all refine' code_def ?k1 ?k2 ?k3 ?k4 ?k5 ?kA ?kF ?kK ?k6 ?k7 ?k8 ?k9 ?kB ?_ ?c2 ?c3 ?c4 ?c5
  case kA => exact rfl
  case kF => exact rfl
  case kK => assumption
  case k1 => k_asm
  case k2 => k_asm
  case k3 => k_asm
  case k4 => k_asm
  case k5 => k_asm
  case k6 => k_is
  case k7 => k_is
  case k8 => exact Nat.lt_of_le_of_lt (Nat.le_add_right _ _) hd
  case k9 => exact BindsTo.of_eq (binds := [(Str.ofString "octets", .bytes rat_ok_c.b1 rat_ok_c.t1), (Str.ofString "at", .int rat_ok_c.i1 rat_ok_c.t2)]) rfl
  case c5 => decide
  case kB => exact locs rfl
  case c2 => exact rfl
  case c3 => exact rfl
  case c4 => exact rfl
  intro gH LH hH FGH FH NH BH XH TH
  (try dsimp only)
  (try k_lift BH)
  revert hks hz h0 h1 hB0 hX0 hT0 hk0 hd hu hpre hret FGH FH NH BH XH TH
  exact H gH LH hH
@[irreducible] noncomputable def rat_ok_d : Heap × Addr × Heap := pick ⟨(⟨#[], default⟩, 0, ⟨#[], default⟩)⟩ rat_ok_g.G
theorem rat_ok_t1 : rat_ok_g.G rat_ok_d := by
  intro hks hz h0 h1 hB0 hX0 hT0 hk0 hd hu hpre hret FGH FH NH BH XH TH
  have loops := myLoops
  have calls := myCalls
  (try k_fold)
  have hc := flen_cases (rat_ok_c.k1.getD rat_ok_c.i1.toNat 0)
  (repeat' (first | (k_unfold; (try dsimp only)) | walk1 | (dsimp only; walk1) | (leave1; (try dsimp only)) | (refine Held.go ?_; first | ((with_reducible show wpAny _ _ (call (Value.ref _) _) _ _ _); first | ((k_here; (k_dflt refine' ctv_use (flen_ok ⟨_, rfl⟩ _ _ _ _ _ _) ?k1 ?k2 ?k3 ?k4 ?k5 ?kK ?kd ?ku ?kp ?_); (((case k1 => k_asm); (case k2 => k_asm); (case k3 => k_asm); (case k4 => k_asm); (case k5 => k_asm); (case kK => first | exact rfl | assumption); (case kd => first | exact room2 (by assumption) rfl | ktr_room); (case ku => first | exact unit2 (by assumption) rfl | ktr_units))); (case kp => trivial); (((intro t9 h9 tk9 F9 N9); (try dsimp only); (try k_fold))))) | ((k_here; (k_dflt refine' ctv_use (rlen_ok ⟨_, rfl⟩ _ _ _ _ _ _) ?k1 ?k2 ?k3 ?k4 ?k5 ?kK ?kd ?ku ?kp ?_); (((case k1 => k_asm); (case k2 => k_asm); (case k3 => k_asm); (case k4 => k_asm); (case k5 => k_asm); (case kK => first | exact rfl | assumption); (case kd => first | exact room2 (by assumption) rfl | ktr_room); (case ku => first | exact unit2 (by assumption) rfl | ktr_units))); (case kp => trivial); (((intro t9 h9 tk9 F9 N9); (try dsimp only); (try k_fold))))) | ((k_here; (k_dflt refine' ctv_use (rlead_ok ⟨_, rfl⟩ _ _ _ _ _ _) ?k1 ?k2 ?k3 ?k4 ?k5 ?kK ?kd ?ku ?kp ?_); (((case k1 => k_asm); (case k2 => k_asm); (case k3 => k_asm); (case k4 => k_asm); (case k5 => k_asm); (case kK => first | exact rfl | assumption); (case kd => first | exact room2 (by assumption) rfl | ktr_room); (case ku => first | exact unit2 (by assumption) rfl | ktr_units))); (case kp => first | omega | (exact flen_lead (by assumption) (by assumption)) | (constructor <;> omega)); (((intro t9 h9 tk9 F9 N9); (try dsimp only); (try k_fold)))))))))
  · ((refine endPair (by assumption) ?_ (by k_asm) (by k_asm) (by first | exact fun q hq => hq | (intro q hq; simp [hq])) (by first | assumption | exact of_allLt (by assumption))))
    unfold runeAt
    rw [if_pos (by assumption)]
  · ((refine endPair (by assumption) ?_ (by k_asm) (by k_asm) (by first | exact fun q hq => hq | (intro q hq; simp [hq])) (by first | assumption | exact of_allLt (by assumption))))
    unfold runeAt
    rw [if_neg (by assumption), if_pos (by assumption)]
  · ((refine endPair (by assumption) ?_ (by k_asm) (by k_asm) (by first | exact fun q hq => hq | (intro q hq; simp [hq])) (by first | assumption | exact of_allLt (by assumption))))
    unfold runeAt
    rw [if_neg (by assumption), if_neg (by assumption), if_pos (by assumption)]
  · refine Held.go ?_
    (rename Fr _ _ _ _ => F); (rename News _ _ _ _ => N); (rename KBw.bInts (KBy.picked _ _ _) = _ => hP)
    rw [seg_of (by omega) (by omega)] at hP
    have hsl := seg_length rat_ok_c.k1 (rat_ok_c.i1 + 1) (rat_ok_c.i1 + fLen (rat_ok_c.k1.getD rat_ok_c.i1.toNat 0))
    with_unfolding_all refine' KStb.kst_bytes (σ := Int × Tok) (fun _ => rat_ok_c.led) (fun c => [(Str.ofString "rune", Value.int c.1 c.2)]) (fun _ => True) [] (fun pre c => contRune (rat_ok_c.k1.getD rat_ok_c.i1.toNat 0 - rLead (fLen (rat_ok_c.k1.getD rat_ok_c.i1.toNat 0))) pre = some c.1) (_, _) hP rfl rfl F N trivial ?kk ?kp ?turn ?done
    case kk => kst_all
    case kp => rfl
    case turn =>
      intro c pre post n tq u h tk own he hlt hn0 hn1 hoff _ hP' F' N'
      (try dsimp only [kstB] at F')
      (repeat' (first | (k_unfold; (try dsimp only)) | walk1 | (dsimp only; walk1) | (leave1; (try dsimp only)) | (refine Held.go ?_; first | ((with_reducible show wpAny _ _ (call (Value.ref _) _) _ _ _); first | ((k_here; (k_dflt refine' ctv_use (flen_ok ⟨_, rfl⟩ _ _ _ _ _ _) ?k1 ?k2 ?k3 ?k4 ?k5 ?kK ?kd ?ku ?kp ?_); (((case k1 => k_asm); (case k2 => k_asm); (case k3 => k_asm); (case k4 => k_asm); (case k5 => k_asm); (case kK => first | exact rfl | assumption); (case kd => first | exact room2 (by assumption) rfl | ktr_room); (case ku => first | exact unit2 (by assumption) rfl | ktr_units))); (case kp => trivial); (((intro t9 h9 tk9 F9 N9); (try dsimp only); (try k_fold))))) | ((k_here; (k_dflt refine' ctv_use (rlen_ok ⟨_, rfl⟩ _ _ _ _ _ _) ?k1 ?k2 ?k3 ?k4 ?k5 ?kK ?kd ?ku ?kp ?_); (((case k1 => k_asm); (case k2 => k_asm); (case k3 => k_asm); (case k4 => k_asm); (case k5 => k_asm); (case kK => first | exact rfl | assumption); (case kd => first | exact room2 (by assumption) rfl | ktr_room); (case ku => first | exact unit2 (by assumption) rfl | ktr_units))); (case kp => trivial); (((intro t9 h9 tk9 F9 N9); (try dsimp only); (try k_fold))))) | ((k_here; (k_dflt refine' ctv_use (rlead_ok ⟨_, rfl⟩ _ _ _ _ _ _) ?k1 ?k2 ?k3 ?k4 ?k5 ?kK ?kd ?ku ?kp ?_); (((case k1 => k_asm); (case k2 => k_asm); (case k3 => k_asm); (case k4 => k_asm); (case k5 => k_asm); (case kK => first | exact rfl | assumption); (case kd => first | exact room2 (by assumption) rfl | ktr_room); (case ku => first | exact unit2 (by assumption) rfl | ktr_units))); (case kp => first | omega | (exact flen_lead (by assumption) (by assumption)) | (constructor <;> omega)); (((intro t9 h9 tk9 F9 N9); (try dsimp only); (try k_fold)))))))))
      · refine Held.go ?_
        (rename Fr _ _ _ _ => F); (rename News _ _ _ _ => N)
        refine kst_end (_, _) F N (fun p hp => List.mem_append_left _ hp) (fun p hp => List.mem_append_right _ hp) rfl trivial (by kst_all) (by kst_same) ?_
        rw [contRune_snoc, hP']
        simp only [Option.bind_some]
        rw [if_pos (by omega)]
      all_goals (
        ((refine endPair (by assumption) ?_ (by k_asm) (by k_asm) (by first | exact fun q hq => hq | (intro q hq; simp [hq])) (by first | assumption | exact of_allLt (by assumption))))
        unfold runeAt
        rw [if_neg (by assumption), if_neg (by assumption), if_neg (by assumption), he, contRune_none post (by omega)])
    case done =>
      intro c u h tk hl _ hP' F' N'
      (try dsimp only [kstB] at F')
      (repeat' (first | (k_unfold; (try dsimp only)) | walk1 | (dsimp only; walk1) | (leave1; (try dsimp only)) | (refine Held.go ?_; first | ((with_reducible show wpAny _ _ (call (Value.ref _) _) _ _ _); first | ((k_here; (k_dflt refine' ctv_use (flen_ok ⟨_, rfl⟩ _ _ _ _ _ _) ?k1 ?k2 ?k3 ?k4 ?k5 ?kK ?kd ?ku ?kp ?_); (((case k1 => k_asm); (case k2 => k_asm); (case k3 => k_asm); (case k4 => k_asm); (case k5 => k_asm); (case kK => first | exact rfl | assumption); (case kd => first | exact room2 (by assumption) rfl | ktr_room); (case ku => first | exact unit2 (by assumption) rfl | ktr_units))); (case kp => trivial); (((intro t9 h9 tk9 F9 N9); (try dsimp only); (try k_fold))))) | ((k_here; (k_dflt refine' ctv_use (rlen_ok ⟨_, rfl⟩ _ _ _ _ _ _) ?k1 ?k2 ?k3 ?k4 ?k5 ?kK ?kd ?ku ?kp ?_); (((case k1 => k_asm); (case k2 => k_asm); (case k3 => k_asm); (case k4 => k_asm); (case k5 => k_asm); (case kK => first | exact rfl | assumption); (case kd => first | exact room2 (by assumption) rfl | ktr_room); (case ku => first | exact unit2 (by assumption) rfl | ktr_units))); (case kp => trivial); (((intro t9 h9 tk9 F9 N9); (try dsimp only); (try k_fold))))) | ((k_here; (k_dflt refine' ctv_use (rlead_ok ⟨_, rfl⟩ _ _ _ _ _ _) ?k1 ?k2 ?k3 ?k4 ?k5 ?kK ?kd ?ku ?kp ?_); (((case k1 => k_asm); (case k2 => k_asm); (case k3 => k_asm); (case k4 => k_asm); (case k5 => k_asm); (case kK => first | exact rfl | assumption); (case kd => first | exact room2 (by assumption) rfl | ktr_room); (case ku => first | exact unit2 (by assumption) rfl | ktr_units))); (case kp => first | omega | (exact flen_lead (by assumption) (by assumption)) | (constructor <;> omega)); (((intro t9 h9 tk9 F9 N9); (try dsimp only); (try k_fold)))))))))
      all_goals (
        ((refine endPair (by assumption) ?_ (by k_asm) (by k_asm) (by first | exact fun q hq => hq | (intro q hq; simp [hq])) (by first | assumption | exact of_allLt (by assumption))))
        unfold runeAt
        rw [if_neg (by assumption), if_neg (by assumption), if_neg (by assumption), hP']
        dsimp only
        first
          | rw [if_pos (by omega)]
          | rw [if_neg (by omega), if_pos (by omega)]
          | rw [if_neg (by omega), if_neg (by omega)])
theorem rat_ok (r : Rw) (w : World) (mean : ExcName → Option Value) (mg mb : Str → Option Value) (news : Led) (b : Array UInt8) (t : Tok) (i : Int) (t2 : Tok) (ks : List Int) (hks : KBw.bInts b = ks) (hz : ks.length ≤ 100000) (h0 : 0 ≤ i) (h1 : i < (ks.length : Int)) :
    CtN w mean mg mb 156 4 40 news [.bytes b t, .int i t2] True (RetPair (runeAt ks i)) := by
  intro dp9 un9 gd9 cn9 cs9 a9 ccd9 cl9 outer9 A₀9 base9 h₀9 L9 m9 s9 Q9 E9
  exact pick_all (ne := cx_some) (by with_unfolding_all rfl) (rat_ok_g.go (pick_all (ne := ⟨(⟨#[], default⟩, 0, ⟨#[], default⟩)⟩) (by with_unfolding_all rfl) rat_ok_t1)) { cx0 with w := w, mean := mean, mg := mg, mb := mb, dp := dp9, un := un9, gd := gd9, cn := cn9, cs := cs9, a := a9, ccd := ccd9, cl := cl9, outer := outer9, A₀ := A₀9, base := base9, h₀ := h₀9, L := L9, m := m9, s := s9, Q := Q9, E := E9, led := news, b1 := b, t1 := t, i1 := i, t2 := t2, k1 := ks } hks hz h0 h1
-- part R1
section
open Builtin PyProof PySem.Spec
theorem slot_bytes_find : Slot "bytes" "find" "bytes.find" :=
  .of (owner := "bytes") (n := "find") (by rw [typeLookup_type, builtinLookup_eq_fast]; kernel_rfl) (by decide +kernel) (by decide +kernel) (by decide +kernel)
    (by first | exact .inl (by decide +kernel) | exact .inr (by decide +kernel)) (by rw [isSubtype_type]; kernel_rfl)
theorem type_bytes_find : typeOf (.builtin "bytes.find") = pure (.type "method_descriptor") := by show builtinType _ = _; rw [builtinType_eq_fast]; kernel_rfl
theorem entry_bytes_find : entryFor table "bytes.find" = some Builtin.«bytes.find» := entryFor_of_tree (by kernel_rfl)
theorem args_bytes_find_2 (a b : Value) : argsOk "bytes.find" ⟨[a, b], []⟩ := by unfold argsOk; kernel_rfl
theorem args_bytes_find_3 (a b c : Value) : argsOk "bytes.find" ⟨[a, b, c], []⟩ := by unfold argsOk; kernel_rfl
variable {b c : Array UInt8} {t u v : Tok} {k : Int}
/-- the first place of c in b at or behind k, if any -/
def findO (b c : Array UInt8) (k : Int) : Option Nat := if (b.size : Int) - k < c.size then none else Bytes.find? b c k.toNat b.size
/-- as an int: -1 where there is none -/
def findR (b c : Array UInt8) (k : Int) : Int := match findO b c k with | some i => (i : Int) | none => -1
theorem find_end {prog : Program} {w : World} {A : Around} {s : Shared} {r r' : Option Nat} {tag : String} {Q : Fin → Shared → Prop} {E : Value → Shared → Prop} (e : r' = r)
    (h : ∀ t' k, Q (.done (.ret (.int (match r with | some i => (i : Int) | none => -1) t'))) { s with toks := k }) :
    wpAny (model prog w) A (match r' with | some i => retInt i | none => do rule tag; if false = true then raiseError "ValueError" "subsection not found" else retInt (-1)) Q E s := by
  subst e
  cases r' with
  | some i => exact wpAny_bind (wpAny_mkInt (wpAny_pure (h _ _)))
  | none =>
    refine wpAny_bind (wpAny_rule ?_)
    rw [if_neg Bool.false_ne_true]
    exact wpAny_bind (wpAny_mkInt (wpAny_pure (h _ _)))
theorem meets_find2 : Meets («bytes.find» ⟨[.bytes b t, .bytes c u], []⟩) (fun _ R s => ∀ t' k, R (.ok (.ret (.int (findR b c 0) t'))) { s with toks := k }) := by
  refine .of_wp fun prog w A R s hS => ?_
  show wpAny _ _ (Bytes.searchM .bytes "find" false false _) _ _ s
  unfold Bytes.searchM Bytes.searchArgs
  refine wpAny_bind (wpAny_bind (wpAny_of_eq (a := (Value.bytes b t, [Value.bytes c u])) rfl ?_))
  refine wpAny_bind (wpAny_of_eq (a := none) rfl ?_)
  refine wpAny_bind (wpAny_of_eq (a := none) rfl ?_)
  refine wpAny_bind (wpAny_of_eq KBy.buffer_eq ?_)
  refine wpAny_bind (wpAny_pure ?_)
  refine wpAny_bind (wpAny_of_eq (a := b) rfl (wpAny_pure ?_))
  refine find_end (r := findO b c 0) ?_ fun t' k => ⟨_, rfl, hS t' k⟩
  have hb : (if ((b.size : Int)) < 0 then max 0 ((b.size : Int) + b.size) else (b.size : Int)) = b.size := by split <;> omega
  unfold findO
  simp only [Option.getD_none, hb, Int.lt_irrefl, if_false, Int.min_self, Bool.false_eq_true]
  split <;> simp
theorem meets_find3 (h0 : 0 ≤ k) : Meets («bytes.find» ⟨[.bytes b t, .bytes c u, .int k v], []⟩) (fun _ R s => ∀ t' tk, R (.ok (.ret (.int (findR b c k) t'))) { s with toks := tk }) := by
  refine .of_wp fun prog w A R s hS => ?_
  show wpAny _ _ (Bytes.searchM .bytes "find" false false _) _ _ s
  unfold Bytes.searchM Bytes.searchArgs
  refine wpAny_bind (wpAny_bind (wpAny_of_eq (a := (Value.bytes b t, [Value.bytes c u, .int k v])) rfl ?_))
  refine wpAny_bind ?_
  unfold Bytes.bound?
  refine wpAny_bind (wpAny_specialOf (T := "int") (typeIs_int _ _ _) F.slot_int_index.lookup ?_)
  refine wpAny_ite ?_
  rw [if_neg (show ¬ (Option.isNone (some _) = true) from Bool.false_ne_true)]
  refine wpAny_bind (wpAny_of_eq (a := k) rfl (wpAny_pure ?_))
  refine wpAny_bind (wpAny_of_eq (a := none) rfl ?_)
  refine wpAny_bind (wpAny_of_eq KBy.buffer_eq ?_)
  refine wpAny_bind (wpAny_pure ?_)
  refine wpAny_bind (wpAny_of_eq (a := b) rfl (wpAny_pure ?_))
  refine find_end (r := findO b c k) ?_ fun t' tk => ⟨_, rfl, hS t' tk⟩
  have hb : (if ((b.size : Int)) < 0 then max 0 ((b.size : Int) + b.size) else (b.size : Int)) = b.size := by split <;> omega
  have hk : (if k < 0 then max 0 (k + b.size) else k) = k := if_neg (by omega)
  unfold findO
  simp only [Option.getD_none, Option.getD_some, hb, hk, Int.min_self, Bool.false_eq_true, if_false]
  split <;> simp
section
variable {prog : Program} {w : World} {A : Around} {E : Value → Shared → Prop} {s : Shared}
theorem find2 {Q : Value → Shared → Prop} (h : ∀ t' k, Q (.int (findR b c 0) t') { s with toks := k }) : wpAny (model prog w) A (call (.builtin "bytes.find") [.bytes b t, .bytes c u]) Q E s :=
  call_meets slot_bytes_find (typeIs_bytes _ _ _) entry_bytes_find (args_bytes_find_2 _ _) meets_find2 h
theorem find3 {Q : Value → Shared → Prop} (h0 : 0 ≤ k) (h : ∀ t' tk, Q (.int (findR b c k) t') { s with toks := tk }) : wpAny (model prog w) A (call (.builtin "bytes.find") [.bytes b t, .bytes c u, .int k v]) Q E s :=
  call_meets slot_bytes_find (typeIs_bytes _ _ _) entry_bytes_find (args_bytes_find_3 _ _ _) (meets_find3 h0) h
theorem find_method {M : Model} {pl : Sem Bool} {Q : Value × List Value → Shared → Prop} (h : Q (.builtin "bytes.find", [.bytes b t]) s) : wpAny M A (getMethod (.bytes b t) "find" pl) Q E s := by
  with_reducible exact KBd.method_of (.bytes b t) (typeIs_bytes _ _ _) slot_bytes_find type_bytes_find KBd.noRef h
end
/-- the first backslash at or behind k, on the ints -/
def bsFrom : List Int → Nat → Option Nat
  | [], _ => none
  | o :: r, i => if o = 92 then some i else bsFrom r (i + 1)
def findBs (ks : List Int) (k : Int) : Int := match bsFrom (ks.drop k.toNat) k.toNat with | some i => (i : Int) | none => -1
theorem extract_one {b : Array UInt8} {i : Nat} (h : i < b.size) : (b.extract i (i + 1) == #[92]) = decide (b[i] = 92) := by
  have e : b.extract i (i + 1) = #[b[i]] := by
    apply Array.ext
    · simp; omega
    · intro j h1 h2
      have : j = 0 := by simp at h2; omega
      subst this
      simp
  rw [e]
  rw [Bool.eq_iff_iff, beq_iff_eq, decide_eq_true_eq]
  simp
theorem find_range {b : Array UInt8} : ∀ (n k : Nat), k + n = b.size → (List.range' k n).find? (fun i => b.extract i (i + 1) == #[92]) = bsFrom ((KBw.bInts b).drop k) k
  | 0, k, h => by
    rw [List.drop_eq_nil_of_le (by rw [KBw.ints_length]; omega)]
    rfl
  | n + 1, k, h => by
    have hk : k < b.size := by omega
    have hk' : k < (KBw.bInts b).length := by rw [KBw.ints_length]; exact hk
    rw [List.drop_eq_getElem_cons hk', List.range'_succ, List.find?_cons, extract_one hk]
    have e : (KBw.bInts b)[k] = (b[k].toNat : Int) := by simp [KBw.bInts]
    unfold bsFrom
    rw [e]
    by_cases hc : b[k] = 92
    · rw [decide_eq_true hc, hc]
      rfl
    · rw [decide_eq_false hc, if_neg (by
        intro q
        apply hc
        have : b[k].toNat = 92 := by omega
        exact UInt8.toNat_inj.mp (this.trans rfl))]
      exact find_range n (k + 1) (by omega)
theorem findR_eq {b : Array UInt8} {ks : List Int} (hb : KBw.bInts b = ks) {k : Int} (h0 : 0 ≤ k) : findR b #[92] k = findBs ks k := by
  subst hb
  unfold findR findBs
  have : findO b #[92] k = bsFrom ((KBw.bInts b).drop k.toNat) k.toNat := by
    unfold findO
    by_cases hc : (b.size : Int) - k < 1
    · rw [if_pos (by simpa using hc), List.drop_eq_nil_of_le (by rw [KBw.ints_length]; omega)]
      rfl
    · rw [if_neg (by simpa using hc)]
      unfold Bytes.find?
      have e : (List.range (b.size + 1 - (k.toNat + (#[92] : Array UInt8).size))).map (· + k.toNat) = List.range' k.toNat (b.size - k.toNat) := by
        rw [show b.size + 1 - (k.toNat + (#[92] : Array UInt8).size) = b.size - k.toNat by simp]
        apply List.ext_getElem
        · simp
        · intro i h1 h2
          simp [Nat.add_comm]
      rw [e]
      exact find_range _ _ (by omega)
  rw [this]
section
variable {b : Array UInt8} {t u v : Tok} {k : Int} {ks : List Int} {prog : Program} {w : World} {A : Around} {E : Value → Shared → Prop} {s : Shared}
theorem findBs2 {Q : Value → Shared → Prop} (hb : KBw.bInts b = ks) (h : ∀ t' k, Q (.int (findBs ks 0) t') { s with toks := k }) : wpAny (model prog w) A (call (.builtin "bytes.find") [.bytes b t, .bytes #[92] u]) Q E s :=
  find2 (by rw [findR_eq hb (by omega)]; exact h)
theorem findBs3 {Q : Value → Shared → Prop} (hb : KBw.bInts b = ks) (h0 : 0 ≤ k) (h : ∀ t' tk, Q (.int (findBs ks k) t') { s with toks := tk }) : wpAny (model prog w) A (call (.builtin "bytes.find") [.bytes b t, .bytes #[92] u, .int k v]) Q E s :=
  find3 h0 (by rw [findR_eq hb h0]; exact h)
end
end
local macro_rules | `(tactic| walk_at "getMethod bytes") => `(tactic| (k_here; (with_reducible refine find_method ?_)))
local macro_rules | `(tactic| walk_at "call builtin:bytes.find") => `(tactic| (k_here; (first | refine findBs2 (by kba_ints) ?_ | refine findBs3 (by kba_ints) (by first | assumption | omega) ?_); intro _ _))
-- part J1
section
open Builtin PyProof PySem.Spec
theorem slot_bytes_join : Slot "bytes" "join" "bytes.join" :=
  .of (owner := "bytes") (n := "join") (by rw [typeLookup_type, builtinLookup_eq_fast]; kernel_rfl) (by decide +kernel) (by decide +kernel) (by decide +kernel)
    (by first | exact .inl (by decide +kernel) | exact .inr (by decide +kernel)) (by rw [isSubtype_type]; kernel_rfl)
theorem type_bytes_join : typeOf (.builtin "bytes.join") = pure (.type "method_descriptor") := by show builtinType _ = _; rw [builtinType_eq_fast]; kernel_rfl
theorem entry_bytes_join : entryFor table "bytes.join" = some Builtin.«bytes.join» := entryFor_of_tree (by kernel_rfl)
theorem args_bytes_join (a b : Value) : argsOk "bytes.join" ⟨[a, b], []⟩ := by unfold argsOk; kernel_rfl
/-- all values are bytes -/
def AllBytes : List Value → Prop
  | [] => True
  | .bytes _ _ :: r => AllBytes r
  | _ :: _ => False
def payOf : Value → Array UInt8
  | .bytes b _ => b
  | _ => #[]
theorem AllBytes.at : ∀ {vs : List Value}, AllBytes vs → ∀ v ∈ vs, ∃ b t, v = .bytes b t
  | [], _, _, h => nomatch h
  | .bytes b t :: r, H, v, h => by
    rcases List.mem_cons.mp h with rfl | h
    · exact ⟨b, t, rfl⟩
    · exact AllBytes.at (vs := r) H v h
  | .none :: _, H, _, _ => H.elim
  | .bool _ :: _, H, _, _ => H.elim
  | .int .. :: _, H, _, _ => H.elim
  | .float .. :: _, H, _, _ => H.elim
  | .str .. :: _, H, _, _ => H.elim
  | .type _ :: _, H, _, _ => H.elim
  | .builtin _ :: _, H, _, _ => H.elim
  | .ref _ :: _, H, _, _ => H.elim
theorem take_eq {b : Array UInt8} {t : Tok} {id : String} : Bytes.takeBufferQuiet? id (.bytes b t) 0 = pure (some (b, none)) := by
  unfold Bytes.takeBufferQuiet? Bytes.takeBuffer?
  have e : Bytes.buffer? id (Value.bytes b t) (0 == Bytes.fullReadOnly) = pure (some b) := KBy.buffer_eq
  rw [KBy.special_eq KBy.look_buffer, KBy.own_buffer, e]
  rfl
theorem letGo_all {M : Model} {A : Around} {E : Value → Shared → Prop} {s : Shared} {keep : List Value} {Q : Unit → Shared → Prop} (h : Q () s) : ∀ (vs : List Value), wpAny M A (Bytes.joinLetGo (vs.map fun v => (v, none)) keep) Q E s
  | [] => wpAny_pure h
  | v :: r => by
    rw [List.map_cons]
    unfold Bytes.joinLetGo
    exact wpAny_bind (wpAny_letGo (letGo_all h r))
theorem joined_nil : ∀ (ps : List (Array UInt8)), Bytes.joined #[] ps = ps.foldl (· ++ ·) #[] := by
  have H : ∀ (ps : List (Array UInt8)) (k : Nat) (acc : Array UInt8), (ps.zipIdx k).foldl (fun out (p, i) => (if i > 0 then out ++ (#[] : Array UInt8) else out) ++ p) acc = ps.foldl (· ++ ·) acc := by
    intro ps
    induction ps with
    | nil => intro k acc; rfl
    | cons p r ih =>
      intro k acc
      rw [List.zipIdx_cons, List.foldl_cons, List.foldl_cons, ih]
      congr 1
      simp
  exact fun ps => H ps 0 #[]
theorem joined_ints : ∀ (vs : List Value) (acc : Array UInt8), KBw.bInts ((vs.map payOf).foldl (· ++ ·) acc) = KBw.bInts acc ++ vs.flatMap fun v => KBw.bInts (payOf v)
  | [], acc => by simp
  | v :: r, acc => by
    rw [List.map_cons, List.foldl_cons, joined_ints r, List.flatMap_cons]
    simp [KBw.bInts]
theorem onHeap_none : ∀ {vs : List Value}, AllBytes vs → ((vs.map fun v => (v, (none : Option Value))).any fun p => p.1.onHeap) = false := by
  intro vs H
  rw [List.any_eq_false]
  intro p hp
  obtain ⟨v, hv, rfl⟩ := List.mem_map.mp hp
  obtain ⟨b, t, rfl⟩ := H.at v hv
  simp [Value.onHeap]
theorem AllBytes.take : ∀ {vs : List Value} (n : Nat), AllBytes vs → AllBytes (vs.take n)
  | _, 0, _ => by rw [List.take_zero]; trivial
  | [], _ + 1, _ => trivial
  | .bytes b t :: r, n + 1, H => by rw [List.take_succ_cons]; exact AllBytes.take (vs := r) n H
  | .none :: _, _ + 1, H => H.elim
  | .bool _ :: _, _ + 1, H => H.elim
  | .int .. :: _, _ + 1, H => H.elim
  | .float .. :: _, _ + 1, H => H.elim
  | .str .. :: _, _ + 1, H => H.elim
  | .type _ :: _, _ + 1, H => H.elim
  | .builtin _ :: _, _ + 1, H => H.elim
  | .ref _ :: _, _ + 1, H => H.elim
theorem forRange {M : Model} {A : Around} {E : Value → Shared → Prop} {s : Shared} {β : Type} {n : Nat} {f : Nat → β → Sem (ForInStep β)} (I : Nat → β → Prop) {Q : β → Shared → Prop} {c : β}
    (step : ∀ i c, i < n → I i c → wpAny M A (f i c) (fun r s' => match r with | .done c' => False | .yield c' => s' = s ∧ I (i + 1) c') E s)
    (fin : ∀ c, I n c → Q c s) (h : I 0 c) : wpAny M A (forIn [0:n] c f) Q E s := by
  rw [Std.Legacy.Range.forIn_eq_forIn_range']
  have hsz : ([0:n] : Std.Legacy.Range).size = n := by simp [Std.Legacy.Range.size]
  show wpAny M A (forIn (List.range' 0 ([0:n] : Std.Legacy.Range).size 1) c f) Q E s
  rw [hsz]
  refine wpAny_forIn_list f (fun l c s' => s' = s ∧ ∃ i, i ≤ n ∧ l = List.range' i (n - i) 1 ∧ I i c) Q ?_ ?_ _ c ⟨rfl, 0, Nat.zero_le _, by simp, h⟩
  · rintro x rest c s' ⟨rfl, i, hi, hl, hI⟩
    have hlt : i < n := by
      rcases Nat.lt_or_ge i n with h' | h'
      · exact h'
      · rw [show n - i = 0 by omega] at hl; simp at hl
    obtain ⟨k, hk⟩ : ∃ k, n - i = k + 1 := ⟨n - i - 1, by omega⟩
    rw [hk, List.range'_succ] at hl
    obtain ⟨rfl, rfl⟩ := List.cons.inj hl
    refine wpAny_mono (step x c hlt hI) (fun r s'' h' => ?_) fun _ _ z => z
    cases r with
    | done c' => exact h'.elim
    | yield c' => exact ⟨h'.1, x + 1, by omega, by congr 1; omega, h'.2⟩
  · rintro c s' ⟨rfl, i, hi, hl, hI⟩
    have : i = n := by
      rcases Nat.lt_or_ge i n with h' | h'
      · obtain ⟨k, hk⟩ : ∃ k, n - i = k + 1 := ⟨n - i - 1, by omega⟩
        rw [hk, List.range'_succ] at hl; simp at hl
      · omega
    subst this; exact fin _ hI
variable {prog : Program} {w : World} {A : Around} {E : Value → Shared → Prop} {s : Shared} {h₀ : Heap} {L D : Addr} {m : Str → Option Value} {news : Led} {vs : List Value} {n : Nat} {t : Tok}
theorem join_list {Q : Value → Shared → Prop} (hD : s.heap.get? D = some { cls := .type "list", data := .seq vs.toArray n }) (H : AllBytes vs) (hz : (vs.flatMap fun v => KBw.bInts (payOf v)).length ≤ 100000)
    (h : ∀ b t' k, KBw.bInts b = (vs.flatMap fun v => KBw.bInts (payOf v)) → Q (.bytes b t') { s with toks := k }) :
    wpAny (model prog w) A (call (.builtin "bytes.join") [.bytes #[] t, .ref D]) Q E s := by
  refine wpAny_call_entry slot_bytes_join (typeIs_bytes _ _ _) entry_bytes_join ?_ (args_bytes_join _ _)
  show wpAny _ _ (Bytes.joinM .bytes _) _ _ s
  unfold Bytes.joinM
  refine wpAny_bind (wpAny_of_eq (a := (Value.bytes #[] t, Value.ref D)) rfl ?_)
  dsimp only
  refine wpAny_bind ?_
  show wpAny _ _ (Bytes.joinItems (.ref D)) _ _ _
  unfold Bytes.joinItems
  refine wpAny_bind (wpAny_typeOf (T := "list") ⟨_, hD, rfl⟩ (wpAny_pure ?_))
  refine wpAny_bind (wpAny_seqItems hD rfl ?_)
  dsimp only
  rw [if_pos (show (Bytes.Kind.bytes == Bytes.Kind.bytes) = true from rfl)]
  have last : ∀ (tk : Nat), wpAny (model prog w) A.in1 (do
      let sep ← Bytes.payload (.bytes #[] t)
      if Bytes.tooLong (((vs.map payOf).toArray).foldl (fun a x => a + x.size) (sep.size * (((vs.map payOf).toArray).size - 1))) then unsupported s!"{s!"{Bytes.Kind.bytes.name}.join"}:memory"
      let result ← Bytes.Kind.bytes.new (Bytes.joined sep ((vs.map payOf).toArray).toList)
      holding (result :: (vs.map fun v => (v, (none : Option Value))).flatMap fun (y, u) => y :: u.toList) point
      Bytes.joinLetGo (vs.map fun v => (v, none)) [result]
      ret result) (fun fin s' => ∃ v, fin = .done (.ret v) ∧ Q v s') E { s with toks := tk } := by
    intro tk
    refine wpAny_bind (wpAny_of_eq (a := #[]) rfl ?_)
    have e : (vs.map payOf).toArray.foldl (fun a x => a + x.size) ((#[] : Array UInt8).size * ((vs.map payOf).toArray.size - 1)) = (vs.flatMap fun v => KBw.bInts (payOf v)).length := by
      rw [show (#[] : Array UInt8).size = 0 from rfl, Nat.zero_mul, ← Array.foldl_toList]
      have H : ∀ (l : List Value) (k : Nat), (l.map payOf).foldl (fun a x => a + x.size) k = k + (l.flatMap fun v => KBw.bInts (payOf v)).length := by
        intro l
        induction l with
        | nil => intro k; simp
        | cons x r ih => intro k; rw [List.map_cons, List.foldl_cons, ih, List.flatMap_cons, List.length_append, KBw.ints_length]; omega
      rw [H]; omega
    rw [e, KBy.tooLong_not (by omega), if_neg (by decide)]
    have e2 : KBw.bInts (Bytes.joined #[] (vs.map payOf)) = vs.flatMap fun v => KBw.bInts (payOf v) := by
      rw [joined_nil, joined_ints]; rfl
    refine wpAny_bind ?_
    show wpAny _ _ (mkBytes (Bytes.joined #[] (vs.map payOf).toArray.toList)) _ _ _
    refine wpAny_mkBytes ?_ (by rw [← KBw.ints_length, e2, sizeLine_eq]; omega)
    refine wpAny_bind (wpAny_holding (wpAny_point ?_))
    refine wpAny_bind (letGo_all ?_ vs)
    exact wpAny_pure ⟨_, rfl, h _ _ _ e2⟩
  rcases vs with _ | ⟨v, _ | ⟨v2, r⟩⟩
  · refine wpAny_bind (forRange (fun i c => c = (#[], [])) ?_ ?_ rfl)
    · rintro i c hi _
      exact absurd hi (by simp)
    · rintro c rfl
      exact last s.toks
  · obtain ⟨b, tb, rfl⟩ := H.at v (.head _)
    refine wpAny_bind (wpAny_typeOf (typeIs_bytes _ _ _) ?_)
    rw [if_pos (by decide)]
    refine wpAny_bind (wpAny_rule (wpAny_pure ⟨_, rfl, h _ _ _ (by simp [payOf])⟩))
  · refine wpAny_bind (forRange (fun i c => c = ((((v :: v2 :: r).take i).map payOf).toArray, ((v :: v2 :: r).take i).map fun v => (v, none))) ?_ ?_ (by simp))
    · rw [List.size_toArray]
      generalize v :: v2 :: r = vs at *
      rintro i c hi rfl
      refine wpAny_bind (wpAny_seqItems hD rfl ?_)
      dsimp only
      rw [onHeap_none (H.take i), if_neg (by decide)]
      obtain ⟨b, tb, hb⟩ := H.at vs[i] (List.getElem_mem hi)
      have e : vs.toArray.getD i .none = .bytes b tb := by simp [Array.getD, hi, hb]
      rw [e]
      refine wpAny_bind (wpAny_holding (wpAny_of_eq take_eq ?_))
      dsimp only
      refine wpAny_bind (wpAny_seqItems hD rfl ?_)
      dsimp only
      rw [if_neg (by simp)]
      refine wpAny_pure ?_
      refine ⟨rfl, ?_⟩
      rw [List.take_succ_eq_append_getElem hi, hb]
      simp [payOf]
    · rintro c rfl
      generalize v :: v2 :: r = vs at *
      rw [show vs.toArray.size = vs.length from rfl, List.take_length]
      exact last s.toks
theorem join_method {M : Model} {b : Array UInt8} {pl : Sem Bool} {Q : Value × List Value → Shared → Prop} (h : Q (.builtin "bytes.join", [.bytes b t]) s) : wpAny M A (getMethod (.bytes b t) "join" pl) Q E s := by
  with_reducible exact KBd.method_of (.bytes b t) (typeIs_bytes _ _ _) slot_bytes_join type_bytes_join KBd.noRef h
theorem join_K {arr : Array Value} {Q : Value → Shared → Prop} (N : News h₀ L s.heap news) (hm : (D, listOf arr n) ∈ news) (H : AllBytes arr.toList) (hz : (arr.toList.flatMap fun v => KBw.bInts (payOf v)).length ≤ 100000)
    (h : ∀ b t' k, KBw.bInts b = (arr.toList.flatMap fun v => KBw.bInts (payOf v)) → Q (.bytes b t') { s with toks := k }) :
    wpAny (model prog w) A (call (.builtin "bytes.join") [.bytes #[] t, .ref D]) Q E s := join_list (vs := arr.toList) (N _ hm).1 H hz h
theorem AllBytes.snoc {b : Array UInt8} : ∀ {vs : List Value}, AllBytes vs → AllBytes (vs ++ [.bytes b t])
  | [], _ => trivial
  | .bytes _ _ :: r, H => AllBytes.snoc (vs := r) H
  | .none :: _, H => H.elim
  | .bool _ :: _, H => H.elim
  | .int .. :: _, H => H.elim
  | .float .. :: _, H => H.elim
  | .str .. :: _, H => H.elim
  | .type _ :: _, H => H.elim
  | .builtin _ :: _, H => H.elim
  | .ref _ :: _, H => H.elim
/-- a list of bytes that together are the given octets -/
def Cat (arr : Array Value) (l : List Int) : Prop := AllBytes arr.toList ∧ (arr.toList.flatMap fun v => KBw.bInts (payOf v)) = l
theorem Cat.push {arr : Array Value} {l p : List Int} {b : Array UInt8} (H : Cat arr l) (e : KBw.bInts b = p) : Cat (arr.push (.bytes b t)) (l ++ p) := by
  obtain ⟨h1, rfl⟩ := H
  subst e
  refine ⟨by rw [Array.toList_push]; exact h1.snoc, ?_⟩
  rw [Array.toList_push, List.flatMap_append]
  simp [payOf]
theorem Cat.nil : Cat #[] [] := ⟨trivial, rfl⟩
end
local macro_rules | `(tactic| walk_at "getMethod bytes") => `(tactic| (k_here; (with_reducible refine join_method ?_)))
local macro_rules | `(tactic| walk_at "call builtin:bytes.join") => `(tactic| (k_here; (refine' join_K ?kN ?km ?kH ?kz ?_; (case kN => k_asm); (case km => k_mem); (case kH => assumption); (case kz => assumption)); intro _ _ _ _))
-- part L1
section
open KStb
variable {prog : Program} {w : World} {A : Around} {E : Value → Shared → Prop} {s : Shared} {env : Env} {h₀ : Heap} {x : PySem.Str} {body : List Stmt} {Q : Flow → Shared → Prop}
/-- a loop over a list of any values -/
theorem kst_vals {σ : Type} {D : Addr} {arr : Array Value} {m₀ : PySem.Str → Option Value} (Led : σ → List (Addr × Obj)) (ps : σ → List (PySem.Str × Value)) (Facts : σ → Prop) (stored : List PySem.Str) (P : List Value → σ → Prop) (c₀ : σ)
    (hD : s.heap.IsList D arr) (hDL : env.locals ≠ D) (hDn : ∀ q ∈ Led c₀, q.1 ≠ D) (hh : A.handled = none) (F : Fr h₀ env.locals s.heap m₀) (N : News h₀ env.locals s.heap (Led c₀)) (hf : Facts c₀) (hk : ∀ p ∈ ps c₀, m₀ p.1 = some p.2) (hp : P [] c₀)
    (turn : ∀ (c : σ) (pre post : List Value) (v : Value) (u : PySem.Str → Option Value) h tk own, arr.toList = pre ++ v :: post → OwnOff own ((Led c₀).map (·.1)) → Facts c → P pre c →
      Fr h₀ env.locals h (fun y => if y = x then some v else kstB (fun z => if stored.contains z then u z else m₀ z) (ps c) y) → News h₀ env.locals h (Led c ++ own) →
      wpAny (model prog w) A (execs body env) (InvPostN h₀ env.locals (KstS Led ps Facts x stored m₀ (fun _ => P (pre ++ [v])) []) own ((Led c₀).map (·.1)) { s with heap := h, toks := tk } Q) E { s with heap := h, toks := tk })
    (done : ∀ (c : σ) (u : PySem.Str → Option Value) h tk, Facts c → P arr.toList c → Fr h₀ env.locals h (fun y => if y = x then u y else kstB (fun z => if stored.contains z then u z else m₀ z) (ps c) y) → News h₀ env.locals h (Led c) → Q .next { s with heap := h, toks := tk }) :
    wpAny (model prog w) A (pyIter (.ref D)) (fun it s₂ => LoopAtV prog w A h₀ env x body Q E it s₂) E s := by
  obtain ⟨oD, hoD, _⟩ := id hD
  have hlt : D < s.heap.objs.size := Heap.lt_size hoD
  have hne : D ≠ s.heap.objs.size := Nat.ne_of_lt hlt
  refine wpAny_pyIter_list hD ?_
  have W := Walks.list (prog := prog) (w := w) hh s.heap.objs.size D hne arr
  refine loop_invN (fun i m nx => KstS Led ps Facts x stored m₀ (fun _ => P (arr.toList.take i)) [] m nx) W ?_ ?_ ?_ ?_ ⟨⟨_, Heap.get?_push_size _ rfl, rfl, rfl⟩, hD.at fun o e => Heap.get?_push_of_some _ e⟩ (F.push _) (fun p hp => ⟨Heap.get?_push_of_some _ (N p hp).1, (N p hp).2⟩) ⟨c₀, rfl, hf, hk, fun _ _ _ _ => rfl, by simpa using hp⟩ ?_ ?_
  · intro hm
    rcases List.mem_cons.mp hm with e | hm
    · exact absurd F.ns.lt (e ▸ Nat.lt_irrefl _)
    · exact hDL (List.mem_singleton.mp hm)
  · intro b' hb
    rw [List.mem_singleton.mp hb]
    exact next_is_new F
  · intro p hp hI
    exact absurd (Heap.lt_size (N p hp).1) ((List.mem_singleton.mp hI) ▸ Nat.lt_irrefl _)
  · intro p hp hI
    rcases List.mem_cons.mp hI with e | hI
    · exact absurd (Heap.lt_size (N p hp).1) (e ▸ Nat.lt_irrefl _)
    · exact hDn p hp (List.mem_singleton.mp hI)
  · rintro i v m₁ nx h tk own hi hv _ hoff ⟨c, rfl, hf', h1, h2, hp'⟩ F₁ N₁
    have hi' : i < arr.toList.length := by simpa using hi
    have hv' : arr.toList[i] = v := by
      have := hv
      rw [Array.getElem?_eq_getElem hi] at this
      simpa using this
    have hs : arr.toList.take (i + 1) = arr.toList.take i ++ [v] := by rw [List.take_succ_eq_append_getElem hi', hv']
    have e : arr.toList = arr.toList.take i ++ v :: arr.toList.drop (i + 1) := by
      have ht := List.take_append_drop (i + 1) arr.toList
      rw [hs, List.append_assoc] at ht
      exact ht.symm
    rw [hs]
    exact turn c _ _ v m₁ h tk own e hoff hf' hp' (kst_fr h1 h2 F₁) N₁
  · rintro m₁ nx h tk ⟨c, rfl, hf', h1, h2, hp'⟩ F₁ N₁
    rw [List.take_of_length_le (by simp)] at hp'
    exact done c m₁ h tk hf' hp' (kst_frOut h1 h2 F₁) N₁
end
-- part A3
theorem bs_none : ∀ {l : List Int} {i : Nat}, bsFrom l i = none → ∀ o ∈ l, o ≠ 92
  | [], _, _, _, h => nomatch h
  | o :: r, i, e, p, hp => by
    unfold bsFrom at e
    split at e
    · cases e
    · rename_i h
      rcases List.mem_cons.mp hp with rfl | hp
      · exact h
      · exact bs_none e p hp
theorem bs_some : ∀ {l : List Int} {i j : Nat}, bsFrom l i = some j → ∃ pre post, l = pre ++ 92 :: post ∧ (∀ o ∈ pre, o ≠ 92) ∧ j = i + pre.length
  | [], _, _, e => by cases e
  | o :: r, i, j, e => by
    unfold bsFrom at e
    split at e
    · rename_i h
      cases e
      exact ⟨[], r, by rw [h]; rfl, (fun _ h => nomatch h), rfl⟩
    · rename_i h
      obtain ⟨pre, post, rfl, h1, rfl⟩ := bs_some e
      refine ⟨o :: pre, post, rfl, fun p hp => ?_, by simp; omega⟩
      rcases List.mem_cons.mp hp with rfl | hp
      · exact h
      · exact h1 p hp
/-- what a find of a backslash tells -/
theorem findBs_cases (ks : List Int) (k : Int) (hk : 0 ≤ k) : (findBs ks k = -1 ∧ ∀ o ∈ ks.drop k.toNat, o ≠ 92) ∨ (∃ pre post, ks.drop k.toNat = pre ++ 92 :: post ∧ (∀ o ∈ pre, o ≠ 92) ∧ findBs ks k = k + pre.length) := by
  unfold findBs
  cases e : bsFrom (ks.drop k.toNat) k.toNat with
  | none => exact .inl ⟨rfl, bs_none e⟩
  | some j =>
    obtain ⟨pre, post, h1, h2, rfl⟩ := bs_some e
    exact .inr ⟨pre, post, h1, h2, by show ((k.toNat + pre.length : Nat) : Int) = _; omega⟩
def mostL : List Int → Int → Int
  | [], m => m
  | [_], m => m
  | o :: c :: r, m => if o = 92 then mostL r (if isFig c then max m (c - 48) else m) else mostL (c :: r) m
theorem mostL_skip {pre : List Int} {l : List Int} {m : Int} (h : ∀ o ∈ pre, o ≠ 92) : mostL (pre ++ l) m = mostL l m := by
  induction pre with
  | nil => rfl
  | cons o r ih =>
    have ho := h o (.head _)
    have ih' := ih fun p hp => h p (.tail _ hp)
    cases hr : r ++ l with
    | nil =>
      rw [hr] at ih'
      rw [List.cons_append, hr, ← ih']
      rfl
    | cons c r' =>
      rw [hr] at ih'
      rw [List.cons_append, hr, ← ih']
      show (if o = 92 then _ else _) = _
      rw [if_neg ho]
theorem mostL_none {l : List Int} {m : Int} (h : ∀ o ∈ l, o ≠ 92) : mostL l m = m := by
  have := mostL_skip (l := []) (m := m) h
  rwa [List.append_nil] at this
theorem getD_app {pre post : List Int} {o : Int} {ks : List Int} {k : Nat} (h : ks.drop k = pre ++ o :: post) : k + pre.length < ks.length ∧ ks.getD (k + pre.length) 0 = o ∧ ks.drop (k + pre.length + 1) = post ∧ ks.length = k + pre.length + 1 + post.length := by
  have hl := congrArg List.length h
  simp only [List.length_drop, List.length_append, List.length_cons] at hl
  have e : ks = ks.take k ++ (pre ++ o :: post) := by rw [← h, List.take_append_drop]
  have hk : (ks.take k).length = k := by rw [List.length_take]; omega
  refine ⟨by omega, ?_, ?_, by omega⟩
  · rw [e, List.getD, List.getElem?_append_right (by omega), hk, List.getElem?_append_right (by omega)]
    simp
  · rw [e, ← List.append_assoc, show ks.take k ++ pre ++ o :: post = (ks.take k ++ pre ++ [o]) ++ post by simp, List.drop_append_of_le_length (by simp [hk]; omega), List.drop_eq_nil_of_le (by simp [hk]; omega)]
    rfl
theorem bs_turn {ks : List Int} {k : Int} (h0 : 0 ≤ k) (h1 : 0 ≤ findBs ks k) (h2 : findBs ks k < (ks.length : Int) - 1) :
    ∃ pre c r, ks.drop k.toNat = pre ++ 92 :: c :: r ∧ (∀ o ∈ pre, o ≠ 92) ∧ findBs ks k = k + pre.length ∧ ks.getD (findBs ks k + 1).toNat 0 = c ∧ ks.drop (findBs ks k + 2).toNat = r := by
  rcases findBs_cases ks k h0 with ⟨e, _⟩ | ⟨pre, post, e, hp, ef⟩
  · omega
  · obtain ⟨g1, g2, g3, g4⟩ := getD_app e
    cases post with
    | nil => simp only [List.length_nil] at g4; omega
    | cons c r =>
      have e2 : ks.drop (k.toNat + pre.length + 1) = [] ++ c :: r := g3
      obtain ⟨f1, f2, f3, f4⟩ := getD_app e2
      refine ⟨pre, c, r, e, hp, ef, ?_, ?_⟩
      · rw [ef, show (k + (pre.length : Int) + 1).toNat = k.toNat + pre.length + 1 + ([] : List Int).length by simp; omega, f2]
      · rw [ef, show (k + (pre.length : Int) + 2).toNat = k.toNat + pre.length + 1 + ([] : List Int).length + 1 by simp; omega, f3]
theorem most_turn {ks : List Int} {k m : Int} (h0 : 0 ≤ k) (h1 : 0 ≤ findBs ks k) (h2 : findBs ks k < (ks.length : Int) - 1) :
    k ≤ findBs ks k ∧ mostL (ks.drop k.toNat) m = mostL (ks.drop (findBs ks k + 2).toNat) (if isFig (ks.getD (findBs ks k + 1).toNat 0) then max m (ks.getD (findBs ks k + 1).toNat 0 - 48) else m) := by
  obtain ⟨pre, c, r, e, hp, ef, e1, e2⟩ := bs_turn h0 h1 h2
  refine ⟨by omega, ?_⟩
  rw [e1, e2, e, mostL_skip hp]
  show (if (92 : Int) = 92 then _ else _) = _
  rw [if_pos rfl]
theorem most_done {ks : List Int} {k m : Int} (h0 : 0 ≤ k) (h : ¬ 0 ≤ findBs ks k ∨ ¬ findBs ks k < (ks.length : Int) - 1) : mostL (ks.drop k.toNat) m = m := by
  rcases findBs_cases ks k h0 with ⟨_, e⟩ | ⟨pre, post, e, hp, ef⟩
  · exact mostL_none e
  · obtain ⟨g1, g2, g3, g4⟩ := getD_app e
    cases post with
    | nil => rw [e, mostL_skip hp]; rfl
    | cons c r => simp only [List.length_cons] at g4; omega
theorem max_if (m x : Int) : (if x > m then x else m) = max m x := by rw [Int.max_def]; split <;> split <;> omega
def rmost_ok_P (c : Cx) : Prop := ∀ (hks : KBw.bInts c.b1 = c.k1) (hz : c.k1.length ≤ 100000) , CtVc c 107 4 40 [.bytes c.b1 c.t1] True (fun tt => .int (mostL c.k1 0) tt)
@[irreducible] noncomputable def rmost_ok_c : Cx := pick cx_some rmost_ok_P
noncomputable def rmost_ok_g : Cut (rmost_ok_P rmost_ok_c) (Heap × Addr × Heap) := by
  refine Cut.mk3 (G := ?G) fun H => ?main
  rotate_left
  unfold rmost_ok_P CtVc
  k_fill
  intro hks hz hB0 hF0 hX0 hN0 hT0 hk0 hd hu hpre hret
  refine wpAny_call ?_
  with_unfolding_all refine' code_def ?k1 ?k2 ?k3 ?k4 ?k5 ?kA ?kF ?kK ?k6 ?k7 ?k8 ?k9 ?kB ?_ ?c2 ?c3 ?c4 ?c5
  case kA => exact rfl
  case kF => exact rfl
  case kK => assumption
  case k1 => k_asm
  case k2 => k_asm
  case k3 => k_asm
  case k4 => k_asm
  case k5 => k_asm
  case k6 => k_is
  case k7 => k_is
  case k8 => exact Nat.lt_of_le_of_lt (Nat.le_add_right _ _) hd
  case k9 => exact BindsTo.of_eq (binds := [(Str.ofString "rewrite", .bytes rmost_ok_c.b1 rmost_ok_c.t1)]) rfl
  case c5 => decide
  case kB => exact locs rfl
  case c2 => exact rfl
  case c3 => exact rfl
  case c4 => exact rfl
  intro gH LH hH FGH FH NH BH XH TH
  (try dsimp only)
  (try k_lift BH)
  revert hks hz hB0 hX0 hT0 hk0 hd hu hpre hret FGH FH NH BH XH TH
  exact H gH LH hH
@[irreducible] noncomputable def rmost_ok_d : Heap × Addr × Heap := pick ⟨(⟨#[], default⟩, 0, ⟨#[], default⟩)⟩ rmost_ok_g.G
theorem rmost_ok_t1 : rmost_ok_g.G rmost_ok_d := by
  intro hks hz hB0 hX0 hT0 hk0 hd hu hpre hret FGH FH NH BH XH TH
  have loops := myLoops
  have calls := myCalls
  (try k_fold)
  (repeat' (first | (k_unfold; (try dsimp only)) | walk1 | (dsimp only; walk1) | (leave1; (try dsimp only)) | (refine Held.go ?_; first | ((with_reducible show wpAny _ _ (call (Value.ref _) _) _ _ _); first | ((k_here; (k_dflt refine' ctv_use (isfig_ok ⟨_, rfl⟩ _ _ _ _ _ _) ?k1 ?k2 ?k3 ?k4 ?k5 ?kK ?kd ?ku ?kp ?_); (((case k1 => k_asm); (case k2 => k_asm); (case k3 => k_asm); (case k4 => k_asm); (case k5 => k_asm); (case kK => first | exact rfl | assumption); (case kd => first | exact room2 (by assumption) rfl | ktr_room); (case ku => first | exact unit2 (by assumption) rfl | ktr_units))); (case kp => trivial); (((intro t9 h9 tk9 F9 N9); (try dsimp only); (try k_fold)))))))))
  refine Held.go ?_
  (rename Fr _ _ _ _ => F); (rename News _ _ _ _ => N)
  with_unfolding_all refine' ksw_while (σ := (Int × Tok) × (Tok × Int)) (fun _ => _) (fun c => [(Str.ofString "most", Value.int c.1.1 c.1.2), (Str.ofString "at", Value.int (findBs rmost_ok_c.k1 c.2.2) c.2.1)]) (fun _ => True) [] (fun c => 0 ≤ c.2.2 ∧ c.2.2 ≤ (rmost_ok_c.k1.length : Int) + 1 ∧ mostL (rmost_ok_c.k1.drop c.2.2.toNat) c.1.1 = mostL rmost_ok_c.k1 0) (fun c => ((rmost_ok_c.k1.length : Int) + 2 - c.2.2).toNat) ((0, _), (_, 0)) F N trivial ?kk ?kp ?turn
  case kk => kst_all
  case kp => exact ⟨by simp, by simp; omega, rfl⟩
  case turn =>
    rintro ⟨⟨m, tm⟩, ta, k⟩ u h tk _ hP' F' N'
    (try dsimp only [kstB] at F')
    dsimp only at hP'
    have hC := findBs_cases rmost_ok_c.k1 k hP'.1
    (repeat' (first | (k_unfold; (try dsimp only)) | walk1 | (dsimp only; walk1) | (leave1; (try dsimp only)) | (refine Held.go ?_; first | ((with_reducible show wpAny _ _ (call (Value.ref _) _) _ _ _); first | ((k_here; (k_dflt refine' ctv_use (isfig_ok ⟨_, rfl⟩ _ _ _ _ _ _) ?k1 ?k2 ?k3 ?k4 ?k5 ?kK ?kd ?ku ?kp ?_); (((case k1 => k_asm); (case k2 => k_asm); (case k3 => k_asm); (case k4 => k_asm); (case k5 => k_asm); (case kK => first | exact rfl | assumption); (case kd => first | exact room2 (by assumption) rfl | ktr_room); (case ku => first | exact unit2 (by assumption) rfl | ktr_units))); (case kp => trivial); (((intro t9 h9 tk9 F9 N9); (try dsimp only); (try k_fold)))))))))
    · (rename Fr _ _ _ _ => F); (rename News _ _ _ _ => N)
      obtain ⟨q1, q2⟩ := most_turn (m := m) hP'.1 (by assumption) (by assumption)
      rw [if_pos (by assumption)] at q2
      refine ksw_end ((_, _), (_, findBs rmost_ok_c.k1 k + 2)) F N (fun p hp => hp) trivial (by kst_all) (by ksw_same) ⟨?_, ?_, ?_⟩ ?_
      · dsimp only; omega
      · dsimp only; omega
      · dsimp only; rw [max_if, ← q2, hP'.2.2]
      · dsimp only; omega
    · (rename Fr _ _ _ _ => F); (rename News _ _ _ _ => N)
      obtain ⟨q1, q2⟩ := most_turn (m := m) hP'.1 (by assumption) (by assumption)
      rw [if_neg (Bool.eq_false_iff.mp (by assumption))] at q2
      refine ksw_end ((_, _), (_, findBs rmost_ok_c.k1 k + 2)) F N (fun p hp => hp) trivial (by kst_all) (by ksw_same) ⟨?_, ?_, ?_⟩ ?_
      · dsimp only; omega
      · dsimp only; omega
      · dsimp only; rw [← q2, hP'.2.2]
      · dsimp only; omega
    all_goals (
      refine cb_retI hret ?_ (by k_asm) (News_tl (by k_asm))
      rw [← hP'.2.2]
      first | exact (most_done hP'.1 (.inl (by assumption))).symm | exact (most_done hP'.1 (.inr (by assumption))).symm)
theorem rmost_ok (r : Rw) (w : World) (mean : ExcName → Option Value) (mg mb : Str → Option Value) (b : Array UInt8) (t : Tok) (ks : List Int) (hks : KBw.bInts b = ks) (hz : ks.length ≤ 100000) :
    CtV w mean mg mb 107 4 40 [.bytes b t] True (fun tt => .int (mostL ks 0) tt) := by
  intro dp9 un9 gd9 cn9 cs9 a9 ccd9 cl9 outer9 A₀9 base9 h₀9 L9 m9 led9 s9 Q9 E9
  exact pick_all (ne := cx_some) (by with_unfolding_all rfl) (rmost_ok_g.go (pick_all (ne := ⟨(⟨#[], default⟩, 0, ⟨#[], default⟩)⟩) (by with_unfolding_all rfl) rmost_ok_t1)) { cx0 with w := w, mean := mean, mg := mg, mb := mb, dp := dp9, un := un9, gd := gd9, cn := cn9, cs := cs9, a := a9, ccd := ccd9, cl := cl9, outer := outer9, A₀ := A₀9, base := base9, h₀ := h₀9, L := L9, m := m9, led := led9, s := s9, Q := Q9, E := E9, b1 := b, t1 := t, k1 := ks } hks hz
-- part Q1
def quoteOne (o : Int) : List Int := if o = 0 then [92, 120, 48, 48] else if 128 ≤ o ∨ isWord o = true then [o] else [92, o]
def quoteL (ks : List Int) : List Int := ks.flatMap quoteOne
theorem quoteL_snoc (ks : List Int) (o : Int) : quoteL (ks ++ [o]) = quoteL ks ++ quoteOne o := by simp [quoteL]
theorem quoteOne_le (o : Int) : (quoteOne o).length ≤ 4 := by unfold quoteOne; (repeat' split) <;> simp
theorem quoteL_le (ks : List Int) : (quoteL ks).length ≤ 4 * ks.length := by
  induction ks with
  | nil => simp [quoteL]
  | cons o r ih =>
    have := quoteOne_le o
    simp only [quoteL, List.flatMap_cons, List.length_append, List.length_cons] at ih ⊢
    omega
local macro_rules | `(tactic| k_all) => `(tactic| assumption)
local macro_rules | `(tactic| size_fits) => `(tactic| with_reducible assumption)
def quote_ok_P (c : Cx) : Prop := ∀ (hks : KBw.bInts c.b1 = c.k1) (hz : c.k1.length ≤ 20000) , CtNc c 121 4 40 c.led [.bytes c.b1 c.t1] True (fun v new => new = [] ∧ ∃ b' t', v = .bytes b' t' ∧ KBw.bInts b' = quoteL c.k1)
@[irreducible] noncomputable def quote_ok_c : Cx := pick cx_some quote_ok_P
noncomputable def quote_ok_g : Cut (quote_ok_P quote_ok_c) (Heap × Addr × Heap) := by
  refine Cut.mk3 (G := ?G) fun H => ?main
  rotate_left
  unfold quote_ok_P CtNc
  k_fill
  intro hks hz hB0 hF0 hX0 hN0 hT0 hk0 hd hu hpre hret
  refine wpAny_call ?_
  with_unfolding_all refine' code_def ?k1 ?k2 ?k3 ?k4 ?k5 ?kA ?kF ?kK ?k6 ?k7 ?k8 ?k9 ?kB ?_ ?c2 ?c3 ?c4 ?c5
  case kA => exact rfl
  case kF => exact rfl
  case kK => assumption
  case k1 => k_asm
  case k2 => k_asm
  case k3 => k_asm
  case k4 => k_asm
  case k5 => k_asm
  case k6 => k_is
  case k7 => k_is
  case k8 => exact Nat.lt_of_le_of_lt (Nat.le_add_right _ _) hd
  case k9 => exact BindsTo.of_eq (binds := [(Str.ofString "octets", .bytes quote_ok_c.b1 quote_ok_c.t1)]) rfl
  case c5 => decide
  case kB => exact locs rfl
  case c2 => exact rfl
  case c3 => exact rfl
  case c4 => exact rfl
  intro gH LH hH FGH FH NH BH XH TH
  (try dsimp only)
  (try k_lift BH)
  revert hks hz hB0 hX0 hT0 hk0 hd hu hpre hret FGH FH NH BH XH TH
  exact H gH LH hH
@[irreducible] noncomputable def quote_ok_d : Heap × Addr × Heap := pick ⟨(⟨#[], default⟩, 0, ⟨#[], default⟩)⟩ quote_ok_g.G
theorem quote_ok_t1 : quote_ok_g.G quote_ok_d := by
  intro hks hz hB0 hX0 hT0 hk0 hd hu hpre hret FGH FH NH BH XH TH
  have loops := myLoops
  have calls := myCalls
  (try k_fold)
  (repeat' (first | (k_unfold; (try dsimp only)) | walk1 | (dsimp only; walk1) | (leave1; (try dsimp only)) | (refine Held.go ?_; first | ((with_reducible show wpAny _ _ (call (Value.ref _) _) _ _ _); first | ((k_here; (k_dflt refine' ctv_use (isfig_ok ⟨_, rfl⟩ _ _ _ _ _ _) ?k1 ?k2 ?k3 ?k4 ?k5 ?kK ?kd ?ku ?kp ?_); (((case k1 => k_asm); (case k2 => k_asm); (case k3 => k_asm); (case k4 => k_asm); (case k5 => k_asm); (case kK => first | exact rfl | assumption); (case kd => first | exact room2 (by assumption) rfl | ktr_room); (case ku => first | exact unit2 (by assumption) rfl | ktr_units))); (case kp => trivial); (((intro t9 h9 tk9 F9 N9); (try dsimp only); (try k_fold)))))))))
  refine Held.go ?_
  (rename Fr _ _ _ _ => F); (rename News _ _ _ _ => N)
  (rename ∀ p ∈ quote_ok_c.led, p.1 < _ => l1)
  with_unfolding_all refine' KStb.kst_bytes (σ := Array Value × Nat) (fun c => (_, listOf c.1 c.2) :: quote_ok_c.led) (fun _ => []) (fun _ => True) [] (fun pre c => Cat c.1 (quoteL pre) ∧ c.1.size = pre.length) (#[], 0) hks rfl rfl F N trivial ?kk ?kp ?turn ?done
  case kk => kst_all
  case kp => exact ⟨Cat.nil, rfl⟩
  case turn =>
    intro c pre post n tq u h tk own he hlt hn0 hn1 hoff _ hP' F' N'
    (try dsimp only [kstB] at F')
    have hall := own_all l1 hoff
    have hsz : c.1.size ≤ sizeLine := by rw [hP'.2, sizeLine_eq]; omega
    rw [List.cons_append] at N'
    (repeat' (first | (k_unfold; (try dsimp only)) | walk1 | (dsimp only; walk1) | (leave1; (try dsimp only)) | (refine Held.go ?_; first | ((with_reducible show wpAny _ _ (call (Value.ref _) _) _ _ _); first | ((k_here; (k_dflt refine' ctv_use (isfig_ok ⟨_, rfl⟩ _ _ _ _ _ _) ?k1 ?k2 ?k3 ?k4 ?k5 ?kK ?kd ?ku ?kp ?_); (((case k1 => k_asm); (case k2 => k_asm); (case k3 => k_asm); (case k4 => k_asm); (case k5 => k_asm); (case kK => first | exact rfl | assumption); (case kd => first | exact room2 (by assumption) rfl | ktr_room); (case ku => first | exact unit2 (by assumption) rfl | ktr_units))); (case kp => trivial); (((intro t9 h9 tk9 F9 N9); (try dsimp only); (try k_fold)))))))))
    all_goals (
      refine Held.go ?_
      (rename Fr _ _ _ _ => F); (rename News _ _ _ _ => N)
      refine kst_end (c.1.push _, c.2 + 1) F N (by first | exact memA | exact memB) (by intro p hp; simp [hp]) rfl trivial (by kst_all) (by kst_same) ⟨?_, by simp [hP'.2]⟩
      rw [quoteL_snoc]
      refine hP'.1.push ?_
      unfold quoteOne)
    all_goals first
      | (rw [if_pos (by assumption)]; rfl)
      | (rw [ints1 hn0 hn1, if_neg (by assumption), if_pos]; rw [isWord_iff]; first | exact .inl (by assumption) | exact .inr (.inl (by assumption)) | exact .inr (.inr (.inr (.inl ⟨by assumption, by assumption⟩))) | exact .inr (.inr (.inr (.inr ⟨by assumption, by assumption⟩))) | exact .inr (.inr (.inl ((isFig_iff n).mp (by assumption)))) | omega | (have := (isFig_iff n).mp (by assumption); omega))
      | (rw [ints2 (by decide) (by decide) hn0 hn1, if_neg (by assumption), if_neg]; rw [isWord_iff]; have := isFig_no (by assumption : isFig n = false); omega)
  case done =>
    intro c u h tk hl _ hP' F' N'
    (try dsimp only [kstB] at F')
    have hJ := hP'.1.1
    have hJz : (c.1.toList.flatMap fun v => KBw.bInts (payOf v)).length ≤ 100000 := by rw [hP'.1.2]; have := quoteL_le quote_ok_c.k1; omega
    (repeat' (first | (k_unfold; (try dsimp only)) | walk1 | (dsimp only; walk1) | (leave1; (try dsimp only)) | (refine Held.go ?_; first | ((with_reducible show wpAny _ _ (call (Value.ref _) _) _ _ _); first | ((k_here; (k_dflt refine' ctv_use (isfig_ok ⟨_, rfl⟩ _ _ _ _ _ _) ?k1 ?k2 ?k3 ?k4 ?k5 ?kK ?kd ?ku ?kp ?_); (((case k1 => k_asm); (case k2 => k_asm); (case k3 => k_asm); (case k4 => k_asm); (case k5 => k_asm); (case kK => first | exact rfl | assumption); (case kd => first | exact room2 (by assumption) rfl | ktr_room); (case ku => first | exact unit2 (by assumption) rfl | ktr_units))); (case kp => trivial); (((intro t9 h9 tk9 F9 N9); (try dsimp only); (try k_fold)))))))))
    exact hret _ [] _ _ ⟨rfl, _, _, rfl, by rw [← hP'.1.2]; assumption⟩ (by k_asm) (fun q hq => (by k_asm : News _ _ _ (_ :: quote_ok_c.led)) q (.tail _ hq)) (fun _ _ _ h => nomatch h)
theorem quote_ok (r : Rw) (w : World) (mean : ExcName → Option Value) (mg mb : Str → Option Value) (news : Led) (b : Array UInt8) (t : Tok) (ks : List Int) (hks : KBw.bInts b = ks) (hz : ks.length ≤ 20000) :
    CtN w mean mg mb 121 4 40 news [.bytes b t] True (fun v new => new = [] ∧ ∃ b' t', v = .bytes b' t' ∧ KBw.bInts b' = quoteL ks) := by
  intro dp9 un9 gd9 cn9 cs9 a9 ccd9 cl9 outer9 A₀9 base9 h₀9 L9 m9 s9 Q9 E9
  exact pick_all (ne := cx_some) (by with_unfolding_all rfl) (quote_ok_g.go (pick_all (ne := ⟨(⟨#[], default⟩, 0, ⟨#[], default⟩)⟩) (by with_unfolding_all rfl) quote_ok_t1)) { cx0 with w := w, mean := mean, mg := mg, mb := mb, dp := dp9, un := un9, gd := gd9, cn := cn9, cs := cs9, a := a9, ccd := ccd9, cl := cl9, outer := outer9, A₀ := A₀9, base := base9, h₀ := h₀9, L := L9, m := m9, s := s9, Q := Q9, E := E9, led := news, b1 := b, t1 := t, k1 := ks } hks hz
-- part E3
section
open Builtin PyProof PySem.Spec Builtin.ObjectAttr
section
variable {prog : Program} {w : World} {A : Around} {E : Value → Shared → Prop} {R : Result → Shared → Prop} {h : Heap} {g : Array GenState} {d : Drawn} {t : Nat} {os : OsState}
variable {nm q : Str} {C N : Addr} {bs bm bmN : List Value} {hdct : Bool} {sn : List Str} {sub : List Value} {ab : Bool} {col : Option Bool} {dd : Option Addr} {k0 k1 k2 k3 k5 : Option Value} {Bn newId inN : String}
theorem check_newE (Fn : ExcBaseFacts Bn newId inN bmN) (hBn : bm.contains (.type Bn) = true) {M : Model} {rest : List Value} {Q : Unit → Shared → Prop} (hC : h.get? C = some (excClassObj nm q C N bs bm hdct sn sub ab col dd k0 k1 k2 k3 k5 newId))
    (hq : Q () ⟨h, g, d, t, os⟩) : wpAny M A (checkBuiltinCall newId ⟨.ref C :: rest, []⟩) Q E ⟨h, g, d, t, os⟩ :=
  wpAny_check_new_subU Fn hBn (.base) hC hq
theorem newE (Fn : ExcBaseFacts Bn newId inN bmN) (hBn : bm.contains (.type Bn) = true) (hA : bm.contains (.type "AttributeError") = false) (hN : bm.contains (.type "NameError") = false) {rest : List Value}
    (hC : h.get? C = some (excClassObj nm q C N bs bm hdct sn sub ab col dd k0 k1 k2 k3 k5 newId))
    (hq : R (.ok (.ret (.ref (h.objs.size + 1)))) ⟨(h.push { cls := .type "tuple", data := .seq rest.toArray }).push
      { cls := .ref C, data := .fields #[.ref h.objs.size, .none, .none, .none, .bool false, .none] }, g, d, t, os⟩) (hrest : rest.length ≤ sizeLine) :
    codeAny (model prog w) A (.builtin newId ⟨.ref C :: rest, []⟩) R ⟨h, g, d, t, os⟩ := by
  have hends := Fn.ends
  have hcB : (Value.ref C :: bm).contains (.type Bn) = true := by rw [List.contains_cons, hBn, Bool.or_true]
  have hcA : (Value.ref C :: bm).contains (.type "AttributeError") = false := by rw [List.contains_cons, hA]; rfl
  have hcN : (Value.ref C :: bm).contains (.type "NameError") = false := by rw [List.contains_cons, hN]; rfl
  refine codeAny_builtinAt Fn.entry ?_
  unfold Builtin.«BaseException.__new__»
  refine PySem.wpAt_bind ?_
  show PySem.wpAt _ _ _ (stack >>= _) _ _ _
  refine PySem.wpAt_bind (PySem.wpAt_stack fun p below => PySem.wpAt_of_wpAny ?_)
  wp_walk
  refine PySem.wpAt_of_wpAny ?_
  rw [Fn.owner]
  repeat (first | with_reducible refine wpAny_madeHere_exc Fn.canon hC ?_ | with_reducible refine wpAny_loadPart_at hC ?_ | (with_reducible refine wpAny_isSubtype_exc hC ?_; first | rw [hcB] | rw [hcA] | rw [hcN]) | wp_step)
  show R _ _
  rw [Heap.size_push]
  exact hq
abbrev excObj (C T : Addr) : Obj := { cls := .ref C, data := .fields #[.ref T, .none, .none, .none, .bool false, .none] }
theorem type_callE {K : Frag} (Fn : ExcBaseFacts Bn newId inN bmN) (hBn : bm.contains (.type Bn) = true) (hA : bm.contains (.type "AttributeError") = false) (hN : bm.contains (.type "NameError") = false) {rest : List Value} {fI : Addr} {Q : Fin → Shared → Prop}
    (X : K.In h) (hK : K.lookup C = some (excClassObj nm q C N bs bm hdct sn sub ab col dd k0 k1 k2 k3 k5 newId)) (hi : findIn K (.ref C) "__init__" = some (some (.ref fI))) (hf : typeIn K (.ref fI) = some (.type "function"))
    (hq : wpAny (model prog w) A (call (.ref fI) (.ref (h.objs.size + 1) :: rest)) (fun r s' => r = .none ∧ Q (.done (.ret (.ref (h.objs.size + 1)))) s') E
      ⟨(h.push { cls := .type "tuple", data := .seq rest.toArray }).push (excObj C h.objs.size), g, d, t, os⟩) (hrest : rest.length ≤ sizeLine) :
    wpAny (model prog w) A (Builtin.«type.__call__» ⟨.ref C :: rest, []⟩) Q E ⟨h, g, d, t, os⟩ := by
  have hC := X _ _ hK
  repeat (first | with_reducible refine wpAny_loadPart_at hC ?_ | with_reducible refine wpAny_madeBy_exc hC ?_ | wp_step)
  refine codeAny_call_builtin_code (Code.quiet_builtin _ Fn.quiet) (check_newE Fn hBn hC ?_)
  refine newE Fn hBn hA hN hC ?_ hrest
  show wpAny _ _ _ _ _ _
  generalize hh : ((h.push { cls := .type "tuple", data := .seq rest.toArray }).push { cls := .ref C, data := .fields #[.ref h.objs.size, .none, .none, .none, .bool false, .none] }) = h₁
  have keep : ∀ b o, h.get? b = some o → h₁.get? b = some o := fun b o e => hh ▸ Heap.get?_push_of_some _ (Heap.get?_push_of_some _ e)
  have X₁ : K.In h₁ := X.keeps keep
  have hC₁ := keep _ _ hC
  have hget : h₁.get? (h.objs.size + 1) = some { cls := .ref C, data := .fields #[.ref h.objs.size, .none, .none, .none, .bool false, .none] } := by rw [← hh]; heap_get
  have hcC : (Value.ref C :: bm).contains (.ref C) = true := by simp
  unfold isInstance
  repeat (first | with_reducible refine wpAny_loadPart_at hget ?_ | (with_reducible refine wpAny_isSubtype_exc hC₁ ?_; rw [hcC]) | wp_step)
  show wpAny _ _ (typeLookup (.ref C) _) _ _ _
  refine (looks_findIn X₁ hi).here ?_
  refine wpAny_holding (wpAny_bind ?_)
  refine (bind_fn X₁ _ hf).here ?_
  refine wpAny_bind (wpAny_mono (hh ▸ hq) (fun r s' hr => ?_) fun _ _ x => x)
  obtain ⟨rfl, hQ⟩ := hr
  wp_walk
  exact hQ
end
end
-- part E4
section
open Builtin PyProof PySem.Spec Builtin.ObjectAttr
section
variable {prog : Program} {w : World} {A : Around} {E : Value → Shared → Prop} {s : Shared}
variable {nm q : Str} {C N : Addr} {bs bm bmN : List Value} {hdct : Bool} {sn : List Str} {sub : List Value} {ab : Bool} {col : Option Bool} {dd : Option Addr} {k0 k1 k2 k3 k5 : Option Value} {Bn newId inN : String}
  {K : Frag} {L x : Addr} {h₀ : Heap} {m : Str → Option Value} {news : Led}
theorem callE (Fn : ExcBaseFacts Bn newId inN bmN) (hBn : bm.contains (.type Bn) = true) (hA : bm.contains (.type "AttributeError") = false) (hN : bm.contains (.type "NameError") = false) {rest : List Value} {fI : Addr} {Q : Value → Shared → Prop}
    (F : Fr h₀ L s.heap m) (Nw : News h₀ L s.heap news) (X : K.In h₀) (hK : K.lookup C = some (excClassObj nm q C N bs bm hdct sn sub ab col dd k0 k1 k2 k3 k5 newId)) (hi : findIn K (.ref C) "__init__" = some (some (.ref fI))) (hf : typeIn K (.ref fI) = some (.type "function"))
    (hq : ∀ e T h', Fr h₀ L h' m → News h₀ L h' ((e, excObj C T) :: (T, { cls := .type "tuple", data := .seq rest.toArray }) :: news) → (∀ p ∈ news, p.1 < T) → T < e →
      codeAny (model prog w) (A.under (.builtin "type.__call__" ⟨.ref C :: rest, []⟩)) (.call (.ref fI) ⟨.ref e :: rest, []⟩) (InitBack e fun r s' => match r with | .ok (.ret v) => Q v s' | .ok _ => False | .error e => E e s') { s with heap := h' }) (hrest : rest.length ≤ sizeLine) :
    wpAny (model prog w) A (call (.ref C) rest) Q E s := by
  obtain ⟨h, g, d, t, os⟩ := s
  have X₁ : K.In h := X.keeps F.keep
  have hC := X₁ _ _ hK
  have f1 := tc_lookup
  have f2 := tc_bind (.ref C)
  have hT : (⟨h, g, d, t, os⟩ : Shared).TypeIs (.ref C) "type" := ⟨_, hC, rfl⟩
  refine wpAny_call (codeAny_of_tree ?_)
  show wpAny _ _ (callAny (.ref C) _) _ _ _
  repeat (any_goals (first | assumption | with_reducible refine wpAny_loadPart_at hC ?_ | wp_step))
  refine ⟨rfl, ?_⟩
  refine codeAny_call_builtin_at (Code.quiet_builtin _ (by decide +kernel)) entry_typeCall (wpAny_check_type_call_sub hC (type_callE (hrest := hrest) Fn hBn hA hN X₁ hK hi hf ?_))
  have N' := (Nw.push F { cls := .type "tuple", data := .seq rest.toArray }).push (F.push _) (excObj C h.objs.size)
  rw [Heap.size_push] at N'
  refine wpAny_call (codeAny_mono (hq _ h.objs.size _ ((F.push _).push _) N' (fun p hp => Heap.lt_size (Nw p hp).1) (Nat.lt_succ_self _)) fun r s' z => ?_)
  rcases r with e | (_ | _ | v | _)
  all_goals first | exact z | exact z.elim
/-- own classes ahead of the standing ones -/
def passMro : List Value → Bool
  | .ref _ :: r => passMro r
  | l => l == [.type "Exception", .type "BaseException", .type "object"]
theorem refuse_pass (self : Value) : ∀ {l : List Value}, passMro l = true → refuseLoop self "__setattr__" l = pure ()
  | .ref c :: r, e => by rw [refuseLoop_ref]; exact refuse_pass self e
  | [], e => by cases e
  | .type n :: r, e => by rw [beq_iff_eq.mp e]; exact PySem.F.store_Exception.passes self
  | .none :: r, e => by rw [beq_iff_eq.mp e]; exact PySem.F.store_Exception.passes self
  | .bool _ :: r, e => by rw [beq_iff_eq.mp e]; exact PySem.F.store_Exception.passes self
  | .int .. :: r, e => by rw [beq_iff_eq.mp e]; exact PySem.F.store_Exception.passes self
  | .float .. :: r, e => by rw [beq_iff_eq.mp e]; exact PySem.F.store_Exception.passes self
  | .str .. :: r, e => by rw [beq_iff_eq.mp e]; exact PySem.F.store_Exception.passes self
  | .bytes .. :: r, e => by rw [beq_iff_eq.mp e]; exact PySem.F.store_Exception.passes self
  | .builtin _ :: r, e => by rw [beq_iff_eq.mp e]; exact PySem.F.store_Exception.passes self
theorem pass_has (b : Value) (hb : [Value.type "Exception", .type "BaseException", .type "object"].contains b = true) : ∀ {l : List Value}, passMro l = true → l.contains b = true
  | .ref c :: r, e => by rw [List.contains_cons, pass_has b hb (l := r) e, Bool.or_true]
  | [], e => by cases e
  | .type n :: r, e => by rw [beq_iff_eq.mp e]; exact hb
  | .none :: r, e => by rw [beq_iff_eq.mp e]; exact hb
  | .bool _ :: r, e => by rw [beq_iff_eq.mp e]; exact hb
  | .int .. :: r, e => by rw [beq_iff_eq.mp e]; exact hb
  | .float .. :: r, e => by rw [beq_iff_eq.mp e]; exact hb
  | .str .. :: r, e => by rw [beq_iff_eq.mp e]; exact hb
  | .bytes .. :: r, e => by rw [beq_iff_eq.mp e]; exact hb
  | .builtin _ :: r, e => by rw [beq_iff_eq.mp e]; exact hb
def excOver (K : Frag) (C : Addr) : Bool := (clsIn K C).any fun cd => passMro cd.mro
theorem osaE {ox : Obj} {od : Option Obj} {name : Str} {tk : Tok} {v : Value} {R : Result → Shared → Prop} (X : K.In s.heap) (I : InstAt s.heap x ox C od) (hp : excOver K C = true) (ht : takerIn K C name = some none)
    (h : ∀ b, wpAny (model prog w) A.in1 (storeInOwnDict (.ref x) (.ref C) (.str name tk) name v b)
      (fun fin s' => match fin with | .done f => R (.ok f) s' | .again c' => c'.quiet = true ∧ codeAny (model prog w) A c' R s') (fun e s' => R (.error e) s') s) :
    codeAny (model prog w) A (.call (.builtin "object.__setattr__") ⟨[.ref x, .str name tk, v], []⟩) R s := by
  have SF := PySem.F.store_Exception
  obtain ⟨cd, hc, ho⟩ := any_some hp
  have ne : cd.mro.isEmpty = false := by cases q : cd.mro with | nil => rw [q] at ho; cases ho | cons _ _ => rfl
  have sub : Looks (model prog w) s.heap (isInstance (.ref x) (.type "object")) true := I.type.andThen (looks_mroIn X (by unfold mroIn; rw [hc, Option.bind_some, if_neg (by rw [ne]; decide), pass_has _ (by decide +kernel) ho]))
  refine codeAny_call_builtin SF.slot.plain SF.entry (@check_slot (model prog w) _ _ s "object.__setattr__" "object" "__setattr__" (.ref x) [.str name tk, v] [] _ SF.kind SF.split sub (SF.args (.ref x) (.str name tk) v) ?_)
  obtain ⟨attr, ha, hr⟩ := Option.bind_eq_some_iff.mp ht
  have hm : Looks (model prog w) s.heap (mroOf (.ref C)) cd.mro := (looks_clsIn X hc).andThen .now
  have L3 : Looks (model prog w) s.heap (storeTaker? attr) none := by
    cases attr with
    | none => cases hr; exact .now
    | some a =>
      obtain ⟨b, hb, hr⟩ := Option.map_eq_some_iff.mp hr
      refine (looks_takesIn X hb).andThen ?_
      cases b <;> first | exact .now | cases hr
  rw [osa_eq, refuse_eq]
  refine wpAny_bind (wpAny_bind (I.type.here (wpAny_bind (hm.here ?_))))
  rw [refuse_pass _ ho]
  refine wpAny_pure (wpAny_bind (I.type.here (wpAny_bind ((looks_findIn X ha).here (wpAny_bind (L3.here ?_))))))
  exact h _
/-- the first store makes the own dict -/
theorem set_firstE {ox : Obj} {name : Str} {v : Value} {Q : Unit → Shared → Prop} (F : Fr h₀ L s.heap m) (Nw : News h₀ L s.heap ((x, ox) :: news)) (X : K.In h₀) (hox : ox.cls = .ref C) (hfl : ∃ vs, ox.data = .fields vs) (hd : ox.dict = none) (hne : ∀ p ∈ news, p.1 ≠ x)
    (hs : findIn K (.ref C) "__setattr__" = some (some (.builtin "object.__setattr__"))) (hp : excOver K C = true) (ht : takerIn K C name = some none) (hh : hasDictIn K C = true)
    (h : ∀ dx h' tk, Fr h₀ L h' m → News h₀ L h' ((dx, dictOf [⟨PyData.keyHash w.params name, .str name tk, v⟩] 1) :: (x, { ox with dict := some dx }) :: news) → (∀ p ∈ news, p.1 < dx) → x < dx → Q () { s with heap := h', toks := tk + 1 }) :
    wpAny (model prog w) A (setAttr (.ref x) name v) Q E s := by
  have X₁ : K.In s.heap := X.keeps F.keep
  obtain ⟨vs, hfl⟩ := hfl
  have I : InstAt s.heap x ox C none := ⟨(Nw _ (.head _)).1, hox, by unfold notCls; rw [hfl], by rw [hd]; trivial⟩
  refine set_plain X₁ I hs ?_
  obtain ⟨hp', g, d, t, os⟩ := s
  refine osaE (s := ⟨hp', g, d, t + 1, os⟩) X₁ I hp ht fun b => ?_
  obtain ⟨cd, hc, hd'⟩ := any_some hh
  have X₂ : K.In hp' := X₁
  obtain ⟨hx, hcl, hn, -⟩ := I
  have hx : hp'.get? x = some ox := hx
  obtain ⟨oc, odi, oda, osl⟩ := ox
  dsimp only at hcl hd hfl
  subst hcl hd hfl
  have P1 := Nw.push F { cls := .type "dict", data := .dict #[] }
  have hx₁ : (hp'.push { cls := .type "dict", data := .dict #[] }).get? x = some _ := Heap.get?_push_of_some _ hx
  have hxs : x ≠ hp'.objs.size := Nat.ne_of_lt (Heap.lt_size hx)
  have lts : ∀ p ∈ news, p.1 < hp'.objs.size := fun p hp => Heap.lt_size (Nw p (.tail _ hp)).1
  obtain ⟨U1, U2⟩ := news_upd (pre := [(hp'.objs.size, { cls := .type "dict", data := .dict #[] })]) (d := x) (post := news) (f := fun o => { cls := o.cls, dict := some hp'.objs.size, data := o.data, slots := o.slots }) (F.push _) P1 (fun p hp => by rw [List.mem_singleton.mp hp]; exact Ne.symm hxs) hne rfl rfl
  obtain ⟨V1, V2⟩ := news_upd (pre := []) (d := hp'.objs.size) (f := Obj.putName name (PyData.keyHash w.params name) (.str name (t + 1)) v) (o' := dictOf [⟨PyData.keyHash w.params name, .str name (t + 1), v⟩] 1) U1 U2 (fun _ h => nomatch h) (fun p hp => by
    rcases List.mem_cons.mp hp with rfl | hp
    · exact hxs
    · exact Nat.ne_of_lt (lts p hp)) (by rw [show ({ cls := .type "dict", data := .dict #[] } : Obj) = dictOf [] 0 from rfl, putName_dict]; rfl) rfl
  have D : Heap.get? _ _ = some _ := (U2 (hp'.objs.size, _) (.head _)).1
  dsimp only at D
  have D' := (V2 (hp'.objs.size, _) (.head _)).1
  refine wpAny_bind (wpAny_pure (wpAny_bind (wpAny_bind (wpAny_loadPart hx (wpAny_bind ((looks_clsIn X₂ hc).at ?_))))))
  rw [hd']
  refine wpAny_bind (wpAny_alloc' ?_)
  refine wpAny_bind (wpAny_update' hx₁ ?_)
  refine wpAny_pure ?_
  show wpAny _ _ (storeInDict hp'.objs.size (.str name _) name v) _ _ _
  unfold storeInDict newKeyGuard nsSet
  refine wpAny_bind (wpAny_pure (wpAny_bind ?_))
  refine wpAny_bind (wpAny_bind (wpAny_askSetting (wpAny_pure (wpAny_bind (wpAny_mkText (wpAny_bind (wpAny_loadPart D ?_)))))))
  dsimp only
  rw [aRefKeyMayBeTheName_at]
  show wpAny _ _ (if (!Array.any #[] _ && Array.any #[] _) = true then _ else _) _ _ _
  rw [if_neg (by simp)]
  refine wpAny_updatePart D ?_
  refine wpAny_bind (wpAny_lookBehind D' (pastItsLine_dict (by simp [sizeLine_eq])) ?_)
  exact wpAny_pure (h _ _ _ V1 V2 lts (Heap.lt_size hx))
theorem putL_le (name : Str) (hsh : Int) (key v : Value) : ∀ es : List DictEntry, (putL name hsh key v es).length ≤ es.length + 1
  | [] => by simp [putL]
  | e :: r => by
    have := putL_le name hsh key v r
    unfold putL
    split <;> simp <;> omega
/-- each further store -/
theorem set_nextE {ox : Obj} {dx : Addr} {name : Str} {v : Value} {Q : Unit → Shared → Prop} {es : List DictEntry} {n : Nat} (F : Fr h₀ L s.heap m) (Nw : News h₀ L s.heap ((dx, dictOf es n) :: news)) (X : K.In h₀)
    (I : InstAt s.heap x ox C (some (dictOf es n))) (hd : ox.dict = some dx) (hne : ∀ p ∈ news, p.1 ≠ dx)
    (hs : findIn K (.ref C) "__setattr__" = some (some (.builtin "object.__setattr__"))) (hp : excOver K C = true) (ht : takerIn K C name = some none) (hh : hasDictIn K C = true) (hl : (getL name es).isSome = true)
    (hz : es.length ≤ 1000)
    (h : ∀ h' tk, Fr h₀ L h' m → News h₀ L h' ((dx, dictOf (putL name (PyData.keyHash w.params name) (.str name tk) v es) (putN name es n)) :: news) → Q () { s with heap := h', toks := tk + 1 }) :
    wpAny (model prog w) A (setAttr (.ref x) name v) Q E s := by
  have X₁ : K.In s.heap := X.keeps F.keep
  refine set_plain X₁ I hs ?_
  obtain ⟨hp', g, d, t, os⟩ := s
  refine osaE (s := ⟨hp', g, d, t + 1, os⟩) X₁ I hp ht fun b => ?_
  obtain ⟨cd, hc, hd'⟩ := any_some hh
  have X₂ : K.In hp' := X₁
  obtain ⟨U1, U2⟩ := news_upd (pre := []) (f := Obj.putName name (PyData.keyHash w.params name) (.str name (t + 1)) v) F Nw (fun _ h => nomatch h) hne (putName_dict ..) rfl
  have D : Heap.get? _ _ = some _ := (Nw (dx, _) (.head _)).1
  have D' : Heap.get? _ _ = some _ := (U2 (dx, _) (.head _)).1
  dsimp only at D D'
  obtain ⟨hx, hcl, hn, -⟩ := I
  obtain ⟨oc, odi, oda, osl⟩ := ox
  dsimp only at hcl hd
  subst hcl hd
  refine wpAny_bind (wpAny_pure (wpAny_bind (wpAny_bind (wpAny_loadPart hx (wpAny_bind ((looks_clsIn X₂ hc).at ?_))))))
  rw [hd']
  refine wpAny_pure (a := some dx) (wpAny_bind (wpAny_pure (wpAny_bind ?_)))
  unfold nsSet
  refine wpAny_bind (wpAny_bind (wpAny_askSetting (wpAny_pure (wpAny_bind (wpAny_mkText (wpAny_bind (wpAny_loadPart D ?_)))))))
  unfold getL at hl
  dsimp only
  have c : (!es.toArray.any (·.key.isStr name) && es.toArray.any (·.refKey)) = false := by
    rw [← Array.any_toList, ← Array.any_toList]
    dsimp only
    split at hl
    · rename_i en he
      rw [List.any_eq_true.mpr ⟨en, List.mem_of_find?_eq_some he, List.find?_some he⟩]; rfl
    · split at hl
      · cases hl
      · rename_i z; rw [Bool.not_eq_true] at z; rw [z, Bool.and_false]
  rw [aRefKeyMayBeTheName_at, c]
  refine wpAny_updatePart D ?_
  refine wpAny_bind (wpAny_lookBehind D' (pastItsLine_dict (by rw [List.size_toArray, sizeLine_eq]; have := putL_le name (PyData.keyHash w.params name) (.str name (t + 1)) v es; omega)) ?_)
  exact wpAny_pure (h _ _ U1 U2)
theorem entry_gaE : entryFor table "BaseException.__getattribute__" = some Builtin.«object.__getattribute__» := PySem.F.entry_bexc_ga
/-- a field of an own exception is read -/
theorem get_valueE {ox : Obj} {od : Obj} {name : Str} {v : Value} {expr : Bool} {Q : Value → Shared → Prop} {cd : ClassData} (X : K.In s.heap) (I : InstAt s.heap x ox C (some od)) (ga : Slot "Exception" "__getattribute__" "BaseException.__getattribute__")
    (hga : findIn K (.ref C) "__getattribute__" = some (some (.builtin "BaseException.__getattribute__"))) (hgx : findIn K (.ref C) "__getattr__" = some none) (hp : excOver K C = true) (hc : clsIn K C = some cd) (hcd : cd.hasDict = true) (ha : findIn K (.ref C) name = some none)
    (hv : lookIn name od = some (some v)) (hh : handedIn v = true) (h : Q v { s with toks := s.toks + 1 }) : wpAny (model prog w) A (getAttr (.ref x) name expr) Q E s := by
  have hf : findObj K C (some od) name = some (.value v) := by
    unfold findObj W.ownOf
    simp only [hc, Option.bind_some, ha, hcd, if_true, hv]
  obtain ⟨cd', hc', ho⟩ := any_some hp
  have ne : cd'.mro.isEmpty = false := by cases q : cd'.mro with | nil => rw [q] at ho; cases ho | cons _ _ => rfl
  have sub : Looks (model prog w) s.heap (isInstance (.ref x) (.type "BaseException")) true := I.type.andThen (looks_mroIn X (by unfold mroIn; rw [hc', Option.bind_some, if_neg (by rw [ne]; decide), pass_has _ (by decide +kernel) ho]))
  have L0 := I.type (M := model prog w)
  have L1 := looks_findIn (M := model prog w) X hga
  have L2 := looks_findIn (M := model prog w) X hgx
  have L3 := looks_find (M := model prog w) X I hf
  have hx2 : (Value.builtin "BaseException.__getattribute__" == Value.builtin "object.__getattribute__") = false := by decide +kernel
  unfold getAttr getAttrBy
  refine wpAny_bind (wpAny_mkText (wpAny_holding (wpAny_bind (L0 _ _ _ _ (fun _ _ e => e) (wpAny_bind (L1 _ _ _ _ (fun _ _ e => e) ?_))))))
  dsimp only
  rw [hx2, Bool.and_false, if_neg (by decide)]
  unfold getAttrByItsOwn hookBefore callGetattribute boundAndCalled
  refine wpAny_bind (show wpAny _ _ (typeLookup (.ref C) "__getattr__") _ _ _ from L2 _ _ _ _ (fun _ _ e => e) (wpAny_bind (wpAny_attempt (wpAny_holding ?_))))
  rw [show (expr && onTheHeap (Value.builtin "BaseException.__getattribute__")) = false from Bool.and_false _, if_neg (by decide)]
  refine wpAny_bind (wpAny_of_eq (ga.bind _) ?_)
  show wpAny _ _ (call (.builtin "BaseException.__getattribute__") [.ref x, .str name s.toks]) _ _ _
  refine wpAny_call ?_
  refine codeAny_call_builtin ga.plain entry_gaE ?_
  refine @check_slot (model prog w) _ _ { s with toks := s.toks + 1 } "BaseException.__getattribute__" "BaseException" "__getattribute__" (.ref x) [.str name s.toks] [] _ (by decide +kernel) (by decide +kernel) sub (PySem.F.args_bexc_ga _ _) ?_
  refine wpAny_bind (wpAny_pure (wpAny_bind (wpAny_pure (wpAny_bind (L0 _ _ _ _ (fun _ _ e => e) (wpAny_bind (L3 _ _ _ _ (fun _ _ e => e) ?_)))))))
  refine wpAny_pure ?_
  show wpAny _ _ (handedOut v) _ _ _
  rw [handedOut_of hh]; exact wpAny_pure h
end
end
-- part E5
theorem instE {h₀ h : Heap} {L x dx C : Addr} {ox od : Obj} {led : Led} {vs : Array Value} (N : News h₀ L h led) (hx : (x, ox) ∈ led) (hd : (dx, od) ∈ led) (hc : ox.cls = .ref C) (hf : ox.data = .fields vs) (hdx : ox.dict = some dx) : InstAt h x ox C (some od) := by
  obtain ⟨oc, odi, oda, osl⟩ := ox
  dsimp only at hc hf hdx
  subst hc hf hdx
  exact ⟨(N _ hx).1, rfl, rfl, (N _ hd).1⟩
theorem ne_lts {news : Led} {T e : Addr} {o : Obj} (h : ∀ p ∈ news, p.1 < T) (h2 : T < e) : ∀ p ∈ (T, o) :: news, p.1 ≠ e := fun p hp => by
  rcases List.mem_cons.mp hp with rfl | hp
  · exact Nat.ne_of_lt h2
  · exact Nat.ne_of_lt (Nat.lt_trans (h p hp) h2)
theorem ne_lts1 {news : Led} {x dx : Addr} {o : Obj} (h : ∀ p ∈ news, p.1 < dx) (h2 : x < dx) : ∀ p ∈ (x, o) :: news, p.1 ≠ dx := fun p hp => by
  rcases List.mem_cons.mp hp with rfl | hp
  · exact Nat.ne_of_lt h2
  · exact Nat.ne_of_lt (h p hp)
abbrev bpObj (C T dx : Addr) : Obj := { cls := .ref C, dict := some dx, data := .fields #[.ref T, .none, .none, .none, .bool false, .none] }
/-- the making of an own exception -/
abbrev CtMk (w : World) (mean : ExcName → Option Value) (mg mb : Str → Option Value) (C : Addr) (vs : List Value) (P : List DictEntry → Prop) : Prop :=
  ∀ (dp un : Nat) (gd : Option (List Code)) (cn : Str) (cs : Scope) (a : Addr) (ccd : Value) (cl : List (Str × Addr)) (outer : List Env) (A₀ : Around) (base h₀ : Heap) (L : Addr) (m : Str → Option Value) (news : Led) (s : Shared) (Q E : Value → Shared → Prop),
    Below A₀ base outer h₀ → Fr h₀ L s.heap m → (KF w.params).In h₀ → News h₀ L s.heap news → Top VQ LS mean mg mb h₀ → cs.kind = .function →
    dp + 2 < recursionLimit → un + 16 < cLine →
    (∀ e dx T es n h' tk', Fr h₀ L h' m → News h₀ L h' ((dx, dictOf es n) :: (e, bpObj C T dx) :: (T, { cls := .type "tuple", data := .seq vs.toArray }) :: news) → (∀ p ∈ news, p.1 < T) → T < e → e < dx → P es → Q (.ref e) { s with heap := h', toks := tk' }) →
    wpAny (model PySem.Challenge.rw_sj0126_01.row.prog w) (ktrTop dp un gd cn cs L a ccd cl outer) (call (.ref C) vs) Q E s
section
variable {w : World} {mean : ExcName → Option Value} {mg mb : Str → Option Value} {C : Addr} {news : Led} {vs : List Value} {P : List DictEntry → Prop}
  {dp un : Nat} {gd : Option (List Code)} {cn : Str} {cs : Scope} {a : Addr} {ccd : Value} {cl : List (Str × Addr)} {outer : List Env} {A₀ : Around} {base h₀ : Heap} {L : Addr} {m : Str → Option Value} {s : Shared} {Q E : Value → Shared → Prop}
theorem mk_use (Ct : CtMk w mean mg mb C vs P) (B : Below A₀ base outer h₀) (F : Fr h₀ L s.heap m) (X : (KF w.params).In h₀) (N : News h₀ L s.heap news) (T : Top VQ LS mean mg mb h₀)
    (hk : cs.kind = .function) (hd' : dp + 2 < recursionLimit) (hu : un + 16 < cLine)
    (ret : ∀ e dx T es n h' tk', Fr h₀ L h' m → News h₀ L h' ((dx, dictOf es n) :: (e, bpObj C T dx) :: (T, { cls := .type "tuple", data := .seq vs.toArray }) :: news) → (∀ p ∈ news, p.1 < T) → T < e → e < dx → P es → Q (.ref e) { s with heap := h', toks := tk' }) :
    wpAny (model PySem.Challenge.rw_sj0126_01.row.prog w) (ktrTop dp un gd cn cs L a ccd cl outer) (call (.ref C) vs) Q E s :=
  Ct _ _ _ _ _ _ _ _ _ _ _ _ _ _ _ _ _ _ B F X N T hk hd' hu ret
end
theorem mkpat_ok (r : Rw) (w : World) (mean : ExcName → Option Value) (mg mb : Str → Option Value) (v1 v2 v3 : Value) : CtMk w mean mg mb 60 [v1, v2, v3] (fun es => getL "code" es = some (some v1) ∧ getL "told" es = some (some v2) ∧ getL "place" es = some (some v3)) := by
  unfold CtMk
  k_fill
  intros
  rename_i B F X N T hk hd hu hret
  refine' callE PySem.F.excBase_Exception ?a1 ?a2 ?a3 F N X rfl ?a4 ?a5 ?a7 ?a6
  case a1 => decide +kernel
  case a2 => decide +kernel
  case a3 => decide +kernel
  case a4 => k_is
  case a5 => k_is
  case a6 => show (3 : Nat) ≤ _; rw [sizeLine_eq]; decide
  intro e T h' F' N' l1 l2
  ((refine' code_def ?k1 ?k2 ?k3 ?k4 ?k5 ?kA ?kF ?kK ?k6 ?k7 ?k8 ?k9 ?kB ?_ ?c2 ?c3 ?c4 ?c5; (case kA => exact rfl); (case kF => exact rfl); (case kK => assumption); (case k1 => k_asm); (case k2 => k_asm); (case k3 => k_asm); (case k4 => k_asm); (case k5 => k_asm); (case k6 => k_is); (case k7 => k_is); (case k8 => ktr_room); (case k9 => exact binds_K (by k_in) rfl (by k_is) rfl rfl rfl); (case c5 => decide); (case kB => exact locs rfl); (case c2 => exact rfl); (case c3 => exact rfl); (case c4 => exact rfl); k_whole; intro g' L' h' FG' F' N' B' X' T'; (try dsimp only); (try k_lift B'); (try k_fold)))
  (repeat' (first | (k_unfold; (try dsimp only)) | walk1 | (dsimp only; walk1) | (leave1; (try dsimp only))))
  ((refine' set_firstE ?k1 ?k2 ?k3 ?r1 ?r2 ?r3 ?k4 ?k5 ?k6 ?k7 ?k8 ?_; (case k1 => k_asm); (case k2 => k_asm); (case k3 => k_asm); (case r1 => rfl); (case r2 => exact ⟨_, rfl⟩); (case r3 => rfl); (case k4 => first | exact ne_lts (by assumption) (by assumption) | exact ne_lts1 (by assumption) (by assumption)); (case k5 => k_is); (case k6 => kernel_rfl); (case k7 => k_is); (case k8 => k_is)))
  intro dx h2 tk2 F2 N2 m1 m2
  (repeat' (first | (k_unfold; (try dsimp only)) | walk1 | (dsimp only; walk1) | (leave1; (try dsimp only))))
  ((refine' set_nextE ?k1 ?k2 ?k3 ?kI ?r1 ?k4 ?k5 ?k6 ?k7 ?k8 ?k9 ?kz ?_; (case k1 => k_asm); (case k2 => k_asm); (case k3 => k_asm); (case kI => exact instE (by k_asm) (by k_mem) (by k_mem) rfl rfl rfl); (case r1 => rfl); (case k4 => first | exact ne_lts (by assumption) (by assumption) | exact ne_lts1 (by assumption) (by assumption)); (case k5 => k_is); (case k6 => kernel_rfl); (case k7 => k_is); (case k8 => k_is); (case k9 => rfl); (case kz => exact Nat.le_of_ble_eq_true (by rfl))))
  intro h3 tk3 F3 N3
  (repeat' (first | (k_unfold; (try dsimp only)) | walk1 | (dsimp only; walk1) | (leave1; (try dsimp only))))
  ((refine' set_nextE ?k1 ?k2 ?k3 ?kI ?r1 ?k4 ?k5 ?k6 ?k7 ?k8 ?k9 ?kz ?_; (case k1 => k_asm); (case k2 => k_asm); (case k3 => k_asm); (case kI => exact instE (by k_asm) (by k_mem) (by k_mem) rfl rfl rfl); (case r1 => rfl); (case k4 => first | exact ne_lts (by assumption) (by assumption) | exact ne_lts1 (by assumption) (by assumption)); (case k5 => k_is); (case k6 => kernel_rfl); (case k7 => k_is); (case k8 => k_is); (case k9 => rfl); (case kz => exact Nat.le_of_ble_eq_true (by rfl))))
  intro h4 tk4 F4 N4
  (repeat' (first | (k_unfold; (try dsimp only)) | walk1 | (dsimp only; walk1) | (leave1; (try dsimp only))))
  exact hret _ _ _ _ _ _ _ (by k_asm) (by k_asm) l1 l2 (by assumption) ⟨by rfl, by rfl, by rfl⟩
theorem mkrw_ok (r : Rw) (w : World) (mean : ExcName → Option Value) (mg mb : Str → Option Value) (v1 : Value) : CtMk w mean mg mb 72 [v1] (fun es => getL "told" es = some (some v1)) := by
  unfold CtMk
  k_fill
  intros
  rename_i B F X N T hk hd hu hret
  refine' callE PySem.F.excBase_Exception ?a1 ?a2 ?a3 F N X rfl ?a4 ?a5 ?a7 ?a6
  case a1 => decide +kernel
  case a2 => decide +kernel
  case a3 => decide +kernel
  case a4 => k_is
  case a5 => k_is
  case a6 => show (1 : Nat) ≤ _; rw [sizeLine_eq]; decide
  intro e T h' F' N' l1 l2
  ((refine' code_def ?k1 ?k2 ?k3 ?k4 ?k5 ?kA ?kF ?kK ?k6 ?k7 ?k8 ?k9 ?kB ?_ ?c2 ?c3 ?c4 ?c5; (case kA => exact rfl); (case kF => exact rfl); (case kK => assumption); (case k1 => k_asm); (case k2 => k_asm); (case k3 => k_asm); (case k4 => k_asm); (case k5 => k_asm); (case k6 => k_is); (case k7 => k_is); (case k8 => ktr_room); (case k9 => exact binds_K (by k_in) rfl (by k_is) rfl rfl rfl); (case c5 => decide); (case kB => exact locs rfl); (case c2 => exact rfl); (case c3 => exact rfl); (case c4 => exact rfl); k_whole; intro g' L' h' FG' F' N' B' X' T'; (try dsimp only); (try k_lift B'); (try k_fold)))
  (repeat' (first | (k_unfold; (try dsimp only)) | walk1 | (dsimp only; walk1) | (leave1; (try dsimp only))))
  ((refine' set_firstE ?k1 ?k2 ?k3 ?r1 ?r2 ?r3 ?k4 ?k5 ?k6 ?k7 ?k8 ?_; (case k1 => k_asm); (case k2 => k_asm); (case k3 => k_asm); (case r1 => rfl); (case r2 => exact ⟨_, rfl⟩); (case r3 => rfl); (case k4 => first | exact ne_lts (by assumption) (by assumption) | exact ne_lts1 (by assumption) (by assumption)); (case k5 => k_is); (case k6 => kernel_rfl); (case k7 => k_is); (case k8 => k_is)))
  intro dx h2 tk2 F2 N2 m1 m2
  (repeat' (first | (k_unfold; (try dsimp only)) | walk1 | (dsimp only; walk1) | (leave1; (try dsimp only))))
  exact hret _ _ _ _ _ _ _ (by k_asm) (by k_asm) l1 l2 (by assumption) (by rfl)
-- part E6
section
open Builtin PyProof PySem.Spec
/-- an own exception that may be raised -/
def RaisableE (K : Frag) (E : Value → Shared → Prop) (v : Value) (s₁ : Shared) : Prop :=
  ∃ e T dx C, v = .ref e ∧ K.In s₁.heap ∧ typeIn K (.ref C) = some (.type "type") ∧ excOver K C = true ∧ s₁.heap.get? e = some (bpObj C T dx) ∧ E (.ref e) s₁
variable {prog : Program} {w : World} {A : Around} {E : Value → Shared → Prop} {s : Shared} {K : Frag} {env : Env}
theorem Raise_E {e : Expr} {pos : Pos} {Q : Flow → Shared → Prop} {h₀ : Heap} (_X : K.In h₀) (hh : A.handled = none)
    (h : wpAny (model prog w) A (eval e env) (RaisableE K E) E s) : wpAny (model prog w) A (exec (.Raise (some e) none pos) env) Q E s := by
  show wpAny _ A (do standAt pos; raiseStmt env (some (do let v ← eval e env; standAt pos; pure v)) none) Q E s
  refine wpAny_bind (wpAny_standAt ?_)
  unfold raiseStmt
  dsimp only
  refine wpAny_bind (wpAny_bind (wpAny_mono h (fun v s₁ h₁ => wpAny_bind (wpAny_standAt (wpAny_pure ?_))) fun _ _ x => x))
  obtain ⟨x, T, dx, C, rfl, X, hc, hov, hx, hE⟩ := h₁
  obtain ⟨hp, g, d, tk, os⟩ := s₁
  have hx : hp.get? x = some (bpObj C T dx) := hx
  have L0 : Looks (model prog w) hp (typeOf (.ref x)) (.ref C) := (Looks.ld hx).andThen .now
  obtain ⟨cd', hc', ho⟩ := any_some hov
  have ne : cd'.mro.isEmpty = false := by cases q : cd'.mro with | nil => rw [q] at ho; cases ho | cons _ _ => rfl
  have sub : Looks (model prog w) hp (isInstance (.ref x) (.type "BaseException")) true := L0.andThen (looks_mroIn X (by unfold mroIn; rw [hc', Option.bind_some, if_neg (by rw [ne]; decide), pass_has _ (by decide +kernel) ho]))
  have LT : Looks (model prog w) hp (typeOf (.ref C)) (.type "type") := looks_typeIn X hc
  have hL : Looks (model prog w) hp (classData C) cd' := looks_clsIn X hc'
  repeat (first | with_reducible refine wpAny_loadPart_at hx ?_ | with_reducible refine sub.at ?_ | with_reducible refine hL.at ?_ | with_reducible refine LT.at ?_ | wp_step)
  exact wpAny_raiseNew_none hh hE
end
/-- a call that may come back or raise an own exception -/
abbrev CtE (w : World) (mean : ExcName → Option Value) (mg mb : Str → Option Value) (f : Addr) (d u : Nat) (news : Led) (vs : List Value) (pre : Prop) (Ret : Value → Led → Prop) (C : Addr) (PX : List DictEntry → Prop) : Prop :=
  ∀ (dp un : Nat) (gd : Option (List Code)) (cn : Str) (cs : Scope) (a : Addr) (ccd : Value) (cl : List (Str × Addr)) (outer : List Env) (A₀ : Around) (base h₀ : Heap) (L : Addr) (m : Str → Option Value) (s : Shared) (Q E : Value → Shared → Prop),
    Below A₀ base outer h₀ → Fr h₀ L s.heap m → (KF w.params).In h₀ → News h₀ L s.heap news → Top VQ LS mean mg mb h₀ → cs.kind = .function →
    dp + d < recursionLimit → un + u < cLine → pre →
    (∀ (v : Value) (new : Led) (h' : Heap) (tk' : Nat), Ret v new → Fr h₀ L h' m → News h₀ L h' (new ++ news) → (∀ p ∈ news, ∀ q ∈ new, p.1 < q.1) → Q v { s with heap := h', toks := tk' }) →
    (∀ (e dx : Addr) (es : List DictEntry) (n : Nat) (g h' : Heap) (tk' : Nat), Fr h₀ L g m → g.UpToSlots h' → RaisedD base (envX cn cs L a ccd cl :: outer) e (.ref C) dx ((dx, dictOf es n) :: news) h' → (∀ p ∈ news, p.1 < dx) → PX es → E (.ref e) { s with heap := h', toks := tk' }) →
    wpAny (model PySem.Challenge.rw_sj0126_01.row.prog w) (ktrTop dp un gd cn cs L a ccd cl outer) (call (.ref f) vs) Q E s
section
variable {w : World} {mean : ExcName → Option Value} {mg mb : Str → Option Value} {f : Addr} {d u : Nat} {news : Led} {vs : List Value} {pre : Prop} {Ret : Value → Led → Prop} {C : Addr} {PX : List DictEntry → Prop}
  {dp un : Nat} {gd : Option (List Code)} {cn : Str} {cs : Scope} {a : Addr} {ccd : Value} {cl : List (Str × Addr)} {outer : List Env} {A₀ : Around} {base h₀ : Heap} {L : Addr} {m : Str → Option Value} {s : Shared} {Q E : Value → Shared → Prop}
theorem cte_use (Ct : CtE w mean mg mb f d u news vs pre Ret C PX) (B : Below A₀ base outer h₀) (F : Fr h₀ L s.heap m) (X : (KF w.params).In h₀) (N : News h₀ L s.heap news) (T : Top VQ LS mean mg mb h₀)
    (hk : cs.kind = .function) (hd' : dp + d < recursionLimit) (hu : un + u < cLine) (hp : pre)
    (ret : ∀ (v : Value) (new : Led) (h' : Heap) (tk' : Nat), Ret v new → Fr h₀ L h' m → News h₀ L h' (new ++ news) → (∀ p ∈ news, ∀ q ∈ new, p.1 < q.1) → Q v { s with heap := h', toks := tk' })
    (exc : ∀ (e dx : Addr) (es : List DictEntry) (n : Nat) (g h' : Heap) (tk' : Nat), Fr h₀ L g m → g.UpToSlots h' → RaisedD base (envX cn cs L a ccd cl :: outer) e (.ref C) dx ((dx, dictOf es n) :: news) h' → (∀ p ∈ news, p.1 < dx) → PX es → E (.ref e) { s with heap := h', toks := tk' }) :
    wpAny (model PySem.Challenge.rw_sj0126_01.row.prog w) (ktrTop dp un gd cn cs L a ccd cl outer) (call (.ref f) vs) Q E s :=
  Ct _ _ _ _ _ _ _ _ _ _ _ _ _ _ _ _ _ B F X N T hk hd' hu hp ret exc
end
section
variable {M : Model} {A : Around} {E : Value → Shared → Prop} {s : Shared} {base g h h₀ : Heap} {outer : List Env} {env₁ : Env} {L L₀ a e dx T C : Addr} {m m₀ : Str → Option Value} {name : Str} {scope : Scope} {cd : Value} {news led : Led} {es : List DictEntry} {n tk : Nat} {vs : Array Value} {PX : List DictEntry → Prop}
/-- a new own exception leaves the frame it was raised in -/
theorem endRaise (hexc : ∀ (e dx : Addr) (es : List DictEntry) (n : Nat) (g h' : Heap) (tk' : Nat), Fr h₀ L₀ g m₀ → g.UpToSlots h' → RaisedD base (env₁ :: outer) e (.ref C) dx ((dx, dictOf es n) :: news) h' → (∀ p ∈ news, p.1 < dx) → PX es → E (.ref e) { s with heap := h', toks := tk' })
    (B : Below A base (env₁ :: outer) g) (F₀ : Fr h₀ L₀ g m₀) (F : Fr g L h m) (N : News g L h ((dx, dictOf es n) :: (e, bpObj C T dx) :: (T, { cls := .type "tuple", data := .seq vs }) :: led)) (l1 : ∀ p ∈ led, p.1 < T) (l2 : T < e) (l3 : e < dx) (hs : ∀ q ∈ news, q ∈ led) (hP : PX es)
    (hk : scope.kind = .function := by rfl) :
    wpAny M (A.deeper (envOf name scope L a cd)) (leaving (envOf name scope L a cd) (.ref e)) (fun _ s'' => E (.ref e) s'') (fun e' s'' => E e' s'') { s with heap := h, toks := tk } := by
  refine leaveD0 (news := (dx, dictOf es n) :: news) B F (fun q hq => ?_) (N _ (.tail _ (.head _))).1 rfl rfl rfl rfl (N _ (.tail _ (.head _))).2.2 (fun q hq => ?_) (fun h' R U => ?_) hk
  · rcases List.mem_cons.mp hq with rfl | hq
    · exact N _ (.head _)
    · exact N _ (.tail _ (.tail _ (.tail _ (hs q hq))))
  · rcases List.mem_cons.mp hq with rfl | hq
    · exact Nat.ne_of_gt l3
    · exact Nat.ne_of_lt (Nat.lt_trans (l1 q (hs q hq)) l2)
  · exact hexc e dx es n g h' tk F₀ U R (fun p hp => Nat.lt_trans (Nat.lt_trans (l1 p (hs p hp)) l2) l3) hP
/-- an own exception on its way leaves a further frame -/
theorem passRaise {g₂ : Heap} (hexc : ∀ (e dx : Addr) (es : List DictEntry) (n : Nat) (g h' : Heap) (tk' : Nat), Fr h₀ L₀ g m₀ → g.UpToSlots h' → RaisedD base (env₁ :: outer) e (.ref C) dx ((dx, dictOf es n) :: news) h' → (∀ p ∈ news, p.1 < dx) → PX es → E (.ref e) { s with heap := h', toks := tk' })
    (B : Below A base (env₁ :: outer) g) (F₀ : Fr h₀ L₀ g m₀) (F : Fr g L g₂ m) (U : g₂.UpToSlots h) (R : RaisedD base (envOf name scope L a cd :: env₁ :: outer) e (.ref C) dx ((dx, dictOf es n) :: led) h) (l : ∀ p ∈ led, p.1 < dx) (hs : ∀ q ∈ news, q ∈ led) (hP : PX es) :
    wpAny M (A.deeper (envOf name scope L a cd)) (leaving (envOf name scope L a cd) (.ref e)) (fun _ s'' => E (.ref e) s'') (fun e' s'' => E e' s'') { s with heap := h, toks := tk } :=
  leaveD B F (R.sub (news' := (dx, dictOf es n) :: news) fun q hq => (List.mem_cons.mp hq).elim (fun e => e ▸ .head _) fun hq => .tail _ (hs q hq)) U fun h' R' U' => hexc e dx es n g h' tk F₀ U' R' (fun p hp => l p (hs p hp)) hP
end
theorem RaisableE.mk {K : Frag} {E : Value → Shared → Prop} {e T dx C : Addr} {s : Shared} (h1 : K.In s.heap) (h2 : typeIn K (.ref C) = some (.type "type")) (h3 : excOver K C = true) (h4 : s.heap.get? e = some (bpObj C T dx)) (h5 : E (.ref e) s) : RaisableE K E (.ref e) s :=
  ⟨e, T, dx, C, rfl, h1, h2, h3, h4, h5⟩
local macro_rules | `(tactic| walk_at "exec Raise some none") => `(tactic| (k_here; refine Raise_E (by assumption) rfl ?_))
-- part A5
abbrev Pc := List Int ⊕ Int
def flush (acc : List Int) : List Pc := if acc = [] then [] else [.inl acc]
def pcOf (c : Int) : Pc := if c = 92 then .inl [92] else .inr (c - 48)
/-- the pieces of a rewrite, the run ahead being acc -/
def runP : List Int → List Int → Option (List Pc)
  | [], acc => some (flush acc)
  | [o], acc => if o = 92 then none else some (flush (acc ++ [o]))
  | o :: c :: r, acc => if o = 92 then (if c = 92 ∨ isFig c = true then (runP r []).map fun ps => flush acc ++ pcOf c :: ps else none) else runP (c :: r) (acc ++ [o])
theorem runP_skip {pre : List Int} (h : ∀ o ∈ pre, o ≠ 92) : ∀ (l acc : List Int), runP (pre ++ l) acc = runP l (acc ++ pre) := by
  induction pre with
  | nil => intro l acc; rw [List.append_nil]; rfl
  | cons o r ih =>
    intro l acc
    have ho := h o (.head _)
    have ih' := ih fun p hp => h p (.tail _ hp)
    cases hr : r ++ l with
    | nil =>
      obtain ⟨rfl, rfl⟩ := List.append_eq_nil_iff.mp hr
      show (if o = 92 then _ else _) = _
      rw [if_neg ho]
      rfl
    | cons c r' =>
      rw [List.cons_append, hr]
      show (if o = 92 then _ else _) = _
      rw [if_neg ho, ← hr, ih', List.append_assoc]
      rfl
theorem runP_none {l : List Int} (h : ∀ o ∈ l, o ≠ 92) : runP l [] = some (flush l) := by
  have := runP_skip h [] []
  rw [List.append_nil] at this
  rw [this]
  rfl
def PcAre : Value → Pc → Prop
  | .bytes b _, .inl l => KBw.bInts b = l
  | .int g _, .inr g' => g = g'
  | _, _ => False
def PcsAre : List Value → List Pc → Prop
  | [], [] => True
  | v :: vs, p :: ps => PcAre v p ∧ PcsAre vs ps
  | _, _ => False
theorem PcsAre.app : ∀ {vs : List Value} {ps : List Pc} {us : List Value} {qs : List Pc}, PcsAre vs ps → PcsAre us qs → PcsAre (vs ++ us) (ps ++ qs)
  | [], [], _, _, _, h => h
  | [], _ :: _, _, _, h, _ => h.elim
  | _ :: _, [], _, _, h, _ => h.elim
  | _ :: vs, _ :: ps, _, _, h, g => ⟨h.1, PcsAre.app h.2 g⟩
theorem seg_app {ks pre X : List Int} {k : Int} (h0 : 0 ≤ k) (h : ks.drop k.toNat = pre ++ X) : seg ks k (k + pre.length) = pre := by
  unfold seg
  rw [List.drop_take, h, show (k + (pre.length : Int)).toNat - k.toNat = pre.length by omega, List.take_append_of_le_length (Nat.le_refl _), List.take_length]
/-- the invariant of the walk through a rewrite -/
def PInv (ks : List Int) (arr : Array Value) (k : Int) : Prop :=
  0 ≤ k ∧ k ≤ (ks.length : Int) + 1 ∧ arr.size ≤ 2 * k.toNat ∧ ∃ ps, PcsAre arr.toList ps ∧ runP ks [] = (runP (ks.drop k.toNat) []).map (ps ++ ·)
theorem drop_of {ks : List Int} {k : Int} (h : 0 ≤ k) : List.take (ks.length - clipAt ks.length k) (List.drop (clipAt ks.length k) ks) = List.drop k.toNat ks := by
  rw [clip_nn h, List.take_of_length_le (by rw [List.length_drop]; omega)]
  by_cases hk : k.toNat ≤ ks.length
  · rw [Nat.min_eq_left hk]
  · rw [Nat.min_eq_right (by omega), List.drop_eq_nil_of_le (Nat.le_refl _), List.drop_eq_nil_of_le (by omega)]
theorem runP_turn {ks : List Int} {k : Int} (h0 : 0 ≤ k) (h1 : 0 ≤ findBs ks k) (h2 : findBs ks k < (ks.length : Int) - 1) :
    k ≤ findBs ks k ∧ runP (ks.drop k.toNat) [] = (if ks.getD (findBs ks k + 1).toNat 0 = 92 ∨ isFig (ks.getD (findBs ks k + 1).toNat 0) = true then (runP (ks.drop (findBs ks k + 2).toNat) []).map fun ps => flush (seg ks k (findBs ks k)) ++ pcOf (ks.getD (findBs ks k + 1).toNat 0) :: ps else none) := by
  obtain ⟨pre, c, r, e, hp, ef, e1, e2⟩ := bs_turn h0 h1 h2
  refine ⟨by omega, ?_⟩
  have e3 : seg ks k (findBs ks k) = pre := by rw [ef]; exact seg_app h0 e
  rw [e1, e2, e, runP_skip hp, e3]
  show (if (92 : Int) = 92 then _ else _) = _
  rw [if_pos rfl, List.nil_append]
theorem seg_empty {ks : List Int} {x y : Int} (h : y ≤ x) : seg ks x y = [] := by unfold seg; rw [List.drop_eq_nil_of_le]; rw [List.length_take]; omega
theorem seg_ne {ks : List Int} {x y : Int} (h0 : 0 ≤ x) (h : x < y) (h2 : y ≤ (ks.length : Int)) : seg ks x y ≠ [] := fun e => by
  have := seg_length ks x y
  rw [e, List.length_nil] at this
  omega
theorem pinv_a {ks : List Int} {arr : Array Value} {k : Int} {v1 v2 : Value} (H : PInv ks arr k) (h1 : 0 ≤ findBs ks k) (h2 : findBs ks k < (ks.length : Int) - 1) (hc : ks.getD (findBs ks k + 1).toNat 0 = 92 ∨ isFig (ks.getD (findBs ks k + 1).toNat 0) = true)
    (hk : k < findBs ks k) (hv1 : PcAre v1 (.inl (seg ks k (findBs ks k)))) (hv2 : PcAre v2 (pcOf (ks.getD (findBs ks k + 1).toNat 0))) : PInv ks ((arr.push v1).push v2) (findBs ks k + 2) := by
  obtain ⟨p0, p1, p2, ps, p3, p4⟩ := H
  obtain ⟨q1, q2⟩ := runP_turn p0 h1 h2
  refine ⟨by omega, by omega, by rw [Array.size_push, Array.size_push]; omega, ps ++ [.inl (seg ks k (findBs ks k)), pcOf (ks.getD (findBs ks k + 1).toNat 0)], ?_, ?_⟩
  · rw [Array.toList_push, Array.toList_push, List.append_assoc]
    exact p3.app ⟨hv1, hv2, trivial⟩
  · rw [p4, q2, if_pos hc, Option.map_map]
    congr 1
    funext qs
    have hne : seg ks k (findBs ks k) ≠ [] := seg_ne p0 hk (by omega)
    simp [flush, hne]
theorem pinv_b {ks : List Int} {arr : Array Value} {k : Int} {v2 : Value} (H : PInv ks arr k) (h1 : 0 ≤ findBs ks k) (h2 : findBs ks k < (ks.length : Int) - 1) (hc : ks.getD (findBs ks k + 1).toNat 0 = 92 ∨ isFig (ks.getD (findBs ks k + 1).toNat 0) = true)
    (hk : ¬ k < findBs ks k) (hv2 : PcAre v2 (pcOf (ks.getD (findBs ks k + 1).toNat 0))) : PInv ks (arr.push v2) (findBs ks k + 2) := by
  obtain ⟨p0, p1, p2, ps, p3, p4⟩ := H
  obtain ⟨q1, q2⟩ := runP_turn p0 h1 h2
  refine ⟨by omega, by omega, by rw [Array.size_push]; omega, ps ++ [pcOf (ks.getD (findBs ks k + 1).toNat 0)], ?_, ?_⟩
  · rw [Array.toList_push]
    exact p3.app ⟨hv2, trivial⟩
  · rw [p4, q2, if_pos hc, Option.map_map]
    congr 1
    funext qs
    simp [flush, seg_empty (ks := ks) (x := k) (y := findBs ks k) (by omega)]
theorem pinv_no1 {ks : List Int} {arr : Array Value} {k : Int} (H : PInv ks arr k) (h1 : 0 ≤ findBs ks k) (h2 : (ks.length : Int) ≤ findBs ks k + 1) : runP ks [] = none := by
  obtain ⟨p0, p1, p2, ps, p3, p4⟩ := H
  rw [p4]
  rcases findBs_cases ks k p0 with ⟨e, _⟩ | ⟨pre, post, e, hp, ef⟩
  · omega
  · obtain ⟨g1, g2, g3, g4⟩ := getD_app e
    cases post with
    | nil => rw [e, runP_skip hp]; rfl
    | cons c r => simp only [List.length_cons] at g4; omega
theorem pinv_no2 {ks : List Int} {arr : Array Value} {k : Int} (H : PInv ks arr k) (h1 : 0 ≤ findBs ks k) (h2 : findBs ks k < (ks.length : Int) - 1) (hc : ks.getD (findBs ks k + 1).toNat 0 ≠ 92) (hf : isFig (ks.getD (findBs ks k + 1).toNat 0) = false) : runP ks [] = none := by
  obtain ⟨p0, p1, p2, ps, p3, p4⟩ := H
  obtain ⟨q1, q2⟩ := runP_turn p0 h1 h2
  rw [p4, q2, if_neg (by rw [hf]; rintro (h | h); exact hc h; cases h)]
  rfl
theorem pinv_end1 {ks : List Int} {arr : Array Value} {k : Int} {v : Value} (H : PInv ks arr k) (h1 : ¬ 0 ≤ findBs ks k) (h2 : k < (ks.length : Int)) (hv : PcAre v (.inl (ks.drop k.toNat))) :
    ∃ ps, PcsAre (arr.push v).toList ps ∧ runP ks [] = some ps ∧ (arr.push v).size ≤ 2 * ks.length + 3 := by
  obtain ⟨p0, p1, p2, ps, p3, p4⟩ := H
  rcases findBs_cases ks k p0 with ⟨_, e⟩ | ⟨pre, post, e, hp, ef⟩
  · refine ⟨ps ++ [.inl (ks.drop k.toNat)], ?_, ?_, by rw [Array.size_push]; omega⟩
    · rw [Array.toList_push]
      exact p3.app ⟨hv, trivial⟩
    · rw [p4, runP_none e]
      have : ks.drop k.toNat ≠ [] := fun q => by
        have := congrArg List.length q
        simp at this
        omega
      simp [flush, this]
  · omega
theorem pinv_end2 {ks : List Int} {arr : Array Value} {k : Int} (H : PInv ks arr k) (h1 : ¬ 0 ≤ findBs ks k) (h2 : ¬ k < (ks.length : Int)) :
    ∃ ps, PcsAre arr.toList ps ∧ runP ks [] = some ps ∧ arr.size ≤ 2 * ks.length + 3 := by
  obtain ⟨p0, p1, p2, ps, p3, p4⟩ := H
  refine ⟨ps, p3, ?_, by omega⟩
  rw [p4, List.drop_eq_nil_of_le (by omega)]
  simp [runP, flush]
abbrev PcsRet (ks : List Int) (v : Value) (new : Led) : Prop := ∃ D arr n ps, v = .ref D ∧ new = [(D, listOf arr n)] ∧ PcsAre arr.toList ps ∧ runP ks [] = some ps ∧ arr.size ≤ 2 * ks.length + 3
local macro_rules | `(tactic| size_fits) => `(tactic| first | with_reducible assumption | (with_reducible refine push_fits ?_; omega))
def rpieces_ok_P (c : Cx) : Prop := ∀ (hks : KBw.bInts c.b1 = c.k1) (hz : c.k1.length ≤ 100000) , CtEc c 100 6 60 c.led [.bytes c.b1 c.t1] True (PcsRet c.k1) 72 (fun _ => runP c.k1 [] = none)
@[irreducible] noncomputable def rpieces_ok_c : Cx := pick cx_some rpieces_ok_P
noncomputable def rpieces_ok_g : Cut (rpieces_ok_P rpieces_ok_c) (Heap × Addr × Heap) := by
  refine Cut.mk3 (G := ?G) fun H => ?main
  rotate_left
  unfold rpieces_ok_P CtEc
  k_fill
  intro hks hz hB0 hF0 hX0 hN0 hT0 hk0 hd hu hpre hret hexc
  refine wpAny_call ?_
  with_unfolding_all refine' code_def ?k1 ?k2 ?k3 ?k4 ?k5 ?kA ?kF ?kK ?k6 ?k7 ?k8 ?k9 ?kB ?_ ?c2 ?c3 ?c4 ?c5
  case kA => exact rfl
  case kF => exact rfl
  case kK => assumption
  case k1 => k_asm
  case k2 => k_asm
  case k3 => k_asm
  case k4 => k_asm
  case k5 => k_asm
  case k6 => k_is
  case k7 => k_is
  case k8 => exact Nat.lt_of_le_of_lt (Nat.le_add_right _ _) hd
  case k9 => exact BindsTo.of_eq (binds := [(Str.ofString "rewrite", .bytes rpieces_ok_c.b1 rpieces_ok_c.t1)]) rfl
  case c5 => decide
  case kB => exact locs rfl
  case c2 => exact rfl
  case c3 => exact rfl
  case c4 => exact rfl
  intro gH LH hH FGH FH NH BH XH TH
  (try dsimp only)
  (try k_lift BH)
  revert hks hz hB0 hX0 hT0 hk0 hd hu hpre hret hexc FGH FH NH BH XH TH
  exact H gH LH hH
@[irreducible] noncomputable def rpieces_ok_d : Heap × Addr × Heap := pick ⟨(⟨#[], default⟩, 0, ⟨#[], default⟩)⟩ rpieces_ok_g.G
theorem rpieces_ok_t1 : rpieces_ok_g.G rpieces_ok_d := by
  intro hks hz hB0 hX0 hT0 hk0 hd hu hpre hret hexc FGH FH NH BH XH TH
  have loops := myLoops
  have calls := myCalls
  (try k_fold)
  (repeat' (first | (k_unfold; (try dsimp only)) | walk1 | (dsimp only; walk1) | (leave1; (try dsimp only)) | (refine Held.go ?_; first | ((with_reducible show wpAny _ _ (call (Value.ref _) _) _ _ _); first | ((k_here; (k_dflt refine' ctv_use (isfig_ok ⟨_, rfl⟩ _ _ _ _ _ _) ?k1 ?k2 ?k3 ?k4 ?k5 ?kK ?kd ?ku ?kp ?_); (((case k1 => k_asm); (case k2 => k_asm); (case k3 => k_asm); (case k4 => k_asm); (case k5 => k_asm); (case kK => first | exact rfl | assumption); (case kd => first | exact room2 (by assumption) rfl | ktr_room); (case ku => first | exact unit2 (by assumption) rfl | ktr_units))); (case kp => trivial); (((intro t9 h9 tk9 F9 N9); (try dsimp only); (try k_fold))))) | ((k_here; (k_dflt refine' mk_use (mkrw_ok ⟨_, rfl⟩ _ _ _ _ _) ?k1 ?k2 ?k3 ?k4 ?k5 ?kK ?kd ?ku ?_); (((case k1 => k_asm); (case k2 => k_asm); (case k3 => k_asm); (case k4 => k_asm); (case k5 => k_asm); (case kK => first | exact rfl | assumption); (case kd => first | exact room2 (by assumption) rfl | ktr_room); (case ku => first | exact unit2 (by assumption) rfl | ktr_units))); (intro e9 dx9 T9 es9 n9 h9 tk9 F9 N9 l91 l92 l93 p9); (try dsimp only); refine' RaisableE.mk ?q1 ?q2 ?q3 ?q4 ?_; (case q4 => exact (N9 _ (List.Mem.tail _ (List.Mem.head _))).1); (case q1 => exact Frag.In.keeps (by assumption) (Fr.keep F9)); (case q2 => k_is); (case q3 => kernel_rfl)))))))
  refine Held.go ?_
  (rename Fr _ _ _ _ => F); (rename News _ _ _ _ => N)
  (rename ∀ p ∈ rpieces_ok_c.led, p.1 < _ => l1)
  with_unfolding_all refine' ksw_while (σ := (Array Value × Nat) × (Tok × Tok × Int)) (fun c => (_, listOf c.1.1 c.1.2) :: rpieces_ok_c.led) (fun c => [(Str.ofString "begin", Value.int c.2.2.2 c.2.1), (Str.ofString "at", Value.int (findBs rpieces_ok_c.k1 c.2.2.2) c.2.2.1)]) (fun _ => True) [Str.ofString "sign"] (fun c => PInv rpieces_ok_c.k1 c.1.1 c.2.2.2) (fun c => ((rpieces_ok_c.k1.length : Int) + 2 - c.2.2.2).toNat) ((#[], 0), (_, _, 0)) F (News_tl N) trivial ?kk ?kp ?turn
  case kk => kst_all
  case kp => exact ⟨by simp, by simp; omega, by simp, [], trivial, by simp⟩
  case turn =>
    rintro ⟨⟨arr, n⟩, tb, ta, k⟩ u h tk _ hP' F' N'
    (try dsimp only [kstB] at F')
    dsimp only at hP' N'
    have hk0 := hP'.1
    have hkf : findBs rpieces_ok_c.k1 k = -1 ∨ k ≤ findBs rpieces_ok_c.k1 k := by
      rcases findBs_cases rpieces_ok_c.k1 k hk0 with ⟨e, _⟩ | ⟨_, _, _, _, e⟩
      · exact .inl e
      · right; omega
    have hsz : arr.size ≤ sizeLine := by have := hP'.2.2.1; have := hP'.2.1; rw [sizeLine_eq]; omega
    have hsz2 : arr.size ≤ 300000 := by have := hP'.2.2.1; have := hP'.2.1; omega
    (repeat' (first | (k_unfold; (try dsimp only)) | walk1 | (dsimp only; walk1) | (leave1; (try dsimp only)) | (refine Held.go ?_; first | ((with_reducible show wpAny _ _ (call (Value.ref _) _) _ _ _); first | ((k_here; (k_dflt refine' ctv_use (isfig_ok ⟨_, rfl⟩ _ _ _ _ _ _) ?k1 ?k2 ?k3 ?k4 ?k5 ?kK ?kd ?ku ?kp ?_); (((case k1 => k_asm); (case k2 => k_asm); (case k3 => k_asm); (case k4 => k_asm); (case k5 => k_asm); (case kK => first | exact rfl | assumption); (case kd => first | exact room2 (by assumption) rfl | ktr_room); (case ku => first | exact unit2 (by assumption) rfl | ktr_units))); (case kp => trivial); (((intro t9 h9 tk9 F9 N9); (try dsimp only); (try k_fold))))) | ((k_here; (k_dflt refine' mk_use (mkrw_ok ⟨_, rfl⟩ _ _ _ _ _) ?k1 ?k2 ?k3 ?k4 ?k5 ?kK ?kd ?ku ?_); (((case k1 => k_asm); (case k2 => k_asm); (case k3 => k_asm); (case k4 => k_asm); (case k5 => k_asm); (case kK => first | exact rfl | assumption); (case kd => first | exact room2 (by assumption) rfl | ktr_room); (case ku => first | exact unit2 (by assumption) rfl | ktr_units))); (intro e9 dx9 T9 es9 n9 h9 tk9 F9 N9 l91 l92 l93 p9); (try dsimp only); refine' RaisableE.mk ?q1 ?q2 ?q3 ?q4 ?_; (case q4 => exact (N9 _ (List.Mem.tail _ (List.Mem.head _))).1); (case q1 => exact Frag.In.keeps (by assumption) (Fr.keep F9)); (case q2 => k_is); (case q3 => kernel_rfl)))))))
    all_goals first
      | (exfalso; omega)
      | (((refine' endRaise (by assumption) ?kB ?kF0 ?kF ?kN ?l1 ?l2 ?l3 ?hs ?_ ?hk; (case kB => assumption); (case kF0 => assumption); (case kF => assumption); (case kN => assumption); (case l1 => first | assumption | exact of_allLt (by assumption)); (case l2 => assumption); (case l3 => assumption); (case hs => first | exact fun q hq => hq | exact memA | exact memB | (intro q hq; simp [hq])); (case hk => rfl))); exact pinv_no1 hP' (by assumption) (by omega))
      | (((refine' endRaise (by assumption) ?kB ?kF0 ?kF ?kN ?l1 ?l2 ?l3 ?hs ?_ ?hk; (case kB => assumption); (case kF0 => assumption); (case kF => assumption); (case kN => assumption); (case l1 => first | assumption | exact of_allLt (by assumption)); (case l2 => assumption); (case l3 => assumption); (case hs => first | exact fun q hq => hq | exact memA | exact memB | (intro q hq; simp [hq])); (case hk => rfl))); exact pinv_no2 hP' (by assumption) (by omega) (by assumption) (by assumption))
      | ((rename Fr _ _ _ _ => F); (rename News _ _ _ _ => N); refine ksw_end ((_, _), (_, _, findBs rpieces_ok_c.k1 k + 2)) F N (fun p hp => hp) trivial (by kst_all) (by ksw_same) ?_ (by dsimp only; omega))
      | skip
    all_goals first
      | ((rename KBw.bInts (KBy.picked _ _ _) = _ => hP); rw [seg_of (by omega) (by omega)] at hP; first
          | exact pinv_a (v1 := .bytes _ _) (v2 := .bytes _ _) hP' (by assumption) (by omega) (.inl (by assumption)) (by omega) hP (by rw [pcOf, if_pos (by assumption)]; rfl)
          | exact pinv_a (v1 := .bytes _ _) (v2 := .int _ _) hP' (by assumption) (by omega) (.inr (by assumption)) (by omega) hP (by rw [pcOf, if_neg (by assumption)]; rfl))
      | exact pinv_b (v2 := .bytes _ _) hP' (by assumption) (by omega) (.inl (by assumption)) (by omega) (by rw [pcOf, if_pos (by assumption)]; rfl)
      | exact pinv_b (v2 := .int _ _) hP' (by assumption) (by omega) (.inr (by assumption)) (by omega) (by rw [pcOf, if_neg (by assumption)]; rfl)
      | skip
    · (rename KBw.bInts (KBy.picked _ _ none) = _ => hP)
      obtain ⟨ps, e1, e2, e3⟩ := pinv_end1 (v := .bytes _ _) hP' (by assumption) (by assumption) (show KBw.bInts _ = _ from by rw [hP]; exact drop_of hk0)
      exact hret _ [_] _ _ ⟨_, _, _, ps, rfl, rfl, e1, e2, e3⟩ (by k_asm) (by k_asm) (by intro p hp q hq; rw [List.mem_singleton.mp hq]; exact l1 p hp)
    · obtain ⟨ps, e1, e2, e3⟩ := pinv_end2 hP' (by assumption) (by assumption)
      exact hret _ [_] _ _ ⟨_, _, _, ps, rfl, rfl, e1, e2, e3⟩ (by k_asm) (by k_asm) (by intro p hp q hq; rw [List.mem_singleton.mp hq]; exact l1 p hp)
theorem rpieces_ok (r : Rw) (w : World) (mean : ExcName → Option Value) (mg mb : Str → Option Value) (news : Led) (b : Array UInt8) (t : Tok) (ks : List Int) (hks : KBw.bInts b = ks) (hz : ks.length ≤ 100000) :
    CtE w mean mg mb 100 6 60 news [.bytes b t] True (PcsRet ks) 72 (fun _ => runP ks [] = none) := by
  intro dp9 un9 gd9 cn9 cs9 a9 ccd9 cl9 outer9 A₀9 base9 h₀9 L9 m9 s9 Q9 E9
  exact pick_all (ne := cx_some) (by with_unfolding_all rfl) (rpieces_ok_g.go (pick_all (ne := ⟨(⟨#[], default⟩, 0, ⟨#[], default⟩)⟩) (by with_unfolding_all rfl) rpieces_ok_t1)) { cx0 with w := w, mean := mean, mg := mg, mb := mb, dp := dp9, un := un9, gd := gd9, cn := cn9, cs := cs9, a := a9, ccd := ccd9, cl := cl9, outer := outer9, A₀ := A₀9, base := base9, h₀ := h₀9, L := L9, m := m9, s := s9, Q := Q9, E := E9, led := news, b1 := b, t1 := t, k1 := ks } hks hz
-- part A6
/-- what a slice of a list picks -/
def segC (ks : List Int) (x y : Int) : List Int := List.take (clipAt ks.length y - clipAt ks.length x) (List.drop (clipAt ks.length x) ks)
def pickP (text caps : List Int) : Pc → Option (List Int)
  | .inl l => some l
  | .inr g => if (caps.length : Int) ≤ 2 * g + 1 then none else if 0 ≤ caps.getD (2 * g).toNat 0 then some (segC text (caps.getD (2 * g).toNat 0) (caps.getD (2 * g + 1).toNat 0)) else some []
def allP (text caps : List Int) : List Pc → Option (List Int)
  | [] => some []
  | p :: r => (pickP text caps p).bind fun a => (allP text caps r).map (a ++ ·)
theorem pick_a {text caps : List Int} {g : Int} (h1 : ¬ (caps.length : Int) ≤ 2 * g + 1) (h2 : 0 ≤ caps.getD (2 * g).toNat 0) : pickP text caps (.inr g) = some (segC text (caps.getD (2 * g).toNat 0) (caps.getD (2 * g + 1).toNat 0)) := by
  show (if _ then _ else _) = _
  rw [if_neg h1, if_pos h2]
theorem pick_b {text caps : List Int} {g : Int} (h1 : ¬ (caps.length : Int) ≤ 2 * g + 1) (h2 : ¬ 0 ≤ caps.getD (2 * g).toNat 0) : pickP text caps (.inr g) = some [] := by
  show (if _ then _ else _) = _
  rw [if_neg h1, if_neg h2]
theorem allP_app (text caps : List Int) (p : Pc) : ∀ qs : List Pc, allP text caps (qs ++ [p]) = (allP text caps qs).bind fun l => (pickP text caps p).map (l ++ ·)
  | [] => by simp [allP]
  | q :: r => by
    rw [List.cons_append]
    simp only [allP]
    rw [allP_app text caps p r]
    cases pickP text caps q with
    | none => rfl
    | some a =>
      cases allP text caps r with
      | none => rfl
      | some l =>
        cases pickP text caps p with
        | none => rfl
        | some z => simp
theorem allP_none (text caps : List Int) : ∀ {qs : List Pc} {p : Pc} {rs : List Pc}, pickP text caps p = none → allP text caps (qs ++ p :: rs) = none
  | [], p, rs, h => by simp [allP, h]
  | q :: r, p, rs, h => by
    rw [List.cons_append]
    simp only [allP, allP_none text caps h]
    cases pickP text caps q <;> rfl
def rewSem (ks text caps : List Int) : Option (List Int) := (runP ks []).bind (allP text caps)
def Pc.ok : Pc → Prop
  | .inl _ => True
  | .inr g => 0 ≤ g ∧ g ≤ 9
theorem flush_ok (acc : List Int) : ∀ p ∈ flush acc, Pc.ok p := by
  intro p hp
  unfold flush at hp
  split at hp
  · cases hp
  · rw [List.mem_singleton.mp hp]; trivial
theorem runP_ok : ∀ (n : Nat) (ks acc : List Int) (ps : List Pc), ks.length ≤ n → runP ks acc = some ps → ∀ p ∈ ps, Pc.ok p
  | _, [], acc, ps, _, e => by
    cases e
    exact flush_ok _
  | _, [o], acc, ps, _, e => by
    unfold runP at e
    split at e
    · cases e
    · cases e
      exact flush_ok _
  | 0, _ :: _ :: _, _, _, h, _ => by simp at h
  | n + 1, o :: c :: r, acc, ps, h, e => by
    unfold runP at e
    split at e
    · split at e
      · rename_i hc
        obtain ⟨qs, h1, rfl⟩ := Option.map_eq_some_iff.mp e
        have ih := runP_ok n r [] qs (by simp only [List.length_cons] at h; omega) h1
        intro p hp
        rcases List.mem_append.mp hp with hp | hp
        · exact flush_ok _ p hp
        · rcases List.mem_cons.mp hp with rfl | hp
          · unfold pcOf
            split
            · trivial
            · rcases hc with hc | hc
              · contradiction
              · unfold isFig at hc
                simp at hc
                show 0 ≤ c - 48 ∧ c - 48 ≤ 9
                omega
          · exact ih p hp
      · cases e
    · exact runP_ok n (c :: r) _ ps (by simp only [List.length_cons] at h ⊢; omega) e
theorem PcsAre.split : ∀ {pre post : List Value} {v : Value} {ps : List Pc}, PcsAre (pre ++ v :: post) ps → ∃ qs p rs, ps = qs ++ p :: rs ∧ qs.length = pre.length ∧ PcAre v p
  | [], post, v, [], h => h.elim
  | [], post, v, p :: rs, h => ⟨[], p, rs, rfl, rfl, h.1⟩
  | u :: pre, post, v, [], h => h.elim
  | u :: pre, post, v, q :: ps, h => by
    obtain ⟨qs, p, rs, rfl, h1, h2⟩ := PcsAre.split (pre := pre) h.2
    exact ⟨q :: qs, p, rs, rfl, by simp [h1], h2⟩
theorem PcsAre.length : ∀ {vs : List Value} {ps : List Pc}, PcsAre vs ps → vs.length = ps.length
  | [], [], _ => rfl
  | [], _ :: _, h => h.elim
  | _ :: _, [], h => h.elim
  | _ :: vs, _ :: ps, h => by rw [List.length_cons, List.length_cons, PcsAre.length h.2]
theorem mem2 {x y : Addr × Obj} {news own : Led} : ∀ p ∈ x :: y :: news, p ∈ x :: y :: (news ++ own) := fun p hp => by
  rcases List.mem_cons.mp hp with rfl | hp
  · exact .head _
  · exact .tail _ (memA p hp)
def rewr_ok_P (c : Cx) : Prop := ∀ (hks : KBw.bInts c.b1 = c.k1) (htx : KBw.bInts c.b2 = c.k2) (hz : c.k1.length ≤ 100000) (hz2 : c.k2.length ≤ 100000) (hcap : IntsAre c.v1 c.k3) (hcl : c.k3.length ≤ 100) (hout : ∀ l, rewSem c.k1 c.k2 c.k3 = some l → l.length ≤ 100000) , CtEc c 114 12 120 ((c.a1, listOf c.v1.toArray c.n1) :: c.led) [.bytes c.b1 c.t1, .bytes c.b2 c.t2, .ref c.a1] True (fun v new => ∃ b' t' l, v = .bytes b' t' ∧ new = [] ∧ KBw.bInts b' = l ∧ rewSem c.k1 c.k2 c.k3 = some l) 72 (fun _ => rewSem c.k1 c.k2 c.k3 = none)
@[irreducible] noncomputable def rewr_ok_c : Cx := pick cx_some rewr_ok_P
noncomputable def rewr_ok_g : Cut (rewr_ok_P rewr_ok_c) (Heap × Addr × Heap) := by
  refine Cut.mk3 (G := ?G) fun H => ?main
  rotate_left
  unfold rewr_ok_P CtEc
  k_fill
  intro hks htx hz hz2 hcap hcl hout hB0 hF0 hX0 hN0 hT0 hk0 hd hu hpre hret hexc
  refine wpAny_call ?_
  with_unfolding_all refine' code_def ?k1 ?k2 ?k3 ?k4 ?k5 ?kA ?kF ?kK ?k6 ?k7 ?k8 ?k9 ?kB ?_ ?c2 ?c3 ?c4 ?c5
  case kA => exact rfl
  case kF => exact rfl
  case kK => assumption
  case k1 => k_asm
  case k2 => k_asm
  case k3 => k_asm
  case k4 => k_asm
  case k5 => k_asm
  case k6 => k_is
  case k7 => k_is
  case k8 => exact Nat.lt_of_le_of_lt (Nat.le_add_right _ _) hd
  case k9 => exact BindsTo.of_eq (binds := [(Str.ofString "rewrite", .bytes rewr_ok_c.b1 rewr_ok_c.t1), (Str.ofString "text", .bytes rewr_ok_c.b2 rewr_ok_c.t2), (Str.ofString "captures", .ref rewr_ok_c.a1)]) rfl
  case c5 => decide
  case kB => exact locs rfl
  case c2 => exact rfl
  case c3 => exact rfl
  case c4 => exact rfl
  intro gH LH hH FGH FH NH BH XH TH
  (try dsimp only)
  (try k_lift BH)
  revert hks htx hz hz2 hcap hcl hout hB0 hX0 hT0 hk0 hd hu hpre hret hexc FGH FH NH BH XH TH
  exact H gH LH hH
@[irreducible] noncomputable def rewr_ok_d : Heap × Addr × Heap := pick ⟨(⟨#[], default⟩, 0, ⟨#[], default⟩)⟩ rewr_ok_g.G
theorem rewr_ok_t1 : rewr_ok_g.G rewr_ok_d := by
  intro hks htx hz hz2 hcap hcl hout hB0 hX0 hT0 hk0 hd hu hpre hret hexc FGH FH NH BH XH TH
  have loops := myLoops
  have calls := myCalls
  (try k_fold)
  (repeat' (first | (k_unfold; (try dsimp only)) | walk1 | (dsimp only; walk1) | (leave1; (try dsimp only)) | (refine Held.go ?_; first | ((with_reducible show wpAny _ _ (call (Value.ref _) _) _ _ _); first | ((k_here; (k_dflt refine' cte_use (rpieces_ok ⟨_, rfl⟩ _ _ _ _ _ _ _ _ ?hks ?hz) ?k1 ?k2 ?k3 ?k4 ?k5 ?kK ?kd ?ku ?kp ?kret ?kexc); (case hks => kba_ints); (case hz => first | assumption | omega); (((case k1 => k_asm); (case k2 => k_asm); (case k3 => k_asm); (case k4 => k_asm); (case k5 => k_asm); (case kK => first | exact rfl | assumption); (case kd => first | exact room2 (by assumption) rfl | ktr_room); (case ku => first | exact unit2 (by assumption) rfl | ktr_units))); (case kp => trivial); (case' kret => (intro v9 new9 h9 tk9 r9 F9 N9 l9; (obtain ⟨D9, arr9, n9, ps9, q9, q9', e9, e9', z9⟩ := r9); (subst q9 q9'); (try dsimp only); (try simp only [List.singleton_append, List.cons_append, List.nil_append] at N9); (replace l9 := fun p hp => l9 p hp _ (List.mem_singleton.mpr rfl)); (k_lt l9); (try k_fold))); (case' kexc => ((intro e9 dx9 es9 n9 g9 h9 tk9 F9 U9 R9 l9 p9; (try dsimp only)))))) | ((k_here; (k_dflt refine' mk_use (mkrw_ok ⟨_, rfl⟩ _ _ _ _ _) ?k1 ?k2 ?k3 ?k4 ?k5 ?kK ?kd ?ku ?_); (((case k1 => k_asm); (case k2 => k_asm); (case k3 => k_asm); (case k4 => k_asm); (case k5 => k_asm); (case kK => first | exact rfl | assumption); (case kd => first | exact room2 (by assumption) rfl | ktr_room); (case ku => first | exact unit2 (by assumption) rfl | ktr_units))); (intro e9 dx9 T9 es9 n9 h9 tk9 F9 N9 l91 l92 l93 p9); (try dsimp only); refine' RaisableE.mk ?q1 ?q2 ?q3 ?q4 ?_; (case q4 => exact (N9 _ (List.Mem.tail _ (List.Mem.head _))).1); (case q1 => exact Frag.In.keeps (by assumption) (Fr.keep F9)); (case q2 => k_is); (case q3 => kernel_rfl)))))))
  case kexc =>
    ((refine' passRaise (by assumption) ?kB ?kF0 ?kF ?kU ?kR ?kl ?hs ?_; (case kB => assumption); (case kF0 => assumption); (case kR => assumption); (case kF => assumption); (case kU => assumption); (case kl => first | assumption | exact of_allLt (by assumption)); (case hs => first | exact fun q hq => hq | exact memA | exact memB | (intro q hq; simp [hq]))))
    unfold rewSem
    rw [(by assumption : runP rewr_ok_c.k1 [] = none)]
    rfl
  refine Held.go ?_
  (rename Fr _ _ _ _ => F); (rename News _ _ _ _ => N)
  (rename _ ∧ _ ∧ AllLt _ _ => l9); (rename _ < _ ∧ AllLt _ _ => l1)
  (rename PcsAre _ _ => hps); (rename runP rewr_ok_c.k1 [] = some _ => hrun)
  obtain ⟨ps, hps, hrun⟩ : ∃ ps, PcsAre (Array.toList _) ps ∧ runP rewr_ok_c.k1 [] = some ps := ⟨_, hps, hrun⟩
  (rename Array.size _ ≤ 2 * rewr_ok_c.k1.length + 3 => z9)
  have hlt1 := of_allLt (l := (rewr_ok_c.a1, listOf rewr_ok_c.v1.toArray rewr_ok_c.n1) :: rewr_ok_c.led) l1
  with_unfolding_all refine' kst_vals (σ := Array Value × Nat) (fun c => (_, listOf c.1 c.2) :: (rewr_ok_c.a1, listOf rewr_ok_c.v1.toArray rewr_ok_c.n1) :: rewr_ok_c.led) (fun _ => []) (fun _ => True) [] (fun pre c => ∃ l, allP rewr_ok_c.k2 rewr_ok_c.k3 (List.take pre.length ps) = some l ∧ Cat c.1 l ∧ c.1.size ≤ pre.length) (#[], 0) ⟨_, (N _ (.head _)).1, rfl, _, rfl⟩ (Ne.symm (N _ (.head _)).2.1) ?kn rfl F (News_tl N) trivial ?kk ?kp ?turn ?done
  case kn =>
    obtain ⟨a1, a2, a3⟩ := l9
    intro q hq
    rcases List.mem_cons.mp hq with rfl | hq
    · exact Nat.ne_of_lt a1
    · rcases List.mem_cons.mp hq with rfl | hq
      · exact Nat.ne_of_lt a2
      · exact Nat.ne_of_lt (of_allLt a3 q hq)
  case kk => kst_all
  case kp => exact ⟨[], rfl, Cat.nil, Nat.le_refl _⟩
  case turn =>
    rintro ⟨arr, n⟩ pre post v u h tk own he hoff _ hP' F' N'
    (try dsimp only [kstB] at F')
    dsimp only at hP' N'
    obtain ⟨qs, p, rs, hq, hql, hv⟩ := PcsAre.split (he ▸ hps)
    obtain ⟨l, hP1, hP2, hP3⟩ := hP'
    rw [hq, ← hql, List.take_append_of_le_length (Nat.le_refl _), List.take_length] at hP1
    have hpok : Pc.ok p := runP_ok _ rewr_ok_c.k1 [] ps (Nat.le_refl _) hrun p (by rw [hq]; simp)
    have hnone : pickP rewr_ok_c.k2 rewr_ok_c.k3 p = none → rewSem rewr_ok_c.k1 rewr_ok_c.k2 rewr_ok_c.k3 = none := fun e => by unfold rewSem; rw [hrun, hq]; exact allP_none rewr_ok_c.k2 rewr_ok_c.k3 e
    have hsome : ∀ a, pickP rewr_ok_c.k2 rewr_ok_c.k3 p = some a → allP rewr_ok_c.k2 rewr_ok_c.k3 (List.take (pre.length + 1) ps) = some (l ++ a) := fun a e => by
      rw [hq, ← hql, show qs ++ p :: rs = (qs ++ [p]) ++ rs by simp, show qs.length + 1 = (qs ++ [p]).length by simp, List.take_append_of_le_length (Nat.le_refl _), List.take_length, allP_app, hP1, Option.bind_some, e]
      rfl
    have hall := own_all (news := (rewr_ok_c.a1, listOf rewr_ok_c.v1.toArray rewr_ok_c.n1) :: rewr_ok_c.led) hlt1 hoff
    have hsz2 : arr.size ≤ 300000 := by
      have h9 := congrArg List.length he
      rw [Array.length_toList, List.length_append, List.length_cons] at h9
      omega
    have hsz : arr.size ≤ sizeLine := by rw [sizeLine_eq]; omega
    rw [List.cons_append] at N' hall
    rw [List.cons_append] at N'
    clear hlt1 hps hql he
    rcases p with l0 | g
    · obtain ⟨bv, tv, rfl, hbv⟩ : ∃ bv tv, v = .bytes bv tv ∧ KBw.bInts bv = l0 := by
        cases v <;> first | exact hv.elim | exact ⟨_, _, rfl, hv⟩
      (repeat' (first | (k_unfold; (try dsimp only)) | walk1 | (dsimp only; walk1) | (leave1; (try dsimp only)) | (refine Held.go ?_; first | ((with_reducible show wpAny _ _ (call (Value.ref _) _) _ _ _); first | ((k_here; (k_dflt refine' cte_use (rpieces_ok ⟨_, rfl⟩ _ _ _ _ _ _ _ _ ?hks ?hz) ?k1 ?k2 ?k3 ?k4 ?k5 ?kK ?kd ?ku ?kp ?kret ?kexc); (case hks => kba_ints); (case hz => first | assumption | omega); (((case k1 => k_asm); (case k2 => k_asm); (case k3 => k_asm); (case k4 => k_asm); (case k5 => k_asm); (case kK => first | exact rfl | assumption); (case kd => first | exact room2 (by assumption) rfl | ktr_room); (case ku => first | exact unit2 (by assumption) rfl | ktr_units))); (case kp => trivial); (case' kret => (intro v9 new9 h9 tk9 r9 F9 N9 l9; (obtain ⟨D9, arr9, n9, ps9, q9, q9', e9, e9', z9⟩ := r9); (subst q9 q9'); (try dsimp only); (try simp only [List.singleton_append, List.cons_append, List.nil_append] at N9); (replace l9 := fun p hp => l9 p hp _ (List.mem_singleton.mpr rfl)); (k_lt l9); (try k_fold))); (case' kexc => ((intro e9 dx9 es9 n9 g9 h9 tk9 F9 U9 R9 l9 p9; (try dsimp only)))))) | ((k_here; (k_dflt refine' mk_use (mkrw_ok ⟨_, rfl⟩ _ _ _ _ _) ?k1 ?k2 ?k3 ?k4 ?k5 ?kK ?kd ?ku ?_); (((case k1 => k_asm); (case k2 => k_asm); (case k3 => k_asm); (case k4 => k_asm); (case k5 => k_asm); (case kK => first | exact rfl | assumption); (case kd => first | exact room2 (by assumption) rfl | ktr_room); (case ku => first | exact unit2 (by assumption) rfl | ktr_units))); (intro e9 dx9 T9 es9 n9 h9 tk9 F9 N9 l91 l92 l93 p9); (try dsimp only); refine' RaisableE.mk ?q1 ?q2 ?q3 ?q4 ?_; (case q4 => exact (N9 _ (List.Mem.tail _ (List.Mem.head _))).1); (case q1 => exact Frag.In.keeps (by assumption) (Fr.keep F9)); (case q2 => k_is); (case q3 => kernel_rfl)))))))
      refine Held.go ?_
      (rename Fr _ _ _ _ => F); (rename News _ _ _ _ => N)
      refine kst_end (arr.push _, n + 1) F N mem2 (by intro p hp; simp [hp]) rfl trivial (by kst_all) (by kst_same) ⟨_, by rw [List.length_append]; exact hsome _ rfl, hP2.push hbv, by simp; omega⟩
    · obtain ⟨tv, rfl⟩ : ∃ tv, v = .int g tv := by
        cases v <;> first | exact hv.elim | (obtain rfl : _ = g := hv; exact ⟨_, rfl⟩)
      obtain ⟨hg0, hg9⟩ := hpok
      (repeat' (first | (k_unfold; (try dsimp only)) | walk1 | (dsimp only; walk1) | (leave1; (try dsimp only)) | (refine Held.go ?_; first | ((with_reducible show wpAny _ _ (call (Value.ref _) _) _ _ _); first | ((k_here; (k_dflt refine' cte_use (rpieces_ok ⟨_, rfl⟩ _ _ _ _ _ _ _ _ ?hks ?hz) ?k1 ?k2 ?k3 ?k4 ?k5 ?kK ?kd ?ku ?kp ?kret ?kexc); (case hks => kba_ints); (case hz => first | assumption | omega); (((case k1 => k_asm); (case k2 => k_asm); (case k3 => k_asm); (case k4 => k_asm); (case k5 => k_asm); (case kK => first | exact rfl | assumption); (case kd => first | exact room2 (by assumption) rfl | ktr_room); (case ku => first | exact unit2 (by assumption) rfl | ktr_units))); (case kp => trivial); (case' kret => (intro v9 new9 h9 tk9 r9 F9 N9 l9; (obtain ⟨D9, arr9, n9, ps9, q9, q9', e9, e9', z9⟩ := r9); (subst q9 q9'); (try dsimp only); (try simp only [List.singleton_append, List.cons_append, List.nil_append] at N9); (replace l9 := fun p hp => l9 p hp _ (List.mem_singleton.mpr rfl)); (k_lt l9); (try k_fold))); (case' kexc => ((intro e9 dx9 es9 n9 g9 h9 tk9 F9 U9 R9 l9 p9; (try dsimp only)))))) | ((k_here; (k_dflt refine' mk_use (mkrw_ok ⟨_, rfl⟩ _ _ _ _ _) ?k1 ?k2 ?k3 ?k4 ?k5 ?kK ?kd ?ku ?_); (((case k1 => k_asm); (case k2 => k_asm); (case k3 => k_asm); (case k4 => k_asm); (case k5 => k_asm); (case kK => first | exact rfl | assumption); (case kd => first | exact room2 (by assumption) rfl | ktr_room); (case ku => first | exact unit2 (by assumption) rfl | ktr_units))); (intro e9 dx9 T9 es9 n9 h9 tk9 F9 N9 l91 l92 l93 p9); (try dsimp only); refine' RaisableE.mk ?q1 ?q2 ?q3 ?q4 ?_; (case q4 => exact (N9 _ (List.Mem.tail _ (List.Mem.head _))).1); (case q1 => exact Frag.In.keeps (by assumption) (Fr.keep F9)); (case q2 => k_is); (case q3 => kernel_rfl)))))))
      · ((refine' endRaise (by assumption) ?kB ?kF0 ?kF ?kN ?l1 ?l2 ?l3 ?hs ?_ ?hk; (case kB => assumption); (case kF0 => assumption); (case kF => assumption); (case kN => assumption); (case l1 => first | assumption | exact of_allLt (by assumption)); (case l2 => assumption); (case l3 => assumption); (case hs => first | exact fun q hq => hq | exact memA | exact memB | (intro q hq; simp [hq])); (case hk => rfl)))
        exact hnone (if_pos (by omega))
      · refine Held.go ?_
        (rename Fr _ _ _ _ => F); (rename News _ _ _ _ => N)
        (rename KBw.bInts (KBy.picked _ _ _) = _ => hP)
        refine kst_end (arr.push _, n + 1) F N mem2 (by intro p hp; simp [hp]) rfl trivial (by kst_all) (by kst_same) ⟨_, hsome _ (pick_a (by omega) (by assumption)), hP2.push hP, by simp; omega⟩
      · refine Held.go ?_
        (rename Fr _ _ _ _ => F); (rename News _ _ _ _ => N)
        refine kst_end (arr, n) F N mem2 (by intro p hp; simp [hp]) rfl trivial (by kst_all) (by kst_same) ⟨l, ?_, hP2, by simp; omega⟩
        have := hsome [] (pick_b (by omega) (by assumption))
        simpa using this
  case done =>
    rintro ⟨arr, n⟩ u h tk _ hP' F' N'
    (try dsimp only [kstB] at F')
    dsimp only at hP' N'
    obtain ⟨l, hP1, ⟨hJ, hJl⟩, hP3⟩ := hP'
    rw [hps.length, List.take_length] at hP1
    have hsem : rewSem rewr_ok_c.k1 rewr_ok_c.k2 rewr_ok_c.k3 = some l := by unfold rewSem; rw [hrun]; exact hP1
    have hJz : (arr.toList.flatMap fun v => KBw.bInts (payOf v)).length ≤ 100000 := by rw [hJl]; exact hout l hsem
    (repeat' (first | (k_unfold; (try dsimp only)) | walk1 | (dsimp only; walk1) | (leave1; (try dsimp only)) | (refine Held.go ?_; first | ((with_reducible show wpAny _ _ (call (Value.ref _) _) _ _ _); first | ((k_here; (k_dflt refine' cte_use (rpieces_ok ⟨_, rfl⟩ _ _ _ _ _ _ _ _ ?hks ?hz) ?k1 ?k2 ?k3 ?k4 ?k5 ?kK ?kd ?ku ?kp ?kret ?kexc); (case hks => kba_ints); (case hz => first | assumption | omega); (((case k1 => k_asm); (case k2 => k_asm); (case k3 => k_asm); (case k4 => k_asm); (case k5 => k_asm); (case kK => first | exact rfl | assumption); (case kd => first | exact room2 (by assumption) rfl | ktr_room); (case ku => first | exact unit2 (by assumption) rfl | ktr_units))); (case kp => trivial); (case' kret => (intro v9 new9 h9 tk9 r9 F9 N9 l9; (obtain ⟨D9, arr9, n9, ps9, q9, q9', e9, e9', z9⟩ := r9); (subst q9 q9'); (try dsimp only); (try simp only [List.singleton_append, List.cons_append, List.nil_append] at N9); (replace l9 := fun p hp => l9 p hp _ (List.mem_singleton.mpr rfl)); (k_lt l9); (try k_fold))); (case' kexc => ((intro e9 dx9 es9 n9 g9 h9 tk9 F9 U9 R9 l9 p9; (try dsimp only)))))) | ((k_here; (k_dflt refine' mk_use (mkrw_ok ⟨_, rfl⟩ _ _ _ _ _) ?k1 ?k2 ?k3 ?k4 ?k5 ?kK ?kd ?ku ?_); (((case k1 => k_asm); (case k2 => k_asm); (case k3 => k_asm); (case k4 => k_asm); (case k5 => k_asm); (case kK => first | exact rfl | assumption); (case kd => first | exact room2 (by assumption) rfl | ktr_room); (case ku => first | exact unit2 (by assumption) rfl | ktr_units))); (intro e9 dx9 T9 es9 n9 h9 tk9 F9 N9 l91 l92 l93 p9); (try dsimp only); refine' RaisableE.mk ?q1 ?q2 ?q3 ?q4 ?_; (case q4 => exact (N9 _ (List.Mem.tail _ (List.Mem.head _))).1); (case q1 => exact Frag.In.keeps (by assumption) (Fr.keep F9)); (case q2 => k_is); (case q3 => kernel_rfl)))))))
    exact hret _ [] _ _ ⟨_, _, l, rfl, rfl, by rw [← hJl]; assumption, hsem⟩ (by k_asm) (News_tl (by k_asm)) (fun _ _ _ h => nomatch h)
theorem rewr_ok (r : Rw) (w : World) (mean : ExcName → Option Value) (mg mb : Str → Option Value) (rest : Led) (b : Array UInt8) (t : Tok) (b2 : Array UInt8) (t2 : Tok) (cp : Addr) (vs : List Value) (nc : Nat) (ks text caps : List Int) (hks : KBw.bInts b = ks) (htx : KBw.bInts b2 = text) (hz : ks.length ≤ 100000) (hz2 : text.length ≤ 100000)
    (hcap : IntsAre vs caps) (hcl : caps.length ≤ 100) (hout : ∀ l, rewSem ks text caps = some l → l.length ≤ 100000) :
    CtE w mean mg mb 114 12 120 ((cp, listOf vs.toArray nc) :: rest) [.bytes b t, .bytes b2 t2, .ref cp] True (fun v new => ∃ b' t' l, v = .bytes b' t' ∧ new = [] ∧ KBw.bInts b' = l ∧ rewSem ks text caps = some l) 72 (fun _ => rewSem ks text caps = none) := by
  intro dp9 un9 gd9 cn9 cs9 a9 ccd9 cl9 outer9 A₀9 base9 h₀9 L9 m9 s9 Q9 E9
  exact pick_all (ne := cx_some) (by with_unfolding_all rfl) (rewr_ok_g.go (pick_all (ne := ⟨(⟨#[], default⟩, 0, ⟨#[], default⟩)⟩) (by with_unfolding_all rfl) rewr_ok_t1)) { cx0 with w := w, mean := mean, mg := mg, mb := mb, dp := dp9, un := un9, gd := gd9, cn := cn9, cs := cs9, a := a9, ccd := ccd9, cl := cl9, outer := outer9, A₀ := A₀9, base := base9, h₀ := h₀9, L := L9, m := m9, s := s9, Q := Q9, E := E9, led := rest, b1 := b, t1 := t, b2 := b2, t2 := t2, a1 := cp, v1 := vs, n1 := nc, k1 := ks, k2 := text, k3 := caps } hks htx hz hz2 hcap hcl hout
-- part A4
abbrev badUtf (ks : List Int) (i : Int) (es : List DictEntry) : Prop := ∃ t1 b t2 t3, getL "code" es = some (some (.str "bad utf-8" t1)) ∧ getL "told" es = some (some (.bytes b t2)) ∧ KBw.bInts b = seg ks i (i + 1) ∧ getL "place" es = some (some (.int i t3))
def signAt (lat : Bool) (ks : List Int) (i : Int) : Int × Int := if lat then (ks.getD i.toNat 0, 1) else runeAt ks i
def badAt (lat : Bool) (ks : List Int) (i : Int) : Prop := lat = false ∧ runeAt ks i = (65533, 1)
def rsign_ok_P (c : Cx) : Prop := ∀ (hks : KBw.bInts c.b1 = c.k1) (hz : c.k1.length ≤ 100000) (h0 : 0 ≤ c.i1) (h1 : c.i1 < (c.k1.length : Int)) , CtEc c 175 8 80 c.led [.bytes c.b1 c.t1, .int c.i1 c.t2, .bool c.lat] True (fun v new => ¬ badAt c.lat c.k1 c.i1 ∧ RetPair (signAt c.lat c.k1 c.i1) v new) 60 (fun es => badAt c.lat c.k1 c.i1 ∧ badUtf c.k1 c.i1 es)
@[irreducible] noncomputable def rsign_ok_c : Cx := pick cx_some rsign_ok_P
noncomputable def rsign_ok_g : Cut (rsign_ok_P rsign_ok_c) (Heap × Addr × Heap) := by
  refine Cut.mk3 (G := ?G) fun H => ?main
  rotate_left
  unfold rsign_ok_P CtEc
  k_fill
  intro hks hz h0 h1 hB0 hF0 hX0 hN0 hT0 hk0 hd hu hpre hret hexc
  refine wpAny_call ?_
  with_unfolding_all refine' code_def ?k1 ?k2 ?k3 ?k4 ?k5 ?kA ?kF ?kK ?k6 ?k7 ?k8 ?k9 ?kB ?_ ?c2 ?c3 ?c4 ?c5
  case kA => exact rfl
  case kF => exact rfl
  case kK => assumption
  case k1 => k_asm
  case k2 => k_asm
  case k3 => k_asm
  case k4 => k_asm
  case k5 => k_asm
  case k6 => k_is
  case k7 => k_is
  case k8 => exact Nat.lt_of_le_of_lt (Nat.le_add_right _ _) hd
  case k9 => exact BindsTo.of_eq (binds := [(Str.ofString "octets", .bytes rsign_ok_c.b1 rsign_ok_c.t1), (Str.ofString "at", .int rsign_ok_c.i1 rsign_ok_c.t2), (Str.ofString "is_latin1", .bool rsign_ok_c.lat)]) rfl
  case c5 => decide
  case kB => exact locs rfl
  case c2 => exact rfl
  case c3 => exact rfl
  case c4 => exact rfl
  intro gH LH hH FGH FH NH BH XH TH
  (try dsimp only)
  (try k_lift BH)
  revert hks hz h0 h1 hB0 hX0 hT0 hk0 hd hu hpre hret hexc FGH FH NH BH XH TH
  exact H gH LH hH
@[irreducible] noncomputable def rsign_ok_d : Heap × Addr × Heap := pick ⟨(⟨#[], default⟩, 0, ⟨#[], default⟩)⟩ rsign_ok_g.G
theorem rsign_ok_t1 : rsign_ok_g.G rsign_ok_d := by
  intro hks hz h0 h1 hB0 hX0 hT0 hk0 hd hu hpre hret hexc FGH FH NH BH XH TH
  have calls := myCalls
  (try k_fold)
  have hret' := fun hn v new h' tk' hR => hret v new h' tk' ⟨hn, hR⟩
  clear hret
  (repeat' (first | (k_unfold; (try dsimp only)) | walk1 | (dsimp only; walk1) | (leave1; (try dsimp only)) | (refine Held.go ?_; first | ((with_reducible show wpAny _ _ (call (Value.ref _) _) _ _ _); first | ((k_here; (k_dflt refine' ctn_use (rat_ok ⟨_, rfl⟩ _ _ _ _ _ _ _ _ _ _ ?hks ?hz ?h0 ?h1) ?k1 ?k2 ?k3 ?k4 ?k5 ?kK ?kd ?ku ?kp ?_); (case hks => kba_ints); (case hz => first | assumption | omega); (case h0 => first | assumption | omega); (case h1 => first | assumption | omega); (((case k1 => k_asm); (case k2 => k_asm); (case k3 => k_asm); (case k4 => k_asm); (case k5 => k_asm); (case kK => first | exact rfl | assumption); (case kd => first | exact room2 (by assumption) rfl | ktr_room); (case ku => first | exact unit2 (by assumption) rfl | ktr_units))); (case kp => trivial); (intro v9 new9 h9 tk9 R9 F9 N9 l9); (obtain ⟨D9, u9, u9', e9, e9'⟩ := R9); (subst e9 e9'); (try dsimp only); (try simp only [List.singleton_append, List.cons_append, List.nil_append] at N9); (replace l9 := fun p hp => l9 p hp _ (List.mem_singleton.mpr rfl)); (try k_fold))) | ((k_here; (k_dflt refine' mk_use (mkpat_ok ⟨_, rfl⟩ _ _ _ _ _ _ _) ?k1 ?k2 ?k3 ?k4 ?k5 ?kK ?kd ?ku ?_); (((case k1 => k_asm); (case k2 => k_asm); (case k3 => k_asm); (case k4 => k_asm); (case k5 => k_asm); (case kK => first | exact rfl | assumption); (case kd => first | exact room2 (by assumption) rfl | ktr_room); (case ku => first | exact unit2 (by assumption) rfl | ktr_units))); (intro e9 dx9 T9 es9 n9 h9 tk9 F9 N9 l91 l92 l93 p9); (try dsimp only); refine' RaisableE.mk ?q1 ?q2 ?q3 ?q4 ?_; (case q4 => exact (N9 _ (List.Mem.tail _ (List.Mem.head _))).1); (case q1 => exact Frag.In.keeps (by assumption) (Fr.keep F9)); (case q2 => k_is); (case q3 => kernel_rfl)))))))
  · replace hret' := hret' (by rintro ⟨hl, _⟩; simp_all)
    ((refine endPair (by assumption) ?_ (by k_asm) (by k_asm) (by first | exact fun q hq => hq | (intro q hq; simp [hq])) (by first | assumption | exact of_allLt (by assumption))))
    unfold signAt
    rw [if_pos (by assumption), ← hks]
  · ((refine' endRaise (by assumption) ?kB ?kF0 ?kF ?kN ?l1 ?l2 ?l3 ?hs ?_ ?hk; (case kB => assumption); (case kF0 => assumption); (case kF => assumption); (case kN => assumption); (case l1 => first | assumption | exact of_allLt (by assumption)); (case l2 => assumption); (case l3 => assumption); (case hs => first | exact fun q hq => hq | exact memA | exact memB | (intro q hq; simp [hq])); (case hk => rfl)))
    have hr : runeAt rsign_ok_c.k1 rsign_ok_c.i1 = (65533, 1) := Prod.ext (by assumption) (by assumption)
    refine ⟨⟨by assumption, hr⟩, _, _, _, _, (by assumption : _ ∧ _ ∧ _).1, (by assumption : _ ∧ _ ∧ _).2.1, ?_, (by assumption : _ ∧ _ ∧ _).2.2⟩
    (rename KBw.bInts (KBy.picked _ _ _) = _ => hP)
    rw [hP, seg_of (by omega) (by omega)]
  all_goals (
    replace hret' := hret' (by
      rintro ⟨_, hb⟩
      have e1 : (runeAt rsign_ok_c.k1 rsign_ok_c.i1).1 = 65533 := by rw [hb]
      have e2 : (runeAt rsign_ok_c.k1 rsign_ok_c.i1).2 = 1 := by rw [hb]
      first | contradiction | omega)
    ((refine endPair (by assumption) ?_ (by k_asm) (by k_asm) (by first | exact fun q hq => hq | (intro q hq; simp [hq])) (by first | assumption | exact of_allLt (by assumption))))
    unfold signAt
    rw [if_neg (by simp_all)])
theorem rsign_ok (r : Rw) (w : World) (mean : ExcName → Option Value) (mg mb : Str → Option Value) (news : Led) (b : Array UInt8) (t : Tok) (i : Int) (t2 : Tok) (lat : Bool) (ks : List Int) (hks : KBw.bInts b = ks) (hz : ks.length ≤ 100000) (h0 : 0 ≤ i) (h1 : i < (ks.length : Int)) :
    CtE w mean mg mb 175 8 80 news [.bytes b t, .int i t2, .bool lat] True (fun v new => ¬ badAt lat ks i ∧ RetPair (signAt lat ks i) v new) 60 (fun es => badAt lat ks i ∧ badUtf ks i es) := by
  intro dp9 un9 gd9 cn9 cs9 a9 ccd9 cl9 outer9 A₀9 base9 h₀9 L9 m9 s9 Q9 E9
  exact pick_all (ne := cx_some) (by with_unfolding_all rfl) (rsign_ok_g.go (pick_all (ne := ⟨(⟨#[], default⟩, 0, ⟨#[], default⟩)⟩) (by with_unfolding_all rfl) rsign_ok_t1)) { cx0 with w := w, mean := mean, mg := mg, mb := mb, dp := dp9, un := un9, gd := gd9, cn := cn9, cs := cs9, a := a9, ccd := ccd9, cl := cl9, outer := outer9, A₀ := A₀9, base := base9, h₀ := h₀9, L := L9, m := m9, s := s9, Q := Q9, E := E9, led := news, b1 := b, t1 := t, i1 := i, t2 := t2, lat := lat, k1 := ks } hks hz h0 h1
-- part P1
/-- a call that turns the ledger into another, or raises an own exception -/
abbrev CtG (w : World) (mean : ExcName → Option Value) (mg mb : Str → Option Value) (f : Addr) (d u : Nat) (news newsX : Led) (vs : List Value) (pre : Prop) (Ret : Value → Led → Prop) (C : Addr) (PX : List DictEntry → Prop) : Prop :=
  ∀ (dp un : Nat) (gd : Option (List Code)) (cn : Str) (cs : Scope) (a : Addr) (ccd : Value) (cl : List (Str × Addr)) (outer : List Env) (A₀ : Around) (base h₀ : Heap) (L : Addr) (m : Str → Option Value) (s : Shared) (Q E : Value → Shared → Prop),
    Below A₀ base outer h₀ → Fr h₀ L s.heap m → (KF w.params).In h₀ → News h₀ L s.heap news → Top VQ LS mean mg mb h₀ → cs.kind = .function →
    dp + d < recursionLimit → un + u < cLine → pre →
    (∀ (v : Value) (led : Led) (h' : Heap) (tk' : Nat), Ret v led → Fr h₀ L h' m → News h₀ L h' led → Q v { s with heap := h', toks := tk' }) →
    (∀ (e dx : Addr) (es : List DictEntry) (n : Nat) (g h' : Heap) (tk' : Nat), Fr h₀ L g m → g.UpToSlots h' → RaisedD base (envX cn cs L a ccd cl :: outer) e (.ref C) dx ((dx, dictOf es n) :: newsX) h' → (∀ p ∈ newsX, p.1 < dx) → PX es → E (.ref e) { s with heap := h', toks := tk' }) →
    wpAny (model PySem.Challenge.rw_sj0126_01.row.prog w) (ktrTop dp un gd cn cs L a ccd cl outer) (call (.ref f) vs) Q E s
section
variable {w : World} {mean : ExcName → Option Value} {mg mb : Str → Option Value} {f : Addr} {d u : Nat} {news newsX : Led} {vs : List Value} {pre : Prop} {Ret : Value → Led → Prop} {C : Addr} {PX : List DictEntry → Prop}
  {dp un : Nat} {gd : Option (List Code)} {cn : Str} {cs : Scope} {a : Addr} {ccd : Value} {cl : List (Str × Addr)} {outer : List Env} {A₀ : Around} {base h₀ : Heap} {L : Addr} {m : Str → Option Value} {s : Shared} {Q E : Value → Shared → Prop}
theorem ctg_use (Ct : CtG w mean mg mb f d u news newsX vs pre Ret C PX) (B : Below A₀ base outer h₀) (F : Fr h₀ L s.heap m) (X : (KF w.params).In h₀) (N : News h₀ L s.heap news) (T : Top VQ LS mean mg mb h₀)
    (hk : cs.kind = .function) (hd' : dp + d < recursionLimit) (hu : un + u < cLine) (hp : pre)
    (ret : ∀ (v : Value) (led : Led) (h' : Heap) (tk' : Nat), Ret v led → Fr h₀ L h' m → News h₀ L h' led → Q v { s with heap := h', toks := tk' })
    (exc : ∀ (e dx : Addr) (es : List DictEntry) (n : Nat) (g h' : Heap) (tk' : Nat), Fr h₀ L g m → g.UpToSlots h' → RaisedD base (envX cn cs L a ccd cl :: outer) e (.ref C) dx ((dx, dictOf es n) :: newsX) h' → (∀ p ∈ newsX, p.1 < dx) → PX es → E (.ref e) { s with heap := h', toks := tk' }) :
    wpAny (model PySem.Challenge.rw_sj0126_01.row.prog w) (ktrTop dp un gd cn cs L a ccd cl outer) (call (.ref f) vs) Q E s :=
  Ct _ _ _ _ _ _ _ _ _ _ _ _ _ _ _ _ _ B F X N T hk hd' hu hp ret exc
end
theorem ctn_mem {w : World} {mean : ExcName → Option Value} {mg mb : Str → Option Value} {f : Addr} {d u : Nat} {news : Led} {vs : List Value} {pre : Prop} {Ret : Value → Led → Prop} {p q : Addr × Obj}
    (H : CtN w mean mg mb f d u (p :: q :: news) vs pre Ret) (hp : p ∈ news) (hq : q ∈ news) : CtN w mean mg mb f d u news vs pre Ret := by
  intro _ _ _ _ _ _ _ _ _ _ _ _ _ _ _ _ _ B F X N T hk hd hu hpre hret
  refine H _ _ _ _ _ _ _ _ _ _ _ _ _ _ _ _ _ B F X (fun z hz => ?_) T hk hd hu hpre (fun v new h' tk' hR F' N' l => hret v new h' tk' hR F' (fun z hz => N' z ?_) fun z hz => l z (.tail _ (.tail _ hz)))
  · rcases List.mem_cons.mp hz with rfl | hz
    · exact N _ hp
    · rcases List.mem_cons.mp hz with rfl | hz
      · exact N _ hq
      · exact N _ hz
  · rcases List.mem_append.mp hz with hz | hz
    · exact List.mem_append_left _ hz
    · exact List.mem_append_right _ (.tail _ (.tail _ hz))
/-- the reader's own dict -/
abbrev rdE (w : World) (k1 k2 k3 : Tok) (b : Array UInt8) (t : Tok) (lat : Bool) (i : Int) (ti : Tok) : List DictEntry :=
  [⟨PyData.keyHash w.params "octets", .str "octets" k1, .bytes b t⟩, ⟨PyData.keyHash w.params "is_latin1", .str "is_latin1" k2, .bool lat⟩, ⟨PyData.keyHash w.params "at", .str "at" k3, .int i ti⟩]
abbrev rdL (w : World) (x dx : Addr) (k1 k2 k3 : Tok) (b : Array UInt8) (t : Tok) (lat : Bool) (i : Int) (ti : Tok) : Led :=
  [(x, instObj 235 dx), (dx, dictOf (rdE w k1 k2 k3 b t lat i ti) 3)]
theorem over_ok (r : Rw) (w : World) (mean : ExcName → Option Value) (mg mb : Str → Option Value) (rest : Led) (x dx : Addr) (k1 k2 k3 : Tok) (b : Array UInt8) (t : Tok) (lat : Bool) (i : Int) (ti : Tok) (ks : List Int) (hks : KBw.bInts b = ks) (hz : ks.length ≤ 100000) :
    CtN w mean mg mb 197 2 16 ((x, instObj 235 dx) :: (dx, dictOf (rdE w k1 k2 k3 b t lat i ti) 3) :: rest) [.ref x] True (fun v new => new = [] ∧ v = .bool (decide ((ks.length : Int) ≤ i))) := by
  unfold CtN
  k_fill
  intros
  rename_i hd hu hpre hret
  (((refine wpAny_call ?_); k_dflt cell_enter))
  (repeat' (first | (k_unfold; (try dsimp only)) | walk1 | (dsimp only; walk1) | (leave1; (try dsimp only)) | (refine Held.go ?_; first | ((with_reducible show wpAny _ _ (call (Value.ref _) _) _ _ _); first | ((k_here; (k_dflt refine' ctn_use (ctn_mem (over_ok ⟨_, rfl⟩ _ _ _ _ _ _ _ _ _ _ _ _ _ _ _ _ ?hks ?hz) ?m1 ?m2) ?k1 ?k2 ?k3 ?k4 ?k5 ?kK ?kd ?ku ?kp ?_); (((case k1 => k_asm); (case k2 => k_asm); (case k3 => k_asm); (case k4 => k_asm); (case k5 => k_asm); (case kK => first | exact rfl | assumption); (case kd => first | exact room2 (by assumption) rfl | ktr_room); (case ku => first | exact unit2 (by assumption) rfl | ktr_units))); (case m1 => k_mem); (case m2 => k_mem); (case hks => kba_ints); (case hz => first | assumption | omega); (case kp => trivial); (intro v9 new9 h9 tk9 R9 F9 N9 l9); (obtain ⟨q9, q9'⟩ := R9); (subst q9 q9'); (try dsimp only); (try simp only [List.singleton_append, List.cons_append, List.nil_append] at N9); clear l9; (try k_fold))) | ((k_here; (k_dflt refine' cte_use (rsign_ok ⟨_, rfl⟩ _ _ _ _ _ _ _ _ _ _ _ ?hks ?hz ?h0 ?h1) ?k1 ?k2 ?k3 ?k4 ?k5 ?kK ?kd ?ku ?kp ?kret ?kexc); (case hks => kba_ints); (case hz => first | assumption | omega); (case h0 => first | assumption | omega); (case h1 => first | assumption | omega); (((case k1 => k_asm); (case k2 => k_asm); (case k3 => k_asm); (case k4 => k_asm); (case k5 => k_asm); (case kK => first | exact rfl | assumption); (case kd => first | exact room2 (by assumption) rfl | ktr_room); (case ku => first | exact unit2 (by assumption) rfl | ktr_units))); (case kp => trivial); (case' kret => (intro v9 new9 h9 tk9 r9 F9 N9 l9; (obtain ⟨nb9, D9, u9, u9', q9, q9'⟩ := r9); (subst q9 q9'); (try dsimp only); (try simp only [List.singleton_append, List.cons_append, List.nil_append] at N9); (replace l9 := fun p hp => l9 p hp _ (List.mem_singleton.mpr rfl)); (k_lt l9); (try k_fold))); (case' kexc => ((intro e9 dx9 es9 n9 g9 h9 tk9 F9 U9 R9 l9 p9; (try dsimp only))))))))))
  exact hret _ [] _ _ ⟨rfl, rfl⟩ (by k_asm) (by k_asm) (fun _ _ _ h => nomatch h)
def peek_ok_P (c : Cx) : Prop := ∀ (hks : KBw.bInts c.b1 = c.k1) (hz : c.k1.length ≤ 100000) (h0 : 0 ≤ c.i1) (h1 : c.i1 < (c.k1.length : Int)) , CtGc c 204 12 120 ((c.a1, instObj 235 c.a2) :: (c.a2, dictOf (rdE c.w c.t1 c.t2 c.t3 c.b1 c.t4 c.lat c.i1 c.t5) 3) :: c.led) c.led [.ref c.a1] True
      (fun v led => led = ((c.a1, instObj 235 c.a2) :: (c.a2, dictOf (rdE c.w c.t1 c.t2 c.t3 c.b1 c.t4 c.lat c.i1 c.t5) 3) :: c.led) ∧ ¬ badAt c.lat c.k1 c.i1 ∧ ∃ u, v = .int (signAt c.lat c.k1 c.i1).1 u) 60 (fun es => badAt c.lat c.k1 c.i1 ∧ badUtf c.k1 c.i1 es)
@[irreducible] noncomputable def peek_ok_c : Cx := pick cx_some peek_ok_P
noncomputable def peek_ok_g : Cut (peek_ok_P peek_ok_c) (Heap × Addr × Heap) := by
  refine Cut.mk3 (G := ?G) fun H => ?main
  rotate_left
  unfold peek_ok_P CtGc
  k_fill
  intro hks hz h0 h1 hB0 hF0 hX0 hN0 hT0 hk0 hd hu hpre hret hexc
  refine wpAny_call ?_
  with_unfolding_all refine' code_def ?k1 ?k2 ?k3 ?k4 ?k5 ?kA ?kF ?kK ?k6 ?k7 ?k8 ?k9 ?kB ?_ ?c2 ?c3 ?c4 ?c5
  case kA => exact rfl
  case kF => exact rfl
  case kK => assumption
  case k1 => k_asm
  case k2 => k_asm
  case k3 => k_asm
  case k4 => k_asm
  case k5 => k_asm
  case k6 => k_is
  case k7 => k_is
  case k8 => exact Nat.lt_of_le_of_lt (Nat.le_add_right _ _) hd
  case k9 => exact BindsTo.of_eq (binds := [(Str.ofString "self", .ref peek_ok_c.a1)]) rfl
  case c5 => decide
  case kB => exact locs rfl
  case c2 => exact rfl
  case c3 => exact rfl
  case c4 => exact rfl
  intro gH LH hH FGH FH NH BH XH TH
  (try dsimp only)
  (try k_lift BH)
  revert hks hz h0 h1 hB0 hX0 hT0 hk0 hd hu hpre hret hexc FGH FH NH BH XH TH
  exact H gH LH hH
@[irreducible] noncomputable def peek_ok_d : Heap × Addr × Heap := pick ⟨(⟨#[], default⟩, 0, ⟨#[], default⟩)⟩ peek_ok_g.G
theorem peek_ok_t1 : peek_ok_g.G peek_ok_d := by
  intro hks hz h0 h1 hB0 hX0 hT0 hk0 hd hu hpre hret hexc FGH FH NH BH XH TH
  have calls := myCalls
  (try k_fold)
  (repeat' (first | (k_unfold; (try dsimp only)) | walk1 | (dsimp only; walk1) | (leave1; (try dsimp only)) | (refine Held.go ?_; first | ((with_reducible show wpAny _ _ (call (Value.ref _) _) _ _ _); first | ((k_here; (k_dflt refine' ctn_use (ctn_mem (over_ok ⟨_, rfl⟩ _ _ _ _ _ _ _ _ _ _ _ _ _ _ _ _ ?hks ?hz) ?m1 ?m2) ?k1 ?k2 ?k3 ?k4 ?k5 ?kK ?kd ?ku ?kp ?_); (((case k1 => k_asm); (case k2 => k_asm); (case k3 => k_asm); (case k4 => k_asm); (case k5 => k_asm); (case kK => first | exact rfl | assumption); (case kd => first | exact room2 (by assumption) rfl | ktr_room); (case ku => first | exact unit2 (by assumption) rfl | ktr_units))); (case m1 => k_mem); (case m2 => k_mem); (case hks => kba_ints); (case hz => first | assumption | omega); (case kp => trivial); (intro v9 new9 h9 tk9 R9 F9 N9 l9); (obtain ⟨q9, q9'⟩ := R9); (subst q9 q9'); (try dsimp only); (try simp only [List.singleton_append, List.cons_append, List.nil_append] at N9); clear l9; (try k_fold))) | ((k_here; (k_dflt refine' cte_use (rsign_ok ⟨_, rfl⟩ _ _ _ _ _ _ _ _ _ _ _ ?hks ?hz ?h0 ?h1) ?k1 ?k2 ?k3 ?k4 ?k5 ?kK ?kd ?ku ?kp ?kret ?kexc); (case hks => kba_ints); (case hz => first | assumption | omega); (case h0 => first | assumption | omega); (case h1 => first | assumption | omega); (((case k1 => k_asm); (case k2 => k_asm); (case k3 => k_asm); (case k4 => k_asm); (case k5 => k_asm); (case kK => first | exact rfl | assumption); (case kd => first | exact room2 (by assumption) rfl | ktr_room); (case ku => first | exact unit2 (by assumption) rfl | ktr_units))); (case kp => trivial); (case' kret => (intro v9 new9 h9 tk9 r9 F9 N9 l9; (obtain ⟨nb9, D9, u9, u9', q9, q9'⟩ := r9); (subst q9 q9'); (try dsimp only); (try simp only [List.singleton_append, List.cons_append, List.nil_append] at N9); (replace l9 := fun p hp => l9 p hp _ (List.mem_singleton.mpr rfl)); (k_lt l9); (try k_fold))); (case' kexc => ((intro e9 dx9 es9 n9 g9 h9 tk9 F9 U9 R9 l9 p9; (try dsimp only))))))))))
  · ((refine' passRaise (by assumption) ?kB ?kF0 ?kF ?kU ?kR ?kl ?hs ?_; (case kB => assumption); (case kF0 => assumption); (case kR => assumption); (case kF => assumption); (case kU => assumption); (case kl => first | assumption | exact of_allLt (by assumption)); (case hs => first | exact fun q hq => hq | exact memA | exact memB | (intro q hq; simp [hq]))))
    assumption
  · exact hret _ _ _ _ ⟨rfl, by assumption, _, rfl⟩ (by k_asm) (fun q hq => (by k_asm : News _ _ _ (_ :: _)) q (.tail _ hq))
theorem peek_ok (r : Rw) (w : World) (mean : ExcName → Option Value) (mg mb : Str → Option Value) (rest : Led) (x dx : Addr) (k1 k2 k3 : Tok) (b : Array UInt8) (t : Tok) (lat : Bool) (i : Int) (ti : Tok) (ks : List Int) (hks : KBw.bInts b = ks) (hz : ks.length ≤ 100000) (h0 : 0 ≤ i) (h1 : i < (ks.length : Int)) :
    CtG w mean mg mb 204 12 120 ((x, instObj 235 dx) :: (dx, dictOf (rdE w k1 k2 k3 b t lat i ti) 3) :: rest) rest [.ref x] True
      (fun v led => led = ((x, instObj 235 dx) :: (dx, dictOf (rdE w k1 k2 k3 b t lat i ti) 3) :: rest) ∧ ¬ badAt lat ks i ∧ ∃ u, v = .int (signAt lat ks i).1 u) 60 (fun es => badAt lat ks i ∧ badUtf ks i es) := by
  intro dp9 un9 gd9 cn9 cs9 a9 ccd9 cl9 outer9 A₀9 base9 h₀9 L9 m9 s9 Q9 E9
  exact pick_all (ne := cx_some) (by with_unfolding_all rfl) (peek_ok_g.go (pick_all (ne := ⟨(⟨#[], default⟩, 0, ⟨#[], default⟩)⟩) (by with_unfolding_all rfl) peek_ok_t1)) { cx0 with w := w, mean := mean, mg := mg, mb := mb, dp := dp9, un := un9, gd := gd9, cn := cn9, cs := cs9, a := a9, ccd := ccd9, cl := cl9, outer := outer9, A₀ := A₀9, base := base9, h₀ := h₀9, L := L9, m := m9, s := s9, Q := Q9, E := E9, led := rest, a1 := x, a2 := dx, t1 := k1, t2 := k2, t3 := k3, b1 := b, t4 := t, lat := lat, i1 := i, t5 := ti, k1 := ks } hks hz h0 h1
def take_ok_P (c : Cx) : Prop := ∀ (hks : KBw.bInts c.b1 = c.k1) (hz : c.k1.length ≤ 100000) (h0 : 0 ≤ c.i1) (h1 : c.i1 < (c.k1.length : Int)) (hx : @LT.lt Nat _ c.a2 c.a1) (hr : ∀ p ∈ c.led, p.1 ≠ c.a2) , CtGc c 211 12 120 ((c.a1, instObj 235 c.a2) :: (c.a2, dictOf (rdE c.w c.t1 c.t2 c.t3 c.b1 c.t4 c.lat c.i1 c.t5) 3) :: c.led) c.led [.ref c.a1] True
      (fun v led => ∃ ti', led = ((c.a1, instObj 235 c.a2) :: (c.a2, dictOf (rdE c.w c.t1 c.t2 c.t3 c.b1 c.t4 c.lat (c.i1 + (signAt c.lat c.k1 c.i1).2) ti') 3) :: c.led) ∧ ¬ badAt c.lat c.k1 c.i1 ∧ ∃ u, v = .int (signAt c.lat c.k1 c.i1).1 u) 60 (fun es => badAt c.lat c.k1 c.i1 ∧ badUtf c.k1 c.i1 es)
@[irreducible] noncomputable def take_ok_c : Cx := pick cx_some take_ok_P
noncomputable def take_ok_g : Cut (take_ok_P take_ok_c) (Heap × Addr × Heap) := by
  refine Cut.mk3 (G := ?G) fun H => ?main
  rotate_left
  unfold take_ok_P CtGc
  k_fill
  intro hks hz h0 h1 hx hr hB0 hF0 hX0 hN0 hT0 hk0 hd hu hpre hret hexc
  refine wpAny_call ?_
  with_unfolding_all refine' code_def ?k1 ?k2 ?k3 ?k4 ?k5 ?kA ?kF ?kK ?k6 ?k7 ?k8 ?k9 ?kB ?_ ?c2 ?c3 ?c4 ?c5
  case kA => exact rfl
  case kF => exact rfl
  case kK => assumption
  case k1 => k_asm
  case k2 => k_asm
  case k3 => k_asm
  case k4 => k_asm
  case k5 => k_asm
  case k6 => k_is
  case k7 => k_is
  case k8 => exact Nat.lt_of_le_of_lt (Nat.le_add_right _ _) hd
  case k9 => exact BindsTo.of_eq (binds := [(Str.ofString "self", .ref take_ok_c.a1)]) rfl
  case c5 => decide
  case kB => exact locs rfl
  case c2 => exact rfl
  case c3 => exact rfl
  case c4 => exact rfl
  intro gH LH hH FGH FH NH BH XH TH
  (try dsimp only)
  (try k_lift BH)
  revert hks hz h0 h1 hx hr hB0 hX0 hT0 hk0 hd hu hpre hret hexc FGH FH NH BH XH TH
  exact H gH LH hH
@[irreducible] noncomputable def take_ok_d : Heap × Addr × Heap := pick ⟨(⟨#[], default⟩, 0, ⟨#[], default⟩)⟩ take_ok_g.G
theorem take_ok_t1 : take_ok_g.G take_ok_d := by
  intro hks hz h0 h1 hx hr hB0 hX0 hT0 hk0 hd hu hpre hret hexc FGH FH NH BH XH TH
  have calls := myCalls
  (try k_fold)
  (repeat' (first | (k_unfold; (try dsimp only)) | walk1 | (dsimp only; walk1) | (leave1; (try dsimp only)) | (refine Held.go ?_; first | ((with_reducible show wpAny _ _ (call (Value.ref _) _) _ _ _); first | ((k_here; (k_dflt refine' ctn_use (ctn_mem (over_ok ⟨_, rfl⟩ _ _ _ _ _ _ _ _ _ _ _ _ _ _ _ _ ?hks ?hz) ?m1 ?m2) ?k1 ?k2 ?k3 ?k4 ?k5 ?kK ?kd ?ku ?kp ?_); (((case k1 => k_asm); (case k2 => k_asm); (case k3 => k_asm); (case k4 => k_asm); (case k5 => k_asm); (case kK => first | exact rfl | assumption); (case kd => first | exact room2 (by assumption) rfl | ktr_room); (case ku => first | exact unit2 (by assumption) rfl | ktr_units))); (case m1 => k_mem); (case m2 => k_mem); (case hks => kba_ints); (case hz => first | assumption | omega); (case kp => trivial); (intro v9 new9 h9 tk9 R9 F9 N9 l9); (obtain ⟨q9, q9'⟩ := R9); (subst q9 q9'); (try dsimp only); (try simp only [List.singleton_append, List.cons_append, List.nil_append] at N9); clear l9; (try k_fold))) | ((k_here; (k_dflt refine' cte_use (rsign_ok ⟨_, rfl⟩ _ _ _ _ _ _ _ _ _ _ _ ?hks ?hz ?h0 ?h1) ?k1 ?k2 ?k3 ?k4 ?k5 ?kK ?kd ?ku ?kp ?kret ?kexc); (case hks => kba_ints); (case hz => first | assumption | omega); (case h0 => first | assumption | omega); (case h1 => first | assumption | omega); (((case k1 => k_asm); (case k2 => k_asm); (case k3 => k_asm); (case k4 => k_asm); (case k5 => k_asm); (case kK => first | exact rfl | assumption); (case kd => first | exact room2 (by assumption) rfl | ktr_room); (case ku => first | exact unit2 (by assumption) rfl | ktr_units))); (case kp => trivial); (case' kret => (intro v9 new9 h9 tk9 r9 F9 N9 l9; (obtain ⟨nb9, D9, u9, u9', q9, q9'⟩ := r9); (subst q9 q9'); (try dsimp only); (try simp only [List.singleton_append, List.cons_append, List.nil_append] at N9); (replace l9 := fun p hp => l9 p hp _ (List.mem_singleton.mpr rfl)); (k_lt l9); (try k_fold))); (case' kexc => ((intro e9 dx9 es9 n9 g9 h9 tk9 F9 U9 R9 l9 p9; (try dsimp only))))))))))
  · ((refine' passRaise (by assumption) ?kB ?kF0 ?kF ?kU ?kR ?kl ?hs ?_; (case kB => assumption); (case kF0 => assumption); (case kR => assumption); (case kF => assumption); (case kU => assumption); (case kl => first | assumption | exact of_allLt (by assumption)); (case hs => first | exact fun q hq => hq | exact memA | exact memB | (intro q hq; simp [hq]))))
    assumption
  · exact hret _ _ _ _ ⟨_, rfl, by assumption, _, rfl⟩ (by k_asm) (fun q hq => (by k_asm : News _ _ _ (_ :: _)) q (.tail _ hq))
theorem take_ok (r : Rw) (w : World) (mean : ExcName → Option Value) (mg mb : Str → Option Value) (rest : Led) (x dx : Addr) (k1 k2 k3 : Tok) (b : Array UInt8) (t : Tok) (lat : Bool) (i : Int) (ti : Tok) (ks : List Int) (hks : KBw.bInts b = ks) (hz : ks.length ≤ 100000) (h0 : 0 ≤ i) (h1 : i < (ks.length : Int)) (hx : @LT.lt Nat _ dx x) (hr : ∀ p ∈ rest, p.1 ≠ dx) :
    CtG w mean mg mb 211 12 120 ((x, instObj 235 dx) :: (dx, dictOf (rdE w k1 k2 k3 b t lat i ti) 3) :: rest) rest [.ref x] True
      (fun v led => ∃ ti', led = ((x, instObj 235 dx) :: (dx, dictOf (rdE w k1 k2 k3 b t lat (i + (signAt lat ks i).2) ti') 3) :: rest) ∧ ¬ badAt lat ks i ∧ ∃ u, v = .int (signAt lat ks i).1 u) 60 (fun es => badAt lat ks i ∧ badUtf ks i es) := by
  intro dp9 un9 gd9 cn9 cs9 a9 ccd9 cl9 outer9 A₀9 base9 h₀9 L9 m9 s9 Q9 E9
  exact pick_all (ne := cx_some) (by with_unfolding_all rfl) (take_ok_g.go (pick_all (ne := ⟨(⟨#[], default⟩, 0, ⟨#[], default⟩)⟩) (by with_unfolding_all rfl) take_ok_t1)) { cx0 with w := w, mean := mean, mg := mg, mb := mb, dp := dp9, un := un9, gd := gd9, cn := cn9, cs := cs9, a := a9, ccd := ccd9, cl := cl9, outer := outer9, A₀ := A₀9, base := base9, h₀ := h₀9, L := L9, m := m9, s := s9, Q := Q9, E := E9, led := rest, a1 := x, a2 := dx, t1 := k1, t2 := k2, t3 := k3, b1 := b, t4 := t, lat := lat, i1 := i, t5 := ti, k1 := ks } hks hz h0 h1 hx hr
-- part P2
def rHex (o : Int) : Int := if 48 ≤ o ∧ o ≤ 57 then o - 48 else if 65 ≤ o ∧ o ≤ 70 then o - 55 else if 97 ≤ o ∧ o ≤ 102 then o - 87 else -1
def rhex_ok_P (c : Cx) : Prop := CtVc c 246 2 16 [.int c.i1 c.t1] True (fun tt => .int (rHex c.i1) tt)
@[irreducible] noncomputable def rhex_ok_c : Cx := pick cx_some rhex_ok_P
noncomputable def rhex_ok_g : Cut (rhex_ok_P rhex_ok_c) (Heap × Addr × Heap) := by
  refine Cut.mk3 (G := ?G) fun H => ?main
  rotate_left
  unfold rhex_ok_P CtVc
  k_fill
  intro hB0 hF0 hX0 hN0 hT0 hk0 hd hu hpre hret
  refine wpAny_call ?_
  with_unfolding_all refine' code_def ?k1 ?k2 ?k3 ?k4 ?k5 ?kA ?kF ?kK ?k6 ?k7 ?k8 ?k9 ?kB ?_ ?c2 ?c3 ?c4 ?c5
  case kA => exact rfl
  case kF => exact rfl
  case kK => assumption
  case k1 => k_asm
  case k2 => k_asm
  case k3 => k_asm
  case k4 => k_asm
  case k5 => k_asm
  case k6 => k_is
  case k7 => k_is
  case k8 => exact Nat.lt_of_le_of_lt (Nat.le_add_right _ _) hd
  case k9 => exact BindsTo.of_eq (binds := [(Str.ofString "octet", .int rhex_ok_c.i1 rhex_ok_c.t1)]) rfl
  case c5 => decide
  case kB => exact locs rfl
  case c2 => exact rfl
  case c3 => exact rfl
  case c4 => exact rfl
  intro gH LH hH FGH FH NH BH XH TH
  (try dsimp only)
  (try k_lift BH)
  revert hB0 hX0 hT0 hk0 hd hu hpre hret FGH FH NH BH XH TH
  exact H gH LH hH
@[irreducible] noncomputable def rhex_ok_d : Heap × Addr × Heap := pick ⟨(⟨#[], default⟩, 0, ⟨#[], default⟩)⟩ rhex_ok_g.G
theorem rhex_ok_t1 : rhex_ok_g.G rhex_ok_d := by
  intro hB0 hX0 hT0 hk0 hd hu hpre hret FGH FH NH BH XH TH
  (try k_fold)
  (repeat' (first | (k_unfold; (try dsimp only)) | walk1 | (dsimp only; walk1) | (leave1; (try dsimp only)) | (refine Held.go ?_; first | ((with_reducible show wpAny _ _ (call (Value.ref _) _) _ _ _); first | ((k_here; (k_dflt refine' ctv_use (rhex_ok ⟨_, rfl⟩ _ _ _ _ _ _) ?k1 ?k2 ?k3 ?k4 ?k5 ?kK ?kd ?ku ?kp ?_); (((case k1 => k_asm); (case k2 => k_asm); (case k3 => k_asm); (case k4 => k_asm); (case k5 => k_asm); (case kK => first | exact rfl | assumption); (case kd => first | exact room2 (by assumption) rfl | ktr_room); (case ku => first | exact unit2 (by assumption) rfl | ktr_units))); (case kp => trivial); (((intro t9 h9 tk9 F9 N9); (try dsimp only); (try k_fold)))))))))
  all_goals (refine cb_retI hret ?_ (by k_asm) (by k_asm); unfold rHex; (((try simp only [decide_eq_true_eq, decide_eq_false_iff_not] at *); (repeat' split) <;> omega)))
theorem rhex_ok (r : Rw) (w : World) (mean : ExcName → Option Value) (mg mb : Str → Option Value) (o : Int) (t : Tok) : CtV w mean mg mb 246 2 16 [.int o t] True (fun tt => .int (rHex o) tt) := by
  intro dp9 un9 gd9 cn9 cs9 a9 ccd9 cl9 outer9 A₀9 base9 h₀9 L9 m9 led9 s9 Q9 E9
  exact pick_all (ne := cx_some) (by with_unfolding_all rfl) (rhex_ok_g.go (pick_all (ne := ⟨(⟨#[], default⟩, 0, ⟨#[], default⟩)⟩) (by with_unfolding_all rfl) rhex_ok_t1)) { cx0 with w := w, mean := mean, mg := mg, mb := mb, dp := dp9, un := un9, gd := gd9, cn := cn9, cs := cs9, a := a9, ccd := ccd9, cl := cl9, outer := outer9, A₀ := A₀9, base := base9, h₀ := h₀9, L := L9, m := m9, led := led9, s := s9, Q := Q9, E := E9, i1 := o, t1 := t } 
theorem endT {h₀ : Heap} {L i : Addr} {o : Obj} {rest : (Str → Option Value) → Led → Prop} {s₁ : Shared} {h' : Heap} {tk : Nat} {m' : Str → Option Value} {news : Led} (F : Fr h₀ L h' m') (N : News h₀ L h' ((i, o) :: news)) (l : ∀ p ∈ news, p.1 < i) (r : rest m' news) :
    UnrEndW h₀ L s₁ [(i, o)] rest { s₁ with heap := h', toks := tk } :=
  ⟨h', tk, m', news, rfl, F, N, fun p hp q hq => by rw [List.mem_singleton.mp hq]; exact Nat.ne_of_lt (l p hp), r⟩
local macro_rules | `(tactic| walk_at "UnrEndW") => `(tactic| (refine endT (by assumption) (by assumption) (by assumption) ⟨trivial, ?_⟩))
def esign_ok_P (c : Cx) : Prop := ∀ (h1 : c.i1 < 128) (h2 : c.i1 < 65 ∨ 90 < c.i1) (h3 : c.i1 < 97 ∨ 122 < c.i1) , CtVc c 267 2 16 [.int c.i1 c.t1] True (fun tt => .int c.i1 tt)
@[irreducible] noncomputable def esign_ok_c : Cx := pick cx_some esign_ok_P
noncomputable def esign_ok_g : Cut (esign_ok_P esign_ok_c) (Heap × Addr × Heap) := by
  refine Cut.mk3 (G := ?G) fun H => ?main
  rotate_left
  unfold esign_ok_P CtVc
  k_fill
  intro h1 h2 h3 hB0 hF0 hX0 hN0 hT0 hk0 hd hu hpre hret
  refine wpAny_call ?_
  with_unfolding_all refine' code_def ?k1 ?k2 ?k3 ?k4 ?k5 ?kA ?kF ?kK ?k6 ?k7 ?k8 ?k9 ?kB ?_ ?c2 ?c3 ?c4 ?c5
  case kA => exact rfl
  case kF => exact rfl
  case kK => assumption
  case k1 => k_asm
  case k2 => k_asm
  case k3 => k_asm
  case k4 => k_asm
  case k5 => k_asm
  case k6 => k_is
  case k7 => k_is
  case k8 => exact Nat.lt_of_le_of_lt (Nat.le_add_right _ _) hd
  case k9 => exact BindsTo.of_eq (binds := [(Str.ofString "rune", .int esign_ok_c.i1 esign_ok_c.t1)]) rfl
  case c5 => decide
  case kB => exact locs rfl
  case c2 => exact rfl
  case c3 => exact rfl
  case c4 => exact rfl
  intro gH LH hH FGH FH NH BH XH TH
  (try dsimp only)
  (try k_lift BH)
  revert h1 h2 h3 hB0 hX0 hT0 hk0 hd hu hpre hret FGH FH NH BH XH TH
  exact H gH LH hH
@[irreducible] noncomputable def esign_ok_d : Heap × Addr × Heap := pick ⟨(⟨#[], default⟩, 0, ⟨#[], default⟩)⟩ esign_ok_g.G
theorem esign_ok_t1 : esign_ok_g.G esign_ok_d := by
  intro h1 h2 h3 hB0 hX0 hT0 hk0 hd hu hpre hret FGH FH NH BH XH TH
  (try k_fold)
  (repeat' (first | (k_unfold; (try dsimp only)) | walk1 | (dsimp only; walk1) | (leave1; (try dsimp only)) | (refine Held.go ?_; first | ((with_reducible show wpAny _ _ (call (Value.ref _) _) _ _ _); first | ((k_here; (k_dflt refine' ctv_use (rhex_ok ⟨_, rfl⟩ _ _ _ _ _ _) ?k1 ?k2 ?k3 ?k4 ?k5 ?kK ?kd ?ku ?kp ?_); (((case k1 => k_asm); (case k2 => k_asm); (case k3 => k_asm); (case k4 => k_asm); (case k5 => k_asm); (case kK => first | exact rfl | assumption); (case kd => first | exact room2 (by assumption) rfl | ktr_room); (case ku => first | exact unit2 (by assumption) rfl | ktr_units))); (case kp => trivial); (((intro t9 h9 tk9 F9 N9); (try dsimp only); (try k_fold)))))))))
  all_goals first
    | omega
    | (refine cb_retI hret ?_ (by k_asm) (by k_asm); rfl)
theorem esign_ok (r : Rw) (w : World) (mean : ExcName → Option Value) (mg mb : Str → Option Value) (o : Int) (t : Tok) (h1 : o < 128) (h2 : o < 65 ∨ 90 < o) (h3 : o < 97 ∨ 122 < o) : CtV w mean mg mb 267 2 16 [.int o t] True (fun tt => .int o tt) := by
  intro dp9 un9 gd9 cn9 cs9 a9 ccd9 cl9 outer9 A₀9 base9 h₀9 L9 m9 led9 s9 Q9 E9
  exact pick_all (ne := cx_some) (by with_unfolding_all rfl) (esign_ok_g.go (pick_all (ne := ⟨(⟨#[], default⟩, 0, ⟨#[], default⟩)⟩) (by with_unfolding_all rfl) esign_ok_t1)) { cx0 with w := w, mean := mean, mg := mg, mb := mb, dp := dp9, un := un9, gd := gd9, cn := cn9, cs := cs9, a := a9, ccd := ccd9, cl := cl9, outer := outer9, A₀ := A₀9, base := base9, h₀ := h₀9, L := L9, m := m9, led := led9, s := s9, Q := Q9, E := E9, i1 := o, t1 := t } h1 h2 h3
theorem etop_ok (r : Rw) (w : World) (mean : ExcName → Option Value) (mg mb : Str → Option Value) (rest : Led) (x dx : Addr) (k1 k2 k3 : Tok) (b : Array UInt8) (t : Tok) (lat : Bool) (i : Int) (ti : Tok) :
    CtN w mean mg mb 260 2 16 ((x, instObj 235 dx) :: (dx, dictOf (rdE w k1 k2 k3 b t lat i ti) 3) :: rest) [.ref x] True (fun v new => new = [] ∧ ∃ u top, v = .int top u ∧ 255 ≤ top) := by
  unfold CtN
  k_fill
  intros
  rename_i hd hu hpre hret
  (((refine wpAny_call ?_); k_dflt cell_enter))
  (repeat' (first | (k_unfold; (try dsimp only)) | walk1 | (dsimp only; walk1) | (leave1; (try dsimp only)) | (refine Held.go ?_; first | ((with_reducible show wpAny _ _ (call (Value.ref _) _) _ _ _); first | ((k_here; (k_dflt refine' ctv_use (rhex_ok ⟨_, rfl⟩ _ _ _ _ _ _) ?k1 ?k2 ?k3 ?k4 ?k5 ?kK ?kd ?ku ?kp ?_); (((case k1 => k_asm); (case k2 => k_asm); (case k3 => k_asm); (case k4 => k_asm); (case k5 => k_asm); (case kK => first | exact rfl | assumption); (case kd => first | exact room2 (by assumption) rfl | ktr_room); (case ku => first | exact unit2 (by assumption) rfl | ktr_units))); (case kp => trivial); (((intro t9 h9 tk9 F9 N9); (try dsimp only); (try k_fold)))))))))
  all_goals exact hret _ [] _ _ ⟨rfl, _, _, rfl, by decide⟩ (by k_asm) (by k_asm) (fun _ _ _ h => nomatch h)
theorem seg_one {ks : List Int} {i : Int} (h0 : 0 ≤ i) (h1 : i < (ks.length : Int)) : seg ks i (i + 1) = [ks.getD i.toNat 0] := by
  obtain ⟨n, rfl⟩ := Int.eq_ofNat_of_zero_le h0
  have hn : n < ks.length := by omega
  unfold seg
  rw [show ((n : Int) + 1).toNat = n + 1 by omega, Int.toNat_natCast, List.take_succ, List.drop_append, List.drop_eq_nil_of_le (by simp; omega)]
  rw [List.getElem?_eq_getElem hn]
  simp [List.getD, hn, Nat.min_eq_left (Nat.le_of_lt hn)]
theorem bytes_eq {p : Array UInt8} {q : List UInt8} {l : List Int} (h : KBw.bInts p = l) (e : (p.toList == q) = true) : l = KBw.bInts q.toArray := by
  rw [← h, ← beq_iff_eq.mp e]
def ehex_ok_P (c : Cx) : Prop := ∀ (hks : KBw.bInts c.b1 = c.k1) (hz : c.k1.length ≤ 100000) (h0 : 0 ≤ c.i1) (h1 : c.i1 + 1 < (c.k1.length : Int)) (e1 : c.k1.getD c.i1.toNat 0 = 48) (e2 : c.k1.getD (c.i1 + 1).toNat 0 = 48) , CtNc c 281 6 40 c.led [.bytes c.b1 c.t1, .int c.i1 c.t2, .int c.i2 c.t3] True (RetPair (0, c.i1 + 2))
@[irreducible] noncomputable def ehex_ok_c : Cx := pick cx_some ehex_ok_P
noncomputable def ehex_ok_g : Cut (ehex_ok_P ehex_ok_c) (Heap × Addr × Heap) := by
  refine Cut.mk3 (G := ?G) fun H => ?main
  rotate_left
  unfold ehex_ok_P CtNc
  k_fill
  intro hks hz h0 h1 e1 e2 hB0 hF0 hX0 hN0 hT0 hk0 hd hu hpre hret
  refine wpAny_call ?_
  with_unfolding_all refine' code_def ?k1 ?k2 ?k3 ?k4 ?k5 ?kA ?kF ?kK ?k6 ?k7 ?k8 ?k9 ?kB ?_ ?c2 ?c3 ?c4 ?c5
  case kA => exact rfl
  case kF => exact rfl
  case kK => assumption
  case k1 => k_asm
  case k2 => k_asm
  case k3 => k_asm
  case k4 => k_asm
  case k5 => k_asm
  case k6 => k_is
  case k7 => k_is
  case k8 => exact Nat.lt_of_le_of_lt (Nat.le_add_right _ _) hd
  case k9 => exact BindsTo.of_eq (binds := [(Str.ofString "octets", .bytes ehex_ok_c.b1 ehex_ok_c.t1), (Str.ofString "at", .int ehex_ok_c.i1 ehex_ok_c.t2), (Str.ofString "top", .int ehex_ok_c.i2 ehex_ok_c.t3)]) rfl
  case c5 => decide
  case kB => exact locs rfl
  case c2 => exact rfl
  case c3 => exact rfl
  case c4 => exact rfl
  intro gH LH hH FGH FH NH BH XH TH
  (try dsimp only)
  (try k_lift BH)
  revert hks hz h0 h1 e1 e2 hB0 hX0 hT0 hk0 hd hu hpre hret FGH FH NH BH XH TH
  exact H gH LH hH
@[irreducible] noncomputable def ehex_ok_d : Heap × Addr × Heap := pick ⟨(⟨#[], default⟩, 0, ⟨#[], default⟩)⟩ ehex_ok_g.G
theorem ehex_ok_t1 : ehex_ok_g.G ehex_ok_d := by
  intro hks hz h0 h1 e1 e2 hB0 hX0 hT0 hk0 hd hu hpre hret FGH FH NH BH XH TH
  have g1 : rHex (ehex_ok_c.k1.getD ehex_ok_c.i1.toNat 0) = 0 := by rw [e1]; rfl
  have g2 : rHex (ehex_ok_c.k1.getD (ehex_ok_c.i1 + 1).toNat 0) = 0 := by rw [e2]; rfl
  have calls := myCalls
  (try k_fold)
  (repeat' (first | (k_unfold; (try dsimp only)) | walk1 | (dsimp only; walk1) | (leave1; (try dsimp only)) | (refine Held.go ?_; first | ((with_reducible show wpAny _ _ (call (Value.ref _) _) _ _ _); first | ((k_here; (k_dflt refine' ctv_use (rhex_ok ⟨_, rfl⟩ _ _ _ _ _ _) ?k1 ?k2 ?k3 ?k4 ?k5 ?kK ?kd ?ku ?kp ?_); (((case k1 => k_asm); (case k2 => k_asm); (case k3 => k_asm); (case k4 => k_asm); (case k5 => k_asm); (case kK => first | exact rfl | assumption); (case kd => first | exact room2 (by assumption) rfl | ktr_room); (case ku => first | exact unit2 (by assumption) rfl | ktr_units))); (case kp => trivial); (((intro t9 h9 tk9 F9 N9); (try dsimp only); (try k_fold)))))))))
  · exfalso
    (rename KBw.bInts (KBy.picked _ _ _) = _ => hP)
    rw [seg_of (by omega) (by omega), seg_one (by omega) (by omega), e1] at hP
    have := bytes_eq hP (by assumption)
    revert this
    decide +kernel
  · ((refine endPair (by assumption) ?_ (by k_asm) (by k_asm) (by first | exact fun q hq => hq | (intro q hq; simp [hq])) (by first | assumption | exact of_allLt (by assumption))))
    rw [g1, g2]
    rfl
theorem ehex_ok (r : Rw) (w : World) (mean : ExcName → Option Value) (mg mb : Str → Option Value) (news : Led) (b : Array UInt8) (t : Tok) (i : Int) (ti : Tok) (top : Int) (tt : Tok) (ks : List Int) (hks : KBw.bInts b = ks) (hz : ks.length ≤ 100000) (h0 : 0 ≤ i) (h1 : i + 1 < (ks.length : Int)) (e1 : ks.getD i.toNat 0 = 48) (e2 : ks.getD (i + 1).toNat 0 = 48) :
    CtN w mean mg mb 281 6 40 news [.bytes b t, .int i ti, .int top tt] True (RetPair (0, i + 2)) := by
  intro dp9 un9 gd9 cn9 cs9 a9 ccd9 cl9 outer9 A₀9 base9 h₀9 L9 m9 s9 Q9 E9
  exact pick_all (ne := cx_some) (by with_unfolding_all rfl) (ehex_ok_g.go (pick_all (ne := ⟨(⟨#[], default⟩, 0, ⟨#[], default⟩)⟩) (by with_unfolding_all rfl) ehex_ok_t1)) { cx0 with w := w, mean := mean, mg := mg, mb := mb, dp := dp9, un := un9, gd := gd9, cn := cn9, cs := cs9, a := a9, ccd := ccd9, cl := cl9, outer := outer9, A₀ := A₀9, base := base9, h₀ := h₀9, L := L9, m := m9, s := s9, Q := Q9, E := E9, led := news, b1 := b, t1 := t, i1 := i, t2 := ti, i2 := top, t3 := tt, k1 := ks } hks hz h0 h1 e1 e2
-- part P3
theorem rsign_k (r : Rw) (w : World) (mean : ExcName → Option Value) (mg mb : Str → Option Value) (news : Led) (b : Array UInt8) (t : Tok) (i : Int) (t2 : Tok) (lat : Bool) (ks : List Int) (p : Int × Int) (hks : KBw.bInts b = ks) (hz : ks.length ≤ 100000) (h0 : 0 ≤ i) (h1 : i < (ks.length : Int)) (hs : signAt lat ks i = p) (hb : ¬ badAt lat ks i) :
    CtN w mean mg mb 175 8 80 news [.bytes b t, .int i t2, .bool lat] True (RetPair p) := by
  intro _ _ _ _ _ _ _ _ _ _ _ _ _ _ _ _ _ B F X N T hk hd hu hp hret
  exact rsign_ok r w mean mg mb news b t i t2 lat ks hks hz h0 h1 _ _ _ _ _ _ _ _ _ _ _ _ _ _ _ _ _ B F X N T hk hd hu hp (fun v new h' tk' hR => hret v new h' tk' (hs ▸ hR.2)) (fun _ _ _ _ _ _ _ _ _ _ _ hP => absurd hP.1 hb)
def escA_ok_P (c : Cx) : Prop := ∀ (hks : KBw.bInts c.b1 = c.k1) (hz : c.k1.length ≤ 100000) (h0 : 0 ≤ c.i1) (h1 : c.i1 + 1 < (c.k1.length : Int)) (hx : @LT.lt Nat _ c.a2 c.a1) (hr : ∀ p ∈ c.led, p.1 ≠ c.a2) (hs : signAt c.lat c.k1 (c.i1 + 1) = (c.i2, 1)) (hb : ¬ badAt c.lat c.k1 (c.i1 + 1)) (c0 : 0 ≤ c.i2) (c1 : c.i2 < 128) (c2 : c.i2 < 48 ∨ 57 < c.i2) (c3 : c.i2 < 65 ∨ 90 < c.i2) (c4 : c.i2 < 97 ∨ 122 < c.i2) , CtGc c 253 16 160 ((c.a1, instObj 235 c.a2) :: (c.a2, dictOf (rdE c.w c.t1 c.t2 c.t3 c.b1 c.t4 c.lat c.i1 c.t5) 3) :: c.led) c.led [.ref c.a1] True (fun v led => ∃ ti', led = ((c.a1, instObj 235 c.a2) :: (c.a2, dictOf (rdE c.w c.t1 c.t2 c.t3 c.b1 c.t4 c.lat (c.i1 + 1 + 1) ti') 3) :: c.led) ∧ ∃ u, v = .int c.i2 u) 60 (fun _ => False)
@[irreducible] noncomputable def escA_ok_c : Cx := pick cx_some escA_ok_P
noncomputable def escA_ok_g : Cut (escA_ok_P escA_ok_c) (Heap × Addr × Heap) := by
  refine Cut.mk3 (G := ?G) fun H => ?main
  rotate_left
  unfold escA_ok_P CtGc
  k_fill
  intro hks hz h0 h1 hx hr hs hb c0 c1 c2 c3 c4 hB0 hF0 hX0 hN0 hT0 hk0 hd hu hpre hret hexc
  refine wpAny_call ?_
  with_unfolding_all refine' code_def ?k1 ?k2 ?k3 ?k4 ?k5 ?kA ?kF ?kK ?k6 ?k7 ?k8 ?k9 ?kB ?_ ?c2 ?c3 ?c4 ?c5
  case kA => exact rfl
  case kF => exact rfl
  case kK => assumption
  case k1 => k_asm
  case k2 => k_asm
  case k3 => k_asm
  case k4 => k_asm
  case k5 => k_asm
  case k6 => k_is
  case k7 => k_is
  case k8 => exact Nat.lt_of_le_of_lt (Nat.le_add_right _ _) hd
  case k9 => exact BindsTo.of_eq (binds := [(Str.ofString "reader", .ref escA_ok_c.a1)]) rfl
  case c5 => decide
  case kB => exact locs rfl
  case c2 => exact rfl
  case c3 => exact rfl
  case c4 => exact rfl
  intro gH LH hH FGH FH NH BH XH TH
  (try dsimp only)
  (try k_lift BH)
  revert hks hz h0 h1 hx hr hs hb c0 c1 c2 c3 c4 hB0 hX0 hT0 hk0 hd hu hpre hret hexc FGH FH NH BH XH TH
  exact H gH LH hH
@[irreducible] noncomputable def escA_ok_d : Heap × Addr × Heap := pick ⟨(⟨#[], default⟩, 0, ⟨#[], default⟩)⟩ escA_ok_g.G
theorem escA_ok_t1 : escA_ok_g.G escA_ok_d := by
  intro hks hz h0 h1 hx hr hs hb c0 c1 c2 c3 c4 hB0 hX0 hT0 hk0 hd hu hpre hret hexc FGH FH NH BH XH TH
  have calls := myCalls
  (try k_fold)
  (repeat' (first | (k_unfold; (try dsimp only)) | walk1 | (dsimp only; walk1) | (leave1; (try dsimp only)) | (refine Held.go ?_; first | ((with_reducible show wpAny _ _ (call (Value.ref _) _) _ _ _); first | ((k_here; (k_dflt refine' ctn_use (rsign_k ⟨_, rfl⟩ _ _ _ _ _ _ _ _ _ _ _ (_, _) ?hks ?hz ?h0 ?h1 ?hs ?hb) ?k1 ?k2 ?k3 ?k4 ?k5 ?kK ?kd ?ku ?kp ?_); (case hks => kba_ints); (case hz => first | assumption | omega); (case h0 => first | assumption | omega); (case h1 => first | assumption | omega); (case hs => assumption); (case hb => assumption); (((case k1 => k_asm); (case k2 => k_asm); (case k3 => k_asm); (case k4 => k_asm); (case k5 => k_asm); (case kK => first | exact rfl | assumption); (case kd => first | exact room2 (by assumption) rfl | ktr_room); (case ku => first | exact unit2 (by assumption) rfl | ktr_units))); (case kp => trivial); (intro v9 new9 h9 tk9 R9 F9 N9 l9); (obtain ⟨D9, u9, u9', e9, e9'⟩ := R9); (subst e9 e9'); (try dsimp only); (try simp only [List.singleton_append, List.cons_append, List.nil_append] at N9); (replace l9 := fun p hp => l9 p hp _ (List.mem_singleton.mpr rfl)); (k_lt l9); (try k_fold))) | ((k_here; (k_dflt refine' ctn_use (ctn_mem (etop_ok ⟨_, rfl⟩ _ _ _ _ _ _ _ _ _ _ _ _ _ _ _) ?m1 ?m2) ?k1 ?k2 ?k3 ?k4 ?k5 ?kK ?kd ?ku ?kp ?_); (((case k1 => k_asm); (case k2 => k_asm); (case k3 => k_asm); (case k4 => k_asm); (case k5 => k_asm); (case kK => first | exact rfl | assumption); (case kd => first | exact room2 (by assumption) rfl | ktr_room); (case ku => first | exact unit2 (by assumption) rfl | ktr_units))); (case m1 => k_mem); (case m2 => k_mem); (case kp => trivial); (intro v9 new9 h9 tk9 R9 F9 N9 l9); (obtain ⟨q9, u9, top9, q9', t9⟩ := R9); (subst q9 q9'); (try dsimp only); (try simp only [List.singleton_append, List.cons_append, List.nil_append] at N9); clear l9; (try k_fold))) | ((k_here; (k_dflt refine' ctv_use (esign_ok ⟨_, rfl⟩ _ _ _ _ _ _ ?h1 ?h2 ?h3) ?k1 ?k2 ?k3 ?k4 ?k5 ?kK ?kd ?ku ?kp ?_); (((case k1 => k_asm); (case k2 => k_asm); (case k3 => k_asm); (case k4 => k_asm); (case k5 => k_asm); (case kK => first | exact rfl | assumption); (case kd => first | exact room2 (by assumption) rfl | ktr_room); (case ku => first | exact unit2 (by assumption) rfl | ktr_units))); (case h1 => first | assumption | omega); (case h2 => first | assumption | omega); (case h3 => first | assumption | omega); (case kp => trivial); (((intro t9 h9 tk9 F9 N9); (try dsimp only); (try k_fold))))) | ((k_here; (k_dflt refine' ctn_use (ehex_ok ⟨_, rfl⟩ _ _ _ _ _ _ _ _ _ _ _ _ ?hks ?hz ?h0 ?h1 ?e1 ?e2) ?k1 ?k2 ?k3 ?k4 ?k5 ?kK ?kd ?ku ?kp ?_); (case hks => kba_ints); (case hz => first | assumption | omega); (case h0 => first | assumption | omega); (case h1 => first | assumption | omega); (case e1 => assumption); (case e2 => assumption); (((case k1 => k_asm); (case k2 => k_asm); (case k3 => k_asm); (case k4 => k_asm); (case k5 => k_asm); (case kK => first | exact rfl | assumption); (case kd => first | exact room2 (by assumption) rfl | ktr_room); (case ku => first | exact unit2 (by assumption) rfl | ktr_units))); (case kp => trivial); (intro v9 new9 h9 tk9 R9 F9 N9 l9); (obtain ⟨D9, u9, u9', e9, e9'⟩ := R9); (subst e9 e9'); (try dsimp only); (try simp only [List.singleton_append, List.cons_append, List.nil_append] at N9); (replace l9 := fun p hp => l9 p hp _ (List.mem_singleton.mpr rfl)); (k_lt l9); (try k_fold)))))))
  all_goals (
    first | (exfalso; omega) | skip)
  all_goals (
    (rename News _ _ _ _ => N)
    first
      | exact hret _ _ _ _ ⟨_, rfl, _, rfl⟩ (by k_asm) (fun q hq => N q (.tail _ (.tail _ hq)))
      | exact hret _ _ _ _ ⟨_, rfl, _, rfl⟩ (by k_asm) (fun q hq => N q (.tail _ (.tail _ (.tail _ hq)))))
theorem escA_ok (r : Rw) (w : World) (mean : ExcName → Option Value) (mg mb : Str → Option Value) (rest : Led) (x dx : Addr) (k1 k2 k3 : Tok) (b : Array UInt8) (t : Tok) (lat : Bool) (i : Int) (ti : Tok) (ks : List Int) (hks : KBw.bInts b = ks) (hz : ks.length ≤ 100000) (h0 : 0 ≤ i) (h1 : i + 1 < (ks.length : Int)) (hx : @LT.lt Nat _ dx x) (hr : ∀ p ∈ rest, p.1 ≠ dx)
    (c : Int) (hs : signAt lat ks (i + 1) = (c, 1)) (hb : ¬ badAt lat ks (i + 1)) (c0 : 0 ≤ c) (c1 : c < 128) (c2 : c < 48 ∨ 57 < c) (c3 : c < 65 ∨ 90 < c) (c4 : c < 97 ∨ 122 < c) :
    CtG w mean mg mb 253 16 160 ((x, instObj 235 dx) :: (dx, dictOf (rdE w k1 k2 k3 b t lat i ti) 3) :: rest) rest [.ref x] True (fun v led => ∃ ti', led = ((x, instObj 235 dx) :: (dx, dictOf (rdE w k1 k2 k3 b t lat (i + 1 + 1) ti') 3) :: rest) ∧ ∃ u, v = .int c u) 60 (fun _ => False) := by
  intro dp9 un9 gd9 cn9 cs9 a9 ccd9 cl9 outer9 A₀9 base9 h₀9 L9 m9 s9 Q9 E9
  exact pick_all (ne := cx_some) (by with_unfolding_all rfl) (escA_ok_g.go (pick_all (ne := ⟨(⟨#[], default⟩, 0, ⟨#[], default⟩)⟩) (by with_unfolding_all rfl) escA_ok_t1)) { cx0 with w := w, mean := mean, mg := mg, mb := mb, dp := dp9, un := un9, gd := gd9, cn := cn9, cs := cs9, a := a9, ccd := ccd9, cl := cl9, outer := outer9, A₀ := A₀9, base := base9, h₀ := h₀9, L := L9, m := m9, s := s9, Q := Q9, E := E9, led := rest, a1 := x, a2 := dx, t1 := k1, t2 := k2, t3 := k3, b1 := b, t4 := t, lat := lat, i1 := i, t5 := ti, k1 := ks, i2 := c } hks hz h0 h1 hx hr hs hb c0 c1 c2 c3 c4
def escB_ok_P (c : Cx) : Prop := ∀ (hks : KBw.bInts c.b1 = c.k1) (hz : c.k1.length ≤ 100000) (h0 : 0 ≤ c.i1) (h1 : c.i1 + 1 < (c.k1.length : Int)) (hx : @LT.lt Nat _ c.a2 c.a1) (hr : ∀ p ∈ c.led, p.1 ≠ c.a2) (hs : signAt c.lat c.k1 (c.i1 + 1) = (120, 1)) (hb : ¬ badAt c.lat c.k1 (c.i1 + 1)) (h2 : c.i1 + 1 + 1 + 1 < (c.k1.length : Int)) (e1 : c.k1.getD (c.i1 + 1 + 1).toNat 0 = 48) (e2 : c.k1.getD (c.i1 + 1 + 1 + 1).toNat 0 = 48) , CtGc c 253 16 160 ((c.a1, instObj 235 c.a2) :: (c.a2, dictOf (rdE c.w c.t1 c.t2 c.t3 c.b1 c.t4 c.lat c.i1 c.t5) 3) :: c.led) c.led [.ref c.a1] True (fun v led => ∃ ti', led = ((c.a1, instObj 235 c.a2) :: (c.a2, dictOf (rdE c.w c.t1 c.t2 c.t3 c.b1 c.t4 c.lat (c.i1 + 1 + 1 + 2) ti') 3) :: c.led) ∧ ∃ u, v = .int 0 u) 60 (fun _ => False)
@[irreducible] noncomputable def escB_ok_c : Cx := pick cx_some escB_ok_P
noncomputable def escB_ok_g : Cut (escB_ok_P escB_ok_c) (Heap × Addr × Heap) := by
  refine Cut.mk3 (G := ?G) fun H => ?main
  rotate_left
  unfold escB_ok_P CtGc
  k_fill
  intro hks hz h0 h1 hx hr hs hb h2 e1 e2 hB0 hF0 hX0 hN0 hT0 hk0 hd hu hpre hret hexc
  refine wpAny_call ?_
  with_unfolding_all refine' code_def ?k1 ?k2 ?k3 ?k4 ?k5 ?kA ?kF ?kK ?k6 ?k7 ?k8 ?k9 ?kB ?_ ?c2 ?c3 ?c4 ?c5
  case kA => exact rfl
  case kF => exact rfl
  case kK => assumption
  case k1 => k_asm
  case k2 => k_asm
  case k3 => k_asm
  case k4 => k_asm
  case k5 => k_asm
  case k6 => k_is
  case k7 => k_is
  case k8 => exact Nat.lt_of_le_of_lt (Nat.le_add_right _ _) hd
  case k9 => exact BindsTo.of_eq (binds := [(Str.ofString "reader", .ref escB_ok_c.a1)]) rfl
  case c5 => decide
  case kB => exact locs rfl
  case c2 => exact rfl
  case c3 => exact rfl
  case c4 => exact rfl
  intro gH LH hH FGH FH NH BH XH TH
  (try dsimp only)
  (try k_lift BH)
  revert hks hz h0 h1 hx hr hs hb h2 e1 e2 hB0 hX0 hT0 hk0 hd hu hpre hret hexc FGH FH NH BH XH TH
  exact H gH LH hH
@[irreducible] noncomputable def escB_ok_d : Heap × Addr × Heap := pick ⟨(⟨#[], default⟩, 0, ⟨#[], default⟩)⟩ escB_ok_g.G
theorem escB_ok_t1 : escB_ok_g.G escB_ok_d := by
  intro hks hz h0 h1 hx hr hs hb h2 e1 e2 hB0 hX0 hT0 hk0 hd hu hpre hret hexc FGH FH NH BH XH TH
  have calls := myCalls
  (try k_fold)
  (repeat' (first | (k_unfold; (try dsimp only)) | walk1 | (dsimp only; walk1) | (leave1; (try dsimp only)) | (refine Held.go ?_; first | ((with_reducible show wpAny _ _ (call (Value.ref _) _) _ _ _); first | ((k_here; (k_dflt refine' ctn_use (rsign_k ⟨_, rfl⟩ _ _ _ _ _ _ _ _ _ _ _ (_, _) ?hks ?hz ?h0 ?h1 ?hs ?hb) ?k1 ?k2 ?k3 ?k4 ?k5 ?kK ?kd ?ku ?kp ?_); (case hks => kba_ints); (case hz => first | assumption | omega); (case h0 => first | assumption | omega); (case h1 => first | assumption | omega); (case hs => assumption); (case hb => assumption); (((case k1 => k_asm); (case k2 => k_asm); (case k3 => k_asm); (case k4 => k_asm); (case k5 => k_asm); (case kK => first | exact rfl | assumption); (case kd => first | exact room2 (by assumption) rfl | ktr_room); (case ku => first | exact unit2 (by assumption) rfl | ktr_units))); (case kp => trivial); (intro v9 new9 h9 tk9 R9 F9 N9 l9); (obtain ⟨D9, u9, u9', e9, e9'⟩ := R9); (subst e9 e9'); (try dsimp only); (try simp only [List.singleton_append, List.cons_append, List.nil_append] at N9); (replace l9 := fun p hp => l9 p hp _ (List.mem_singleton.mpr rfl)); (k_lt l9); (try k_fold))) | ((k_here; (k_dflt refine' ctn_use (ctn_mem (etop_ok ⟨_, rfl⟩ _ _ _ _ _ _ _ _ _ _ _ _ _ _ _) ?m1 ?m2) ?k1 ?k2 ?k3 ?k4 ?k5 ?kK ?kd ?ku ?kp ?_); (((case k1 => k_asm); (case k2 => k_asm); (case k3 => k_asm); (case k4 => k_asm); (case k5 => k_asm); (case kK => first | exact rfl | assumption); (case kd => first | exact room2 (by assumption) rfl | ktr_room); (case ku => first | exact unit2 (by assumption) rfl | ktr_units))); (case m1 => k_mem); (case m2 => k_mem); (case kp => trivial); (intro v9 new9 h9 tk9 R9 F9 N9 l9); (obtain ⟨q9, u9, top9, q9', t9⟩ := R9); (subst q9 q9'); (try dsimp only); (try simp only [List.singleton_append, List.cons_append, List.nil_append] at N9); clear l9; (try k_fold))) | ((k_here; (k_dflt refine' ctv_use (esign_ok ⟨_, rfl⟩ _ _ _ _ _ _ ?h1 ?h2 ?h3) ?k1 ?k2 ?k3 ?k4 ?k5 ?kK ?kd ?ku ?kp ?_); (((case k1 => k_asm); (case k2 => k_asm); (case k3 => k_asm); (case k4 => k_asm); (case k5 => k_asm); (case kK => first | exact rfl | assumption); (case kd => first | exact room2 (by assumption) rfl | ktr_room); (case ku => first | exact unit2 (by assumption) rfl | ktr_units))); (case h1 => first | assumption | omega); (case h2 => first | assumption | omega); (case h3 => first | assumption | omega); (case kp => trivial); (((intro t9 h9 tk9 F9 N9); (try dsimp only); (try k_fold))))) | ((k_here; (k_dflt refine' ctn_use (ehex_ok ⟨_, rfl⟩ _ _ _ _ _ _ _ _ _ _ _ _ ?hks ?hz ?h0 ?h1 ?e1 ?e2) ?k1 ?k2 ?k3 ?k4 ?k5 ?kK ?kd ?ku ?kp ?_); (case hks => kba_ints); (case hz => first | assumption | omega); (case h0 => first | assumption | omega); (case h1 => first | assumption | omega); (case e1 => assumption); (case e2 => assumption); (((case k1 => k_asm); (case k2 => k_asm); (case k3 => k_asm); (case k4 => k_asm); (case k5 => k_asm); (case kK => first | exact rfl | assumption); (case kd => first | exact room2 (by assumption) rfl | ktr_room); (case ku => first | exact unit2 (by assumption) rfl | ktr_units))); (case kp => trivial); (intro v9 new9 h9 tk9 R9 F9 N9 l9); (obtain ⟨D9, u9, u9', e9, e9'⟩ := R9); (subst e9 e9'); (try dsimp only); (try simp only [List.singleton_append, List.cons_append, List.nil_append] at N9); (replace l9 := fun p hp => l9 p hp _ (List.mem_singleton.mpr rfl)); (k_lt l9); (try k_fold)))))))
  all_goals (
    first | (exfalso; omega) | skip)
  all_goals (
    (rename News _ _ _ _ => N)
    first
      | exact hret _ _ _ _ ⟨_, rfl, _, rfl⟩ (by k_asm) (fun q hq => N q (.tail _ (.tail _ hq)))
      | exact hret _ _ _ _ ⟨_, rfl, _, rfl⟩ (by k_asm) (fun q hq => N q (.tail _ (.tail _ (.tail _ hq)))))
theorem escB_ok (r : Rw) (w : World) (mean : ExcName → Option Value) (mg mb : Str → Option Value) (rest : Led) (x dx : Addr) (k1 k2 k3 : Tok) (b : Array UInt8) (t : Tok) (lat : Bool) (i : Int) (ti : Tok) (ks : List Int) (hks : KBw.bInts b = ks) (hz : ks.length ≤ 100000) (h0 : 0 ≤ i) (h1 : i + 1 < (ks.length : Int)) (hx : @LT.lt Nat _ dx x) (hr : ∀ p ∈ rest, p.1 ≠ dx)
    (hs : signAt lat ks (i + 1) = (120, 1)) (hb : ¬ badAt lat ks (i + 1)) (h2 : i + 1 + 1 + 1 < (ks.length : Int)) (e1 : ks.getD (i + 1 + 1).toNat 0 = 48) (e2 : ks.getD (i + 1 + 1 + 1).toNat 0 = 48) :
    CtG w mean mg mb 253 16 160 ((x, instObj 235 dx) :: (dx, dictOf (rdE w k1 k2 k3 b t lat i ti) 3) :: rest) rest [.ref x] True (fun v led => ∃ ti', led = ((x, instObj 235 dx) :: (dx, dictOf (rdE w k1 k2 k3 b t lat (i + 1 + 1 + 2) ti') 3) :: rest) ∧ ∃ u, v = .int 0 u) 60 (fun _ => False) := by
  intro dp9 un9 gd9 cn9 cs9 a9 ccd9 cl9 outer9 A₀9 base9 h₀9 L9 m9 s9 Q9 E9
  exact pick_all (ne := cx_some) (by with_unfolding_all rfl) (escB_ok_g.go (pick_all (ne := ⟨(⟨#[], default⟩, 0, ⟨#[], default⟩)⟩) (by with_unfolding_all rfl) escB_ok_t1)) { cx0 with w := w, mean := mean, mg := mg, mb := mb, dp := dp9, un := un9, gd := gd9, cn := cn9, cs := cs9, a := a9, ccd := ccd9, cl := cl9, outer := outer9, A₀ := A₀9, base := base9, h₀ := h₀9, L := L9, m := m9, s := s9, Q := Q9, E := E9, led := rest, a1 := x, a2 := dx, t1 := k1, t2 := k2, t3 := k3, b1 := b, t4 := t, lat := lat, i1 := i, t5 := ti, k1 := ks } hks hz h0 h1 hx hr hs hb h2 e1 e2
-- part U1
def enc (r : Int) : List Int :=
  if r < 128 then [r] else if r < 2048 then [192 + r / 64, 128 + r % 64] else if r < 65536 then [224 + r / 64 / 64, 128 + r / 64 % 64, 128 + r % 64]
  else [240 + r / 64 / 64 / 64, 128 + r / 64 / 64 % 64, 128 + r / 64 % 64, 128 + r % 64]
theorem rlen_k (r : Rw) (w : World) (mean : ExcName → Option Value) (mg mb : Str → Option Value) (o : Int) (t : Tok) (k : Int) (h : rLen o = k) : CtV w mean mg mb 128 2 16 [.int o t] True (fun tt => .int k tt) := by
  subst h
  exact rlen_ok r w mean mg mb o t
theorem rlead_k (r : Rw) (w : World) (mean : ExcName → Option Value) (mg mb : Str → Option Value) (o : Int) (t : Tok) (h2 : 2 ≤ o ∧ o ≤ 4) (k : Int) (h : rLead o = k) : CtV w mean mg mb 135 2 16 [.int o t] True (fun tt => .int k tt) := by
  subst h
  intro _ _ _ _ _ _ _ _ _ _ _ _ _ _ _ _ _ _ B F X N T hk hd hu _ hret
  exact rlead_ok r w mean mg mb o t _ _ _ _ _ _ _ _ _ _ _ _ _ _ _ _ _ _ B F X N T hk hd hu h2 hret
theorem rlead2 (r : Rw) (w : World) (mean : ExcName → Option Value) (mg mb : Str → Option Value) (t : Tok) : CtV w mean mg mb 135 2 16 [.int 2 t] True (fun tt => .int 192 tt) := rlead_k r w mean mg mb 2 t (by decide) 192 rfl
theorem rlead3 (r : Rw) (w : World) (mean : ExcName → Option Value) (mg mb : Str → Option Value) (t : Tok) : CtV w mean mg mb 135 2 16 [.int 3 t] True (fun tt => .int 224 tt) := rlead_k r w mean mg mb 3 t (by decide) 224 rfl
theorem rlead4 (r : Rw) (w : World) (mean : ExcName → Option Value) (mg mb : Str → Option Value) (t : Tok) : CtV w mean mg mb 135 2 16 [.int 4 t] True (fun tt => .int 240 tt) := rlead_k r w mean mg mb 4 t (by decide) 240 rfl
def conts : Int → Nat → List Int
  | _, 0 => []
  | o, n + 1 => (128 + o % 64) :: conts (o / 64) n
def dropC : Int → Nat → Int
  | o, 0 => o
  | o, n + 1 => dropC (o / 64) n
theorem conts_snoc : ∀ (o : Int) (n : Nat), conts o (n + 1) = conts o n ++ [128 + dropC o n % 64]
  | o, 0 => rfl
  | o, n + 1 => by
    show (128 + o % 64) :: conts (o / 64) (n + 1) = ((128 + o % 64) :: conts (o / 64) n) ++ [128 + dropC (o / 64) n % 64]
    rw [conts_snoc (o / 64) n]
    rfl
theorem conts_length : ∀ (o : Int) (n : Nat), (conts o n).length = n
  | _, 0 => rfl
  | o, n + 1 => by rw [conts, List.length_cons, conts_length]
theorem fdiv64 (x : Int) : x.fdiv 64 = x / 64 := Int.fdiv_eq_ediv_of_nonneg x (by decide)
theorem fmod64 (x : Int) : x.fmod 64 = x % 64 := Int.fmod_eq_emod_of_nonneg x (by decide)
theorem dropC_succ : ∀ (o : Int) (n : Nat), dropC o (n + 1) = dropC o n / 64
  | o, 0 => rfl
  | o, n + 1 => dropC_succ (o / 64) n
theorem rlen_cases {o : Int} (h : rLen o ≠ 1) : rLen o = 2 ∨ rLen o = 3 ∨ rLen o = 4 := by
  revert h
  unfold rLen
  (repeat' split) <;> intro h <;> first | exact absurd rfl h | simp
local macro_rules | `(tactic| walk_at "call builtin:list.append") => `(tactic| (k_here; (k_dflt refine' append_K ?k1 ?k2 ?k3 ?_ ?z); (case k1 => k_asm); (case k2 => k_asm); (case k3 => exact Upd.head (by assumption)); (case z => first | exact lit_fits rfl | with_reducible assumption | (with_reducible refine push_fits ?_; omega)); intro h7 F7 N7))
local macro_rules | `(tactic| size_fits) => `(tactic| first | (with_reducible refine lit_fits ?_; exact rfl) | with_reducible assumption | (with_reducible refine push_fits ?_; omega))
theorem rlen_b2 {o : Int} (h : rLen o = 2) : 128 ≤ o ∧ o < 2048 := by
  revert h; unfold rLen; (repeat' split) <;> omega
theorem rlen_b3 {o : Int} (h : rLen o = 3) : 2048 ≤ o ∧ o < 65536 := by
  revert h; unfold rLen; (repeat' split) <;> omega
theorem rlen_b4 {o : Int} (h : rLen o = 4) : 65536 ≤ o := by
  revert h; unfold rLen; (repeat' split) <;> omega
theorem ints3 {a b c : Int} (a0 : 0 ≤ a) (a1 : a < 256) (b0 : 0 ≤ b) (b1 : b < 256) (c0 : 0 ≤ c) (c1 : c < 256) : KBw.bInts #[a.toNat.toUInt8, b.toNat.toUInt8, c.toNat.toUInt8] = [a, b, c] := by
  show [((a.toNat.toUInt8.toNat : Nat) : Int), ((b.toNat.toUInt8.toNat : Nat) : Int), ((c.toNat.toUInt8.toNat : Nat) : Int)] = [a, b, c]
  rw [oct_back a0 a1, oct_back b0 b1, oct_back c0 c1]
theorem ints4 {a b c d : Int} (a0 : 0 ≤ a) (a1 : a < 256) (b0 : 0 ≤ b) (b1 : b < 256) (c0 : 0 ≤ c) (c1 : c < 256) (d0 : 0 ≤ d) (d1 : d < 256) : KBw.bInts #[a.toNat.toUInt8, b.toNat.toUInt8, c.toNat.toUInt8, d.toNat.toUInt8] = [a, b, c, d] := by
  show [((a.toNat.toUInt8.toNat : Nat) : Int), ((b.toNat.toUInt8.toNat : Nat) : Int), ((c.toNat.toUInt8.toNat : Nat) : Int), ((d.toNat.toUInt8.toNat : Nat) : Int)] = [a, b, c, d]
  rw [oct_back a0 a1, oct_back b0 b1, oct_back c0 c1, oct_back d0 d1]
theorem ne_all {news : Led} {D : Addr} (l1 : ∀ p ∈ news, p.1 < D) : ∀ p ∈ news, p.1 ≠ D := fun p hp => Nat.ne_of_lt (l1 p hp)
theorem roct_1 (r : Rw) (w : World) (mean : ExcName → Option Value) (mg mb : Str → Option Value) (news : Led) (o : Int) (t : Tok) (h0 : 0 ≤ o) (h1 : o < 128) (hl : rLen o = 1) :
    CtN w mean mg mb 142 4 40 news [.int o t] True (fun v new => new = [] ∧ ∃ b' t', v = .bytes b' t' ∧ KBw.bInts b' = enc o) := by
  unfold CtN
  k_fill
  intros
  rename_i hd hu hpre hret
  have calls := myCalls
  (((refine wpAny_call ?_); k_dflt cell_enter))
  (repeat' (first | (k_unfold; (try dsimp only)) | walk1 | (dsimp only; walk1) | (leave1; (try dsimp only)) | (refine Held.go ?_; first | ((with_reducible show wpAny _ _ (call (Value.ref _) _) _ _ _); first | ((k_here; (k_dflt refine' ctv_use (rlen_k ⟨_, rfl⟩ _ _ _ _ _ _ _ ?hl) ?k1 ?k2 ?k3 ?k4 ?k5 ?kK ?kd ?ku ?kp ?_); (case hl => assumption); (((case k1 => k_asm); (case k2 => k_asm); (case k3 => k_asm); (case k4 => k_asm); (case k5 => k_asm); (case kK => first | exact rfl | assumption); (case kd => first | exact room2 (by assumption) rfl | ktr_room); (case ku => first | exact unit2 (by assumption) rfl | ktr_units))); (case kp => trivial); (((intro t9 h9 tk9 F9 N9); (try dsimp only); (try k_fold))))) | ((k_here; (k_dflt refine' ctv_use (rlead2 ⟨_, rfl⟩ _ _ _ _ _) ?k1 ?k2 ?k3 ?k4 ?k5 ?kK ?kd ?ku ?kp ?_); (((case k1 => k_asm); (case k2 => k_asm); (case k3 => k_asm); (case k4 => k_asm); (case k5 => k_asm); (case kK => first | exact rfl | assumption); (case kd => first | exact room2 (by assumption) rfl | ktr_room); (case ku => first | exact unit2 (by assumption) rfl | ktr_units))); (case kp => trivial); (((intro t9 h9 tk9 F9 N9); (try dsimp only); (try k_fold))))) | ((k_here; (k_dflt refine' ctv_use (rlead3 ⟨_, rfl⟩ _ _ _ _ _) ?k1 ?k2 ?k3 ?k4 ?k5 ?kK ?kd ?ku ?kp ?_); (((case k1 => k_asm); (case k2 => k_asm); (case k3 => k_asm); (case k4 => k_asm); (case k5 => k_asm); (case kK => first | exact rfl | assumption); (case kd => first | exact room2 (by assumption) rfl | ktr_room); (case ku => first | exact unit2 (by assumption) rfl | ktr_units))); (case kp => trivial); (((intro t9 h9 tk9 F9 N9); (try dsimp only); (try k_fold))))) | ((k_here; (k_dflt refine' ctv_use (rlead4 ⟨_, rfl⟩ _ _ _ _ _) ?k1 ?k2 ?k3 ?k4 ?k5 ?kK ?kd ?ku ?kp ?_); (((case k1 => k_asm); (case k2 => k_asm); (case k3 => k_asm); (case k4 => k_asm); (case k5 => k_asm); (case kK => first | exact rfl | assumption); (case kd => first | exact room2 (by assumption) rfl | ktr_room); (case ku => first | exact unit2 (by assumption) rfl | ktr_units))); (case kp => trivial); (((intro t9 h9 tk9 F9 N9); (try dsimp only); (try k_fold))))) | ((k_here; (k_dflt refine' ctv_use (rlen_ok ⟨_, rfl⟩ _ _ _ _ _ _) ?k1 ?k2 ?k3 ?k4 ?k5 ?kK ?kd ?ku ?kp ?_); (((case k1 => k_asm); (case k2 => k_asm); (case k3 => k_asm); (case k4 => k_asm); (case k5 => k_asm); (case kK => first | exact rfl | assumption); (case kd => first | exact room2 (by assumption) rfl | ktr_room); (case ku => first | exact unit2 (by assumption) rfl | ktr_units))); (case kp => trivial); (((intro t9 h9 tk9 F9 N9); (try dsimp only); (try k_fold))))) | ((k_here; (k_dflt refine' ctv_use (rlead_ok ⟨_, rfl⟩ _ _ _ _ _ _) ?k1 ?k2 ?k3 ?k4 ?k5 ?kK ?kd ?ku ?kp ?_); (((case k1 => k_asm); (case k2 => k_asm); (case k3 => k_asm); (case k4 => k_asm); (case k5 => k_asm); (case kK => first | exact rfl | assumption); (case kd => first | exact room2 (by assumption) rfl | ktr_room); (case ku => first | exact unit2 (by assumption) rfl | ktr_units))); (case kp => first | omega | (exact flen_lead (by assumption) (by assumption)) | (constructor <;> omega)); (((intro t9 h9 tk9 F9 N9); (try dsimp only); (try k_fold)))))))))
  refine hret _ [] _ _ ⟨rfl, _, _, rfl, ?e⟩ ?f ?n (fun _ _ _ h => nomatch h)
  case f => k_asm
  case n => first | k_asm | exact News_tl (by k_asm)
  case e =>
    rw [ints1 h0 (by omega)]
    unfold enc
    rw [if_pos h1]
def roct_n_P (c : Cx) : Prop := ∀ (h0 : 128 ≤ c.i1) (h1 : c.i1 < 1114112) (h9 : rLen c.i1 ≠ 1) , CtNc c 142 4 40 c.led [.int c.i1 c.t1] True (fun v new => new = [] ∧ ∃ b' t', v = .bytes b' t' ∧ KBw.bInts b' = enc c.i1)
@[irreducible] noncomputable def roct_n_c : Cx := pick cx_some roct_n_P
noncomputable def roct_n_g : Cut (roct_n_P roct_n_c) (Heap × Addr × Heap) := by
  refine Cut.mk3 (G := ?G) fun H => ?main
  rotate_left
  unfold roct_n_P CtNc
  k_fill
  intro h0 h1 h9 hB0 hF0 hX0 hN0 hT0 hk0 hd hu hpre hret
  refine wpAny_call ?_
  with_unfolding_all refine' code_def ?k1 ?k2 ?k3 ?k4 ?k5 ?kA ?kF ?kK ?k6 ?k7 ?k8 ?k9 ?kB ?_ ?c2 ?c3 ?c4 ?c5
  case kA => exact rfl
  case kF => exact rfl
  case kK => assumption
  case k1 => k_asm
  case k2 => k_asm
  case k3 => k_asm
  case k4 => k_asm
  case k5 => k_asm
  case k6 => k_is
  case k7 => k_is
  case k8 => exact Nat.lt_of_le_of_lt (Nat.le_add_right _ _) hd
  case k9 => exact BindsTo.of_eq (binds := [(Str.ofString "rune", .int roct_n_c.i1 roct_n_c.t1)]) rfl
  case c5 => decide
  case kB => exact locs rfl
  case c2 => exact rfl
  case c3 => exact rfl
  case c4 => exact rfl
  intro gH LH hH FGH FH NH BH XH TH
  (try dsimp only)
  (try k_lift BH)
  revert h0 h1 h9 hB0 hX0 hT0 hk0 hd hu hpre hret FGH FH NH BH XH TH
  exact H gH LH hH
@[irreducible] noncomputable def roct_n_d : Heap × Addr × Heap := pick ⟨(⟨#[], default⟩, 0, ⟨#[], default⟩)⟩ roct_n_g.G
theorem roct_n_t1 : roct_n_g.G roct_n_d := by
  intro h0 h1 h9 hB0 hX0 hT0 hk0 hd hu hpre hret FGH FH NH BH XH TH
  have loops := myLoops
  have calls := myCalls
  (try k_fold)
  (repeat' (first | (k_unfold; (try dsimp only)) | walk1 | (dsimp only; walk1) | (leave1; (try dsimp only)) | (refine Held.go ?_; first | ((with_reducible show wpAny _ _ (call (Value.ref _) _) _ _ _); first | ((k_here; (k_dflt refine' ctv_use (rlen_k ⟨_, rfl⟩ _ _ _ _ _ _ _ ?hl) ?k1 ?k2 ?k3 ?k4 ?k5 ?kK ?kd ?ku ?kp ?_); (case hl => assumption); (((case k1 => k_asm); (case k2 => k_asm); (case k3 => k_asm); (case k4 => k_asm); (case k5 => k_asm); (case kK => first | exact rfl | assumption); (case kd => first | exact room2 (by assumption) rfl | ktr_room); (case ku => first | exact unit2 (by assumption) rfl | ktr_units))); (case kp => trivial); (((intro t9 h9 tk9 F9 N9); (try dsimp only); (try k_fold))))) | ((k_here; (k_dflt refine' ctv_use (rlead2 ⟨_, rfl⟩ _ _ _ _ _) ?k1 ?k2 ?k3 ?k4 ?k5 ?kK ?kd ?ku ?kp ?_); (((case k1 => k_asm); (case k2 => k_asm); (case k3 => k_asm); (case k4 => k_asm); (case k5 => k_asm); (case kK => first | exact rfl | assumption); (case kd => first | exact room2 (by assumption) rfl | ktr_room); (case ku => first | exact unit2 (by assumption) rfl | ktr_units))); (case kp => trivial); (((intro t9 h9 tk9 F9 N9); (try dsimp only); (try k_fold))))) | ((k_here; (k_dflt refine' ctv_use (rlead3 ⟨_, rfl⟩ _ _ _ _ _) ?k1 ?k2 ?k3 ?k4 ?k5 ?kK ?kd ?ku ?kp ?_); (((case k1 => k_asm); (case k2 => k_asm); (case k3 => k_asm); (case k4 => k_asm); (case k5 => k_asm); (case kK => first | exact rfl | assumption); (case kd => first | exact room2 (by assumption) rfl | ktr_room); (case ku => first | exact unit2 (by assumption) rfl | ktr_units))); (case kp => trivial); (((intro t9 h9 tk9 F9 N9); (try dsimp only); (try k_fold))))) | ((k_here; (k_dflt refine' ctv_use (rlead4 ⟨_, rfl⟩ _ _ _ _ _) ?k1 ?k2 ?k3 ?k4 ?k5 ?kK ?kd ?ku ?kp ?_); (((case k1 => k_asm); (case k2 => k_asm); (case k3 => k_asm); (case k4 => k_asm); (case k5 => k_asm); (case kK => first | exact rfl | assumption); (case kd => first | exact room2 (by assumption) rfl | ktr_room); (case ku => first | exact unit2 (by assumption) rfl | ktr_units))); (case kp => trivial); (((intro t9 h9 tk9 F9 N9); (try dsimp only); (try k_fold))))) | ((k_here; (k_dflt refine' ctv_use (rlen_ok ⟨_, rfl⟩ _ _ _ _ _ _) ?k1 ?k2 ?k3 ?k4 ?k5 ?kK ?kd ?ku ?kp ?_); (((case k1 => k_asm); (case k2 => k_asm); (case k3 => k_asm); (case k4 => k_asm); (case k5 => k_asm); (case kK => first | exact rfl | assumption); (case kd => first | exact room2 (by assumption) rfl | ktr_room); (case ku => first | exact unit2 (by assumption) rfl | ktr_units))); (case kp => trivial); (((intro t9 h9 tk9 F9 N9); (try dsimp only); (try k_fold))))) | ((k_here; (k_dflt refine' ctv_use (rlead_ok ⟨_, rfl⟩ _ _ _ _ _ _) ?k1 ?k2 ?k3 ?k4 ?k5 ?kK ?kd ?ku ?kp ?_); (((case k1 => k_asm); (case k2 => k_asm); (case k3 => k_asm); (case k4 => k_asm); (case k5 => k_asm); (case kK => first | exact rfl | assumption); (case kd => first | exact room2 (by assumption) rfl | ktr_room); (case ku => first | exact unit2 (by assumption) rfl | ktr_units))); (case kp => first | omega | (exact flen_lead (by assumption) (by assumption)) | (constructor <;> omega)); (((intro t9 h9 tk9 F9 N9); (try dsimp only); (try k_fold)))))))))
  all_goals try (exact absurd (by assumption) h9)
  refine Held.go ?_
  (rename Fr _ _ _ _ => F); (rename News _ _ _ _ => N)
  (rename IsRange _ _ _ _ _ _ _ _ => hR)
  have hk := rlen_cases h9
  (rename ∀ p ∈ roct_n_c.led, p.1 < _ => l1)
  with_unfolding_all refine' kst_range (σ := List Value × Nat × Int × Tok) (n := (rLen roct_n_c.i1 - 1).toNat) (fun c => (_, listOf c.1.toArray c.2.1) :: roct_n_c.led) (fun c => [(Str.ofString "rest", Value.int c.2.2.1 c.2.2.2)]) (fun _ => True) [] (fun pre c => IntsAre c.1 (conts roct_n_c.i1 pre.length) ∧ c.2.2.1 = dropC roct_n_c.i1 pre.length) ([], 0, _, _) rfl hR ?hs ?hn F (News_tl N) trivial ?kk ?kp ?turn ?done
  case hs => rcases hk with e | e | e <;> rw [e] <;> decide
  case hn => rcases hk with e | e | e <;> rw [e] <;> decide
  case kk => kst_all
  case kp => exact ⟨.nil, rfl⟩
  case turn =>
    rintro ⟨vs, n, q, tq⟩ pre k tq u h tk own hk9 hlt hoff _ hP' F' N'
    (try dsimp only [kstB] at F')
    dsimp only at hP' N'
    obtain ⟨hP1, rfl⟩ := hP'
    have hall := own_all l1 hoff
    have hsz : vs.toArray.size ≤ sizeLine := by
      have := hP1.length
      rw [List.size_toArray, sizeLine_eq, this, conts_length]
      omega
    rw [List.cons_append] at N'
    (repeat' (first | (k_unfold; (try dsimp only)) | walk1 | (dsimp only; walk1) | (leave1; (try dsimp only)) | (refine Held.go ?_; first | ((with_reducible show wpAny _ _ (call (Value.ref _) _) _ _ _); first | ((k_here; (k_dflt refine' ctv_use (rlen_k ⟨_, rfl⟩ _ _ _ _ _ _ _ ?hl) ?k1 ?k2 ?k3 ?k4 ?k5 ?kK ?kd ?ku ?kp ?_); (case hl => assumption); (((case k1 => k_asm); (case k2 => k_asm); (case k3 => k_asm); (case k4 => k_asm); (case k5 => k_asm); (case kK => first | exact rfl | assumption); (case kd => first | exact room2 (by assumption) rfl | ktr_room); (case ku => first | exact unit2 (by assumption) rfl | ktr_units))); (case kp => trivial); (((intro t9 h9 tk9 F9 N9); (try dsimp only); (try k_fold))))) | ((k_here; (k_dflt refine' ctv_use (rlead2 ⟨_, rfl⟩ _ _ _ _ _) ?k1 ?k2 ?k3 ?k4 ?k5 ?kK ?kd ?ku ?kp ?_); (((case k1 => k_asm); (case k2 => k_asm); (case k3 => k_asm); (case k4 => k_asm); (case k5 => k_asm); (case kK => first | exact rfl | assumption); (case kd => first | exact room2 (by assumption) rfl | ktr_room); (case ku => first | exact unit2 (by assumption) rfl | ktr_units))); (case kp => trivial); (((intro t9 h9 tk9 F9 N9); (try dsimp only); (try k_fold))))) | ((k_here; (k_dflt refine' ctv_use (rlead3 ⟨_, rfl⟩ _ _ _ _ _) ?k1 ?k2 ?k3 ?k4 ?k5 ?kK ?kd ?ku ?kp ?_); (((case k1 => k_asm); (case k2 => k_asm); (case k3 => k_asm); (case k4 => k_asm); (case k5 => k_asm); (case kK => first | exact rfl | assumption); (case kd => first | exact room2 (by assumption) rfl | ktr_room); (case ku => first | exact unit2 (by assumption) rfl | ktr_units))); (case kp => trivial); (((intro t9 h9 tk9 F9 N9); (try dsimp only); (try k_fold))))) | ((k_here; (k_dflt refine' ctv_use (rlead4 ⟨_, rfl⟩ _ _ _ _ _) ?k1 ?k2 ?k3 ?k4 ?k5 ?kK ?kd ?ku ?kp ?_); (((case k1 => k_asm); (case k2 => k_asm); (case k3 => k_asm); (case k4 => k_asm); (case k5 => k_asm); (case kK => first | exact rfl | assumption); (case kd => first | exact room2 (by assumption) rfl | ktr_room); (case ku => first | exact unit2 (by assumption) rfl | ktr_units))); (case kp => trivial); (((intro t9 h9 tk9 F9 N9); (try dsimp only); (try k_fold))))) | ((k_here; (k_dflt refine' ctv_use (rlen_ok ⟨_, rfl⟩ _ _ _ _ _ _) ?k1 ?k2 ?k3 ?k4 ?k5 ?kK ?kd ?ku ?kp ?_); (((case k1 => k_asm); (case k2 => k_asm); (case k3 => k_asm); (case k4 => k_asm); (case k5 => k_asm); (case kK => first | exact rfl | assumption); (case kd => first | exact room2 (by assumption) rfl | ktr_room); (case ku => first | exact unit2 (by assumption) rfl | ktr_units))); (case kp => trivial); (((intro t9 h9 tk9 F9 N9); (try dsimp only); (try k_fold))))) | ((k_here; (k_dflt refine' ctv_use (rlead_ok ⟨_, rfl⟩ _ _ _ _ _ _) ?k1 ?k2 ?k3 ?k4 ?k5 ?kK ?kd ?ku ?kp ?_); (((case k1 => k_asm); (case k2 => k_asm); (case k3 => k_asm); (case k4 => k_asm); (case k5 => k_asm); (case kK => first | exact rfl | assumption); (case kd => first | exact room2 (by assumption) rfl | ktr_room); (case ku => first | exact unit2 (by assumption) rfl | ktr_units))); (case kp => first | omega | (exact flen_lead (by assumption) (by assumption)) | (constructor <;> omega)); (((intro t9 h9 tk9 F9 N9); (try dsimp only); (try k_fold)))))))))
    refine Held.go ?_
    (rename Fr _ _ _ _ => F); (rename News _ _ _ _ => N)
    (try simp only [List.push_toArray] at N)
    refine kst_end (vs ++ [_], n + 1, _, _) F N memA (by intro p hp; simp [hp]) rfl trivial (by kst_all) (by kst_same) ⟨?_, ?_⟩
    · rw [List.length_append]
      show IntsAre _ (conts roct_n_c.i1 (pre.length + 1))
      rw [conts_snoc]
      rw [fmod64]
      exact hP1.append (.cons _ _ .nil)
    · rw [List.length_append]
      dsimp only
      rw [fdiv64]
      exact (dropC_succ _ _).symm
  case done =>
    rintro ⟨vs, n, q, tq⟩ u h tk _ hP' F' N'
    (try dsimp only [kstB] at F')
    dsimp only at hP' N'
    rw [rangeKs_length] at hP'
    have hall := ne_all l1
    rcases hk with e | e | e
    · obtain ⟨b1, b2⟩ := rlen_b2 e
      rw [e] at hP'
      simp only [e] at F'
      have hP1 : IntsAre vs [128 + roct_n_c.i1 % 64] := hP'.1
      have hQ : q = roct_n_c.i1 / 64 := hP'.2
      subst hQ
      obtain ⟨t1, vs1, rfl, hP2⟩ := hP1.cons_inv
      obtain rfl := hP2.nil_inv
      (repeat' (first | (k_unfold; (try dsimp only)) | walk1 | (dsimp only; walk1) | (leave1; (try dsimp only)) | (refine Held.go ?_; first | ((with_reducible show wpAny _ _ (call (Value.ref _) _) _ _ _); first | ((k_here; (k_dflt refine' ctv_use (rlen_k ⟨_, rfl⟩ _ _ _ _ _ _ _ ?hl) ?k1 ?k2 ?k3 ?k4 ?k5 ?kK ?kd ?ku ?kp ?_); (case hl => assumption); (((case k1 => k_asm); (case k2 => k_asm); (case k3 => k_asm); (case k4 => k_asm); (case k5 => k_asm); (case kK => first | exact rfl | assumption); (case kd => first | exact room2 (by assumption) rfl | ktr_room); (case ku => first | exact unit2 (by assumption) rfl | ktr_units))); (case kp => trivial); (((intro t9 h9 tk9 F9 N9); (try dsimp only); (try k_fold))))) | ((k_here; (k_dflt refine' ctv_use (rlead2 ⟨_, rfl⟩ _ _ _ _ _) ?k1 ?k2 ?k3 ?k4 ?k5 ?kK ?kd ?ku ?kp ?_); (((case k1 => k_asm); (case k2 => k_asm); (case k3 => k_asm); (case k4 => k_asm); (case k5 => k_asm); (case kK => first | exact rfl | assumption); (case kd => first | exact room2 (by assumption) rfl | ktr_room); (case ku => first | exact unit2 (by assumption) rfl | ktr_units))); (case kp => trivial); (((intro t9 h9 tk9 F9 N9); (try dsimp only); (try k_fold))))) | ((k_here; (k_dflt refine' ctv_use (rlead3 ⟨_, rfl⟩ _ _ _ _ _) ?k1 ?k2 ?k3 ?k4 ?k5 ?kK ?kd ?ku ?kp ?_); (((case k1 => k_asm); (case k2 => k_asm); (case k3 => k_asm); (case k4 => k_asm); (case k5 => k_asm); (case kK => first | exact rfl | assumption); (case kd => first | exact room2 (by assumption) rfl | ktr_room); (case ku => first | exact unit2 (by assumption) rfl | ktr_units))); (case kp => trivial); (((intro t9 h9 tk9 F9 N9); (try dsimp only); (try k_fold))))) | ((k_here; (k_dflt refine' ctv_use (rlead4 ⟨_, rfl⟩ _ _ _ _ _) ?k1 ?k2 ?k3 ?k4 ?k5 ?kK ?kd ?ku ?kp ?_); (((case k1 => k_asm); (case k2 => k_asm); (case k3 => k_asm); (case k4 => k_asm); (case k5 => k_asm); (case kK => first | exact rfl | assumption); (case kd => first | exact room2 (by assumption) rfl | ktr_room); (case ku => first | exact unit2 (by assumption) rfl | ktr_units))); (case kp => trivial); (((intro t9 h9 tk9 F9 N9); (try dsimp only); (try k_fold))))) | ((k_here; (k_dflt refine' ctv_use (rlen_ok ⟨_, rfl⟩ _ _ _ _ _ _) ?k1 ?k2 ?k3 ?k4 ?k5 ?kK ?kd ?ku ?kp ?_); (((case k1 => k_asm); (case k2 => k_asm); (case k3 => k_asm); (case k4 => k_asm); (case k5 => k_asm); (case kK => first | exact rfl | assumption); (case kd => first | exact room2 (by assumption) rfl | ktr_room); (case ku => first | exact unit2 (by assumption) rfl | ktr_units))); (case kp => trivial); (((intro t9 h9 tk9 F9 N9); (try dsimp only); (try k_fold))))) | ((k_here; (k_dflt refine' ctv_use (rlead_ok ⟨_, rfl⟩ _ _ _ _ _ _) ?k1 ?k2 ?k3 ?k4 ?k5 ?kK ?kd ?ku ?kp ?_); (((case k1 => k_asm); (case k2 => k_asm); (case k3 => k_asm); (case k4 => k_asm); (case k5 => k_asm); (case kK => first | exact rfl | assumption); (case kd => first | exact room2 (by assumption) rfl | ktr_room); (case ku => first | exact unit2 (by assumption) rfl | ktr_units))); (case kp => first | omega | (exact flen_lead (by assumption) (by assumption)) | (constructor <;> omega)); (((intro t9 h9 tk9 F9 N9); (try dsimp only); (try k_fold)))))))))
      refine hret _ [] _ _ ⟨rfl, _, _, rfl, ?ee⟩ ?ff ?nn (fun _ _ _ h => nomatch h)
      case ff => k_asm
      case nn => first | k_asm | exact News_tl (by k_asm) | exact News_tl (News_tl (by k_asm)) | exact News_tl (News_tl (News_tl (by k_asm)))
      case ee =>
        rw [ints2 (by omega) (by omega) (by omega) (by omega)]
        unfold enc
        rw [if_neg (by omega), if_pos (by omega)]
    · obtain ⟨b1, b2⟩ := rlen_b3 e
      rw [e] at hP'
      simp only [e] at F'
      have hP1 : IntsAre vs [128 + roct_n_c.i1 % 64, 128 + roct_n_c.i1 / 64 % 64] := hP'.1
      have hQ : q = roct_n_c.i1 / 64 / 64 := hP'.2
      subst hQ
      obtain ⟨t1, vs1, rfl, hP2⟩ := hP1.cons_inv
      obtain ⟨t2, vs2, rfl, hP3⟩ := hP2.cons_inv
      obtain rfl := hP3.nil_inv
      (repeat' (first | (k_unfold; (try dsimp only)) | walk1 | (dsimp only; walk1) | (leave1; (try dsimp only)) | (refine Held.go ?_; first | ((with_reducible show wpAny _ _ (call (Value.ref _) _) _ _ _); first | ((k_here; (k_dflt refine' ctv_use (rlen_k ⟨_, rfl⟩ _ _ _ _ _ _ _ ?hl) ?k1 ?k2 ?k3 ?k4 ?k5 ?kK ?kd ?ku ?kp ?_); (case hl => assumption); (((case k1 => k_asm); (case k2 => k_asm); (case k3 => k_asm); (case k4 => k_asm); (case k5 => k_asm); (case kK => first | exact rfl | assumption); (case kd => first | exact room2 (by assumption) rfl | ktr_room); (case ku => first | exact unit2 (by assumption) rfl | ktr_units))); (case kp => trivial); (((intro t9 h9 tk9 F9 N9); (try dsimp only); (try k_fold))))) | ((k_here; (k_dflt refine' ctv_use (rlead2 ⟨_, rfl⟩ _ _ _ _ _) ?k1 ?k2 ?k3 ?k4 ?k5 ?kK ?kd ?ku ?kp ?_); (((case k1 => k_asm); (case k2 => k_asm); (case k3 => k_asm); (case k4 => k_asm); (case k5 => k_asm); (case kK => first | exact rfl | assumption); (case kd => first | exact room2 (by assumption) rfl | ktr_room); (case ku => first | exact unit2 (by assumption) rfl | ktr_units))); (case kp => trivial); (((intro t9 h9 tk9 F9 N9); (try dsimp only); (try k_fold))))) | ((k_here; (k_dflt refine' ctv_use (rlead3 ⟨_, rfl⟩ _ _ _ _ _) ?k1 ?k2 ?k3 ?k4 ?k5 ?kK ?kd ?ku ?kp ?_); (((case k1 => k_asm); (case k2 => k_asm); (case k3 => k_asm); (case k4 => k_asm); (case k5 => k_asm); (case kK => first | exact rfl | assumption); (case kd => first | exact room2 (by assumption) rfl | ktr_room); (case ku => first | exact unit2 (by assumption) rfl | ktr_units))); (case kp => trivial); (((intro t9 h9 tk9 F9 N9); (try dsimp only); (try k_fold))))) | ((k_here; (k_dflt refine' ctv_use (rlead4 ⟨_, rfl⟩ _ _ _ _ _) ?k1 ?k2 ?k3 ?k4 ?k5 ?kK ?kd ?ku ?kp ?_); (((case k1 => k_asm); (case k2 => k_asm); (case k3 => k_asm); (case k4 => k_asm); (case k5 => k_asm); (case kK => first | exact rfl | assumption); (case kd => first | exact room2 (by assumption) rfl | ktr_room); (case ku => first | exact unit2 (by assumption) rfl | ktr_units))); (case kp => trivial); (((intro t9 h9 tk9 F9 N9); (try dsimp only); (try k_fold))))) | ((k_here; (k_dflt refine' ctv_use (rlen_ok ⟨_, rfl⟩ _ _ _ _ _ _) ?k1 ?k2 ?k3 ?k4 ?k5 ?kK ?kd ?ku ?kp ?_); (((case k1 => k_asm); (case k2 => k_asm); (case k3 => k_asm); (case k4 => k_asm); (case k5 => k_asm); (case kK => first | exact rfl | assumption); (case kd => first | exact room2 (by assumption) rfl | ktr_room); (case ku => first | exact unit2 (by assumption) rfl | ktr_units))); (case kp => trivial); (((intro t9 h9 tk9 F9 N9); (try dsimp only); (try k_fold))))) | ((k_here; (k_dflt refine' ctv_use (rlead_ok ⟨_, rfl⟩ _ _ _ _ _ _) ?k1 ?k2 ?k3 ?k4 ?k5 ?kK ?kd ?ku ?kp ?_); (((case k1 => k_asm); (case k2 => k_asm); (case k3 => k_asm); (case k4 => k_asm); (case k5 => k_asm); (case kK => first | exact rfl | assumption); (case kd => first | exact room2 (by assumption) rfl | ktr_room); (case ku => first | exact unit2 (by assumption) rfl | ktr_units))); (case kp => first | omega | (exact flen_lead (by assumption) (by assumption)) | (constructor <;> omega)); (((intro t9 h9 tk9 F9 N9); (try dsimp only); (try k_fold)))))))))
      refine hret _ [] _ _ ⟨rfl, _, _, rfl, ?ee⟩ ?ff ?nn (fun _ _ _ h => nomatch h)
      case ff => k_asm
      case nn => first | k_asm | exact News_tl (by k_asm) | exact News_tl (News_tl (by k_asm)) | exact News_tl (News_tl (News_tl (by k_asm)))
      case ee =>
        rw [ints3 (by omega) (by omega) (by omega) (by omega) (by omega) (by omega)]
        unfold enc
        rw [if_neg (by omega), if_neg (by omega), if_pos (by omega)]
    · have b1 := rlen_b4 e
      rw [e] at hP'
      simp only [e] at F'
      have hP1 : IntsAre vs [128 + roct_n_c.i1 % 64, 128 + roct_n_c.i1 / 64 % 64, 128 + roct_n_c.i1 / 64 / 64 % 64] := hP'.1
      have hQ : q = roct_n_c.i1 / 64 / 64 / 64 := hP'.2
      subst hQ
      obtain ⟨t1, vs1, rfl, hP2⟩ := hP1.cons_inv
      obtain ⟨t2, vs2, rfl, hP3⟩ := hP2.cons_inv
      obtain ⟨t3, vs3, rfl, hP4⟩ := hP3.cons_inv
      obtain rfl := hP4.nil_inv
      (repeat' (first | (k_unfold; (try dsimp only)) | walk1 | (dsimp only; walk1) | (leave1; (try dsimp only)) | (refine Held.go ?_; first | ((with_reducible show wpAny _ _ (call (Value.ref _) _) _ _ _); first | ((k_here; (k_dflt refine' ctv_use (rlen_k ⟨_, rfl⟩ _ _ _ _ _ _ _ ?hl) ?k1 ?k2 ?k3 ?k4 ?k5 ?kK ?kd ?ku ?kp ?_); (case hl => assumption); (((case k1 => k_asm); (case k2 => k_asm); (case k3 => k_asm); (case k4 => k_asm); (case k5 => k_asm); (case kK => first | exact rfl | assumption); (case kd => first | exact room2 (by assumption) rfl | ktr_room); (case ku => first | exact unit2 (by assumption) rfl | ktr_units))); (case kp => trivial); (((intro t9 h9 tk9 F9 N9); (try dsimp only); (try k_fold))))) | ((k_here; (k_dflt refine' ctv_use (rlead2 ⟨_, rfl⟩ _ _ _ _ _) ?k1 ?k2 ?k3 ?k4 ?k5 ?kK ?kd ?ku ?kp ?_); (((case k1 => k_asm); (case k2 => k_asm); (case k3 => k_asm); (case k4 => k_asm); (case k5 => k_asm); (case kK => first | exact rfl | assumption); (case kd => first | exact room2 (by assumption) rfl | ktr_room); (case ku => first | exact unit2 (by assumption) rfl | ktr_units))); (case kp => trivial); (((intro t9 h9 tk9 F9 N9); (try dsimp only); (try k_fold))))) | ((k_here; (k_dflt refine' ctv_use (rlead3 ⟨_, rfl⟩ _ _ _ _ _) ?k1 ?k2 ?k3 ?k4 ?k5 ?kK ?kd ?ku ?kp ?_); (((case k1 => k_asm); (case k2 => k_asm); (case k3 => k_asm); (case k4 => k_asm); (case k5 => k_asm); (case kK => first | exact rfl | assumption); (case kd => first | exact room2 (by assumption) rfl | ktr_room); (case ku => first | exact unit2 (by assumption) rfl | ktr_units))); (case kp => trivial); (((intro t9 h9 tk9 F9 N9); (try dsimp only); (try k_fold))))) | ((k_here; (k_dflt refine' ctv_use (rlead4 ⟨_, rfl⟩ _ _ _ _ _) ?k1 ?k2 ?k3 ?k4 ?k5 ?kK ?kd ?ku ?kp ?_); (((case k1 => k_asm); (case k2 => k_asm); (case k3 => k_asm); (case k4 => k_asm); (case k5 => k_asm); (case kK => first | exact rfl | assumption); (case kd => first | exact room2 (by assumption) rfl | ktr_room); (case ku => first | exact unit2 (by assumption) rfl | ktr_units))); (case kp => trivial); (((intro t9 h9 tk9 F9 N9); (try dsimp only); (try k_fold))))) | ((k_here; (k_dflt refine' ctv_use (rlen_ok ⟨_, rfl⟩ _ _ _ _ _ _) ?k1 ?k2 ?k3 ?k4 ?k5 ?kK ?kd ?ku ?kp ?_); (((case k1 => k_asm); (case k2 => k_asm); (case k3 => k_asm); (case k4 => k_asm); (case k5 => k_asm); (case kK => first | exact rfl | assumption); (case kd => first | exact room2 (by assumption) rfl | ktr_room); (case ku => first | exact unit2 (by assumption) rfl | ktr_units))); (case kp => trivial); (((intro t9 h9 tk9 F9 N9); (try dsimp only); (try k_fold))))) | ((k_here; (k_dflt refine' ctv_use (rlead_ok ⟨_, rfl⟩ _ _ _ _ _ _) ?k1 ?k2 ?k3 ?k4 ?k5 ?kK ?kd ?ku ?kp ?_); (((case k1 => k_asm); (case k2 => k_asm); (case k3 => k_asm); (case k4 => k_asm); (case k5 => k_asm); (case kK => first | exact rfl | assumption); (case kd => first | exact room2 (by assumption) rfl | ktr_room); (case ku => first | exact unit2 (by assumption) rfl | ktr_units))); (case kp => first | omega | (exact flen_lead (by assumption) (by assumption)) | (constructor <;> omega)); (((intro t9 h9 tk9 F9 N9); (try dsimp only); (try k_fold)))))))))
      refine hret _ [] _ _ ⟨rfl, _, _, rfl, ?ee⟩ ?ff ?nn (fun _ _ _ h => nomatch h)
      case ff => k_asm
      case nn => first | k_asm | exact News_tl (by k_asm) | exact News_tl (News_tl (by k_asm)) | exact News_tl (News_tl (News_tl (by k_asm)))
      case ee =>
        rw [ints4 (by omega) (by omega) (by omega) (by omega) (by omega) (by omega) (by omega) (by omega)]
        unfold enc
        rw [if_neg (by omega), if_neg (by omega), if_neg (by omega)]
theorem roct_n (r : Rw) (w : World) (mean : ExcName → Option Value) (mg mb : Str → Option Value) (news : Led) (o : Int) (t : Tok) (h0 : 128 ≤ o) (h1 : o < 1114112) (h9 : rLen o ≠ 1) :
    CtN w mean mg mb 142 4 40 news [.int o t] True (fun v new => new = [] ∧ ∃ b' t', v = .bytes b' t' ∧ KBw.bInts b' = enc o) := by
  intro dp9 un9 gd9 cn9 cs9 a9 ccd9 cl9 outer9 A₀9 base9 h₀9 L9 m9 s9 Q9 E9
  exact pick_all (ne := cx_some) (by with_unfolding_all rfl) (roct_n_g.go (pick_all (ne := ⟨(⟨#[], default⟩, 0, ⟨#[], default⟩)⟩) (by with_unfolding_all rfl) roct_n_t1)) { cx0 with w := w, mean := mean, mg := mg, mb := mb, dp := dp9, un := un9, gd := gd9, cn := cn9, cs := cs9, a := a9, ccd := ccd9, cl := cl9, outer := outer9, A₀ := A₀9, base := base9, h₀ := h₀9, L := L9, m := m9, s := s9, Q := Q9, E := E9, led := news, i1 := o, t1 := t } h0 h1 h9
theorem roct_ok (r : Rw) (w : World) (mean : ExcName → Option Value) (mg mb : Str → Option Value) (news : Led) (o : Int) (t : Tok) (h0 : 0 ≤ o) (h1 : o < 1114112) :
    CtN w mean mg mb 142 4 40 news [.int o t] True (fun v new => new = [] ∧ ∃ b' t', v = .bytes b' t' ∧ KBw.bInts b' = enc o) := by
  by_cases h : o < 128
  · exact roct_1 r w mean mg mb news o t h0 h (by unfold rLen; rw [if_pos h])
  · exact roct_n r w mean mg mb news o t (by omega) h1 (by unfold rLen; rw [if_neg h]; (repeat' split) <;> decide)
-- part L2
section
open LCg
variable {prog : Program} {w : World} {A : Around} {E : Value → Shared → Prop} {s : Shared} {h₀ : Heap} {L : Addr} {m : Str → Option Value} {env : Env}
/-- a comprehension's turns, by an invariant -/
theorem comp_turns {elt : Expr} {x : Str} {scope : Scope} {cl : List (Str × Addr)} {S : List (Addr × Obj) → Prop} {P : Nat → Value → Prop} {Fin : List Value → List (Addr × Obj) → Prop} {news : Led} {n : Nat} (Inv : Nat → List Value → Prop)
    (step : ∀ i v ys I oI C oC D m₂ h tk (E' : Value → Shared → Prop), i < n → Inv i ys → P i v → NsObj oC m₂ → m₂ x = some v → Fr h₀ L h m → News h₀ L h ((I, oI) :: (C, oC) :: (D, LCg.lst ys) :: news) → Off3 I C D news → ((@Ne Nat I C) ∧ (@Ne Nat I D) ∧ (@Ne Nat C D)) →
      wpAny (model prog w) A (eval elt (compEnvC scope cl C env)) (CompEnd h₀ L m { s with heap := h, toks := tk } I oI C oC D (LCg.lst ys) S (fun y news' => news' = news ∧ Inv (i + 1) (ys ++ [y]))) E' { s with heap := h, toks := tk })
    (fin : ∀ ys, Inv n ys → Fin ys news) : ∀ k i ys, i + k = n → Inv i ys → CompRest prog w A h₀ L m env elt x scope cl s S P Fin k i ys news
  | 0, i, ys, e, hI => by
    obtain rfl : i = n := by omega
    exact fin ys hI
  | k + 1, i, ys, e, hI => by
    intro v I oI C oC D m₂ h tk E' hP hN hm F N off ne
    refine wpAny_mono (step i v ys I oI C oC D m₂ h tk E' (by omega) hI hP hN hm F N off ne) (fun y s₂ hy => ?_) fun _ _ z => z
    obtain ⟨h', tk', news', e1, e2, e3, e4, e5, rfl, e7⟩ := hy
    exact ⟨h', tk', news', e1, e2, e3, e4, e5, comp_turns Inv step fin k (i + 1) (ys ++ [y]) (by omega) e7⟩
end
-- part O1
local macro_rules | `(tactic| walk_at "eval ListComp") => `(tactic| ((with_reducible rename MyLoops => loops9); refine held ?_))
theorem enc_le (o : Int) : (enc o).length ≤ 4 := by unfold enc; (repeat' split) <;> simp
theorem enc_all (ks : List Int) : (ks.flatMap enc).length ≤ 4 * ks.length := by
  induction ks with
  | nil => simp
  | cons o r ih =>
    have := enc_le o
    simp only [List.flatMap_cons, List.length_append, List.length_cons] at ih ⊢
    omega
theorem cat_app {ys : List Value} {l p : List Int} {b : Array UInt8} {t : Tok} (H : Cat ys.toArray l) (e : KBw.bInts b = p) : Cat (ys ++ [Value.bytes b t]).toArray (l ++ p) := by
  have := H.push (t := t) e
  rwa [List.push_toArray] at this
theorem oor_lat (r : Rw) (w : World) (mean : ExcName → Option Value) (mg mb : Str → Option Value) (rest : Led) (rl : Addr) (vs : List Value) (n : Nat) (rs : List Int) (hi : IntsAre vs rs) (hz : rs.length ≤ 100000) (hb : ∀ x ∈ rs, 0 ≤ x ∧ x < 256) :
    CtN w mean mg mb 161 8 80 ((rl, listOf vs.toArray n) :: rest) [.ref rl, .bool true] True (fun v new => new = [] ∧ ∃ b' t', v = .bytes b' t' ∧ KBw.bInts b' = rs) := by
  unfold CtN
  k_fill
  intros
  rename_i hd hu hpre hret
  (((refine wpAny_call ?_); k_dflt cell_enter))
  (repeat' (first | (k_unfold; (try dsimp only)) | walk1 | (dsimp only; walk1) | (leave1; (try dsimp only)) | (refine Held.go ?_; first | ((with_reducible show wpAny _ _ (call (Value.ref _) _) _ _ _); first | ((k_here; (k_dflt refine' ctn_use (roct_ok ⟨_, rfl⟩ _ _ _ _ _ _ _ ?h0 ?h1) ?k1 ?k2 ?k3 ?k4 ?k5 ?kK ?kd ?ku ?kp ?_); (case h0 => omega); (case h1 => omega); (((case k1 => k_asm); (case k2 => k_asm); (case k3 => k_asm); (case k4 => k_asm); (case k5 => k_asm); (case kK => first | exact rfl | assumption); (case kd => first | exact room2 (by assumption) rfl | ktr_room); (case ku => first | exact unit2 (by assumption) rfl | ktr_units))); (case kp => trivial); (intro v9 new9 h9 tk9 R9 F9 N9 l9); (obtain ⟨q9, b9, t9, q9', e9⟩ := R9); (subst q9 q9'); (try dsimp only); (try simp only [List.nil_append] at N9); clear l9; (try k_fold)))))))
  refine hret _ [] _ _ ⟨rfl, _, _, rfl, ?ee⟩ ?ff ?nn (fun _ _ _ h => nomatch h)
  case ff => k_asm
  case nn => k_asm
  case ee => exact KBa.ints_make hb
theorem oor_utf (r : Rw) (w : World) (mean : ExcName → Option Value) (mg mb : Str → Option Value) (rest : Led) (rl : Addr) (vs : List Value) (n : Nat) (rs : List Int) (hi : IntsAre vs rs) (hz : rs.length ≤ 20000) (hb : ∀ x ∈ rs, 0 ≤ x ∧ x < 1114112) :
    CtN w mean mg mb 161 8 80 ((rl, listOf vs.toArray n) :: rest) [.ref rl, .bool false] True (fun v new => new = [] ∧ ∃ b' t', v = .bytes b' t' ∧ KBw.bInts b' = rs.flatMap enc) := by
  unfold CtN
  k_fill
  intros
  rename_i hd hu hpre hret
  have loops := myLoops
  have calls := myCalls
  (((refine wpAny_call ?_); k_dflt cell_enter))
  (repeat' (first | (k_unfold; (try dsimp only)) | walk1 | (dsimp only; walk1) | (leave1; (try dsimp only)) | (refine Held.go ?_; first | ((with_reducible show wpAny _ _ (call (Value.ref _) _) _ _ _); first | ((k_here; (k_dflt refine' ctn_use (roct_ok ⟨_, rfl⟩ _ _ _ _ _ _ _ ?h0 ?h1) ?k1 ?k2 ?k3 ?k4 ?k5 ?kK ?kd ?ku ?kp ?_); (case h0 => omega); (case h1 => omega); (((case k1 => k_asm); (case k2 => k_asm); (case k3 => k_asm); (case k4 => k_asm); (case k5 => k_asm); (case kK => first | exact rfl | assumption); (case kd => first | exact room2 (by assumption) rfl | ktr_room); (case ku => first | exact unit2 (by assumption) rfl | ktr_units))); (case kp => trivial); (intro v9 new9 h9 tk9 R9 F9 N9 l9); (obtain ⟨q9, b9, t9, q9', e9⟩ := R9); (subst q9 q9'); (try dsimp only); (try simp only [List.nil_append] at N9); clear l9; (try k_fold)))))))
  refine Held.go ?_
  k_dflt (refine LCg.ListComp_U (F₀ := by k_asm) (by rfl) (by decide) (by rfl) (by decide) (by rfl) ?_)
  iterate 4 (try (first | walk1 | (dsimp only; walk1)))
  refine LCg.CompSrc.ledger (by rfl) (by k_asm) (by k_asm) (by k_mem) (by have := hi.length; rw [List.size_toArray, sizeLine_eq]; omega) ?_
  intro g'
  refine comp_turns (n := vs.toArray.size) (fun i ys => Cat ys.toArray ((rs.take i).flatMap enc)) ?step ?fin _ 0 [] (by simp) Cat.nil
  case step =>
    intro i v ys I oI C oC D m₂ h tk E' hin hI hP hN hm F N off ne
    obtain ⟨c, tc, rfl, hc⟩ := hi.at i v (by simpa using hP)
    have hcb := hb c (List.mem_of_getElem? hc)
    (repeat' (first | (k_unfold; (try dsimp only)) | walk1 | (dsimp only; walk1) | (leave1; (try dsimp only)) | (refine Held.go ?_; first | ((with_reducible show wpAny _ _ (call (Value.ref _) _) _ _ _); first | ((k_here; (k_dflt refine' ctn_use (roct_ok ⟨_, rfl⟩ _ _ _ _ _ _ _ ?h0 ?h1) ?k1 ?k2 ?k3 ?k4 ?k5 ?kK ?kd ?ku ?kp ?_); (case h0 => omega); (case h1 => omega); (((case k1 => k_asm); (case k2 => k_asm); (case k3 => k_asm); (case k4 => k_asm); (case k5 => k_asm); (case kK => first | exact rfl | assumption); (case kd => first | exact room2 (by assumption) rfl | ktr_room); (case ku => first | exact unit2 (by assumption) rfl | ktr_units))); (case kp => trivial); (intro v9 new9 h9 tk9 R9 F9 N9 l9); (obtain ⟨q9, b9, t9, q9', e9⟩ := R9); (subst q9 q9'); (try dsimp only); (try simp only [List.nil_append] at N9); clear l9; (try k_fold)))))))
    (rename Fr _ _ _ _ => F9); (rename News _ _ _ _ => N9); (rename KBw.bInts _ = enc c => e9)
    refine LCg.CompEnd.intro F9 N9 _ (fun p hp => hp) off (Or.inr ⟨_, .head _, rfl, _, rfl⟩) ⟨rfl, ?_⟩
    have hc' : rs.take (i + 1) = rs.take i ++ [c] := by simp [List.take_add_one, hc]
    rw [hc', List.flatMap_append, show [c].flatMap enc = enc c by simp]
    exact cat_app hI e9
  case fin =>
    intro ys hI D h tk F N off
    rw [List.size_toArray, hi.length, List.take_length] at hI
    obtain ⟨hJ, hJl⟩ := hI
    have hJz : (ys.toArray.toList.flatMap fun v => KBw.bInts (payOf v)).length ≤ 100000 := by rw [hJl]; have := enc_all rs; omega
    (try dsimp only)
    (repeat' (first | (k_unfold; (try dsimp only)) | walk1 | (dsimp only; walk1) | (leave1; (try dsimp only)) | (refine Held.go ?_; first | ((with_reducible show wpAny _ _ (call (Value.ref _) _) _ _ _); first | ((k_here; (k_dflt refine' ctn_use (roct_ok ⟨_, rfl⟩ _ _ _ _ _ _ _ ?h0 ?h1) ?k1 ?k2 ?k3 ?k4 ?k5 ?kK ?kd ?ku ?kp ?_); (case h0 => omega); (case h1 => omega); (((case k1 => k_asm); (case k2 => k_asm); (case k3 => k_asm); (case k4 => k_asm); (case k5 => k_asm); (case kK => first | exact rfl | assumption); (case kd => first | exact room2 (by assumption) rfl | ktr_room); (case ku => first | exact unit2 (by assumption) rfl | ktr_units))); (case kp => trivial); (intro v9 new9 h9 tk9 R9 F9 N9 l9); (obtain ⟨q9, b9, t9, q9', e9⟩ := R9); (subst q9 q9'); (try dsimp only); (try simp only [List.nil_append] at N9); clear l9; (try k_fold)))))))
    refine hret _ [] _ _ ⟨rfl, _, _, rfl, ?ee⟩ ?ff ?nn (fun _ _ _ h => nomatch h)
    case ff => k_asm
    case nn => first | k_asm | exact News_tl (by k_asm)
    case ee => rw [← hJl]; assumption
-- part L3
section
open KStb
variable {prog : Program} {w : World} {A : Around} {E : Value → Shared → Prop} {s : Shared} {env : Env} {h₀ : Heap} {x : PySem.Str} {body : List Stmt} {Q : Flow → Shared → Prop}
/-- a loop over a list that stands in the ledger and stays as it is -/
theorem kst_valsL {σ : Type} {D : Addr} {vs : List Value} {nn : Nat} {m₀ : PySem.Str → Option Value} (Led : σ → List (Addr × Obj)) (ps : σ → List (PySem.Str × Value)) (Facts : σ → Prop) (stored : List PySem.Str) (P : List Value → σ → Prop) (c₀ : σ)
    (hl : ∀ c, (D, listOf vs.toArray nn) ∈ Led c) (hh : A.handled = none) (F : Fr h₀ env.locals s.heap m₀) (N : News h₀ env.locals s.heap (Led c₀)) (hf : Facts c₀) (hk : ∀ p ∈ ps c₀, m₀ p.1 = some p.2) (hp : P [] c₀)
    (turn : ∀ (c : σ) (pre post : List Value) (v : Value) (u : PySem.Str → Option Value) h tk own, vs = pre ++ v :: post → OwnOff own ((Led c₀).map (·.1)) → Facts c → P pre c →
      Fr h₀ env.locals h (fun y => if y = x then some v else kstB (fun z => if stored.contains z then u z else m₀ z) (ps c) y) → News h₀ env.locals h (Led c ++ own) →
      wpAny (model prog w) A (execs body env) (InvPostN h₀ env.locals (KstS Led ps Facts x stored m₀ (fun _ => P (pre ++ [v])) []) own ((Led c₀).map (·.1)) { s with heap := h, toks := tk } Q) E { s with heap := h, toks := tk })
    (done : ∀ (c : σ) (u : PySem.Str → Option Value) h tk, Facts c → P vs c → Fr h₀ env.locals h (fun y => if y = x then u y else kstB (fun z => if stored.contains z then u z else m₀ z) (ps c) y) → News h₀ env.locals h (Led c) → Q .next { s with heap := h, toks := tk }) :
    wpAny (model prog w) A (pyIter (.ref D)) (fun it s₂ => LoopAtV prog w A h₀ env x body Q E it s₂) E s := by
  refine kdl_iter (news := Led c₀) (fun i m nx => nx.map (·.1) = (Led c₀).map (·.1) ∧ KstS Led ps Facts x stored m₀ (fun _ => P (vs.take i)) [] m nx) hh (hl c₀) F N ⟨rfl, c₀, rfl, hf, hk, fun _ _ _ _ => rfl, by simpa using hp⟩ ?_ ?_
  · rintro i v m₁ nx h tk own hv hoff _ ⟨hadr, c, rfl, hf', h1, h2, hp'⟩ F₁ N₁
    have hi' : i < vs.length := (List.getElem?_eq_some_iff.mp hv).1
    have hs : vs.take (i + 1) = vs.take i ++ [v] := by rw [List.take_add_one, hv]; rfl
    have e : vs = vs.take i ++ v :: vs.drop (i + 1) := by
      have ht := List.take_append_drop (i + 1) vs
      rw [hs, List.append_assoc] at ht
      exact ht.symm
    rw [hadr] at hoff
    refine wpAny_mono (turn c _ _ v m₁ h tk own e hoff hf' hp' (kst_fr h1 h2 F₁) N₁) (fun f s₂ p => ?_) fun _ _ z => z
    have up : InvEndN h₀ env.locals (KstS Led ps Facts x stored m₀ (fun _ => P (vs.take i ++ [v])) []) own ((Led c₀).map (·.1)) { s with heap := h, toks := tk } s₂ →
        InvEndG h₀ env.locals (fun m' nx => (D, listOf vs.toArray nn) ∈ nx ∧ nx.map (·.1) = (Led c₀).map (·.1) ∧ KstS Led ps Facts x stored m₀ (fun _ => P (vs.take (i + 1))) [] m' nx) own { s with heap := h, toks := tk } s₂ := by
      rintro ⟨h', tk', m', news', nx', e', F', N', hn', ho', ha, hS⟩
      refine ⟨h', tk', m', news', nx', e', F', N', hn', ho', by rw [ha]; exact hoff, ?_, ha, by rw [hs]; exact hS⟩
      obtain ⟨c', rfl, _⟩ := hS
      exact hl c'
    cases f with
    | ret v => exact p
    | brk => exact p
    | next => exact up p
    | cont => exact up p
  · rintro m₁ nx h tk ⟨_, c, rfl, hf', h1, h2, hp'⟩ F₁ N₁
    rw [List.take_length] at hp'
    exact done c m₁ h tk hf' hp' (kst_frOut h1 h2 F₁) N₁
end
theorem memL2 {x y : Addr × Obj} {news own : Led} : ∀ p ∈ x :: y :: news, p ∈ x :: y :: (news ++ own) := fun p hp => by
  rcases List.mem_cons.mp hp with rfl | hp
  · exact .head _
  · exact .tail _ (memA p hp)
-- part D1
def digs : Int → List Int → List Int
  | _, [] => []
  | n, b :: r => n % b :: digs (n / b) r
def dropD : Int → List Int → Int
  | n, [] => n
  | n, b :: r => dropD (n / b) r
theorem digs_snoc : ∀ (n : Int) (bs : List Int) (b : Int), digs n (bs ++ [b]) = digs n bs ++ [dropD n bs % b]
  | n, [], b => rfl
  | n, c :: r, b => by
    rw [List.cons_append, digs, digs_snoc (n / c) r b]
    rfl
theorem dropD_snoc : ∀ (n : Int) (bs : List Int) (b : Int), dropD n (bs ++ [b]) = dropD n bs / b
  | n, [], b => rfl
  | n, c :: r, b => dropD_snoc (n / c) r b
theorem digs_length : ∀ (n : Int) (bs : List Int), (digs n bs).length = bs.length
  | n, [] => rfl
  | n, c :: r => by rw [digs, List.length_cons, List.length_cons, digs_length]
theorem dropD_nn : ∀ {n : Int} {bs : List Int}, 0 ≤ n → (∀ b ∈ bs, 0 < b) → 0 ≤ dropD n bs
  | _, [], h, _ => h
  | n, c :: r, h, hb => dropD_nn (n := n / c) (bs := r) (Int.ediv_nonneg h (Int.le_of_lt (hb c (.head _)))) fun b hm => hb b (.tail _ hm)
def digits_ok_P (c : Cx) : Prop := ∀ (hbs : IntsAre c.v1 c.k1) (hz : c.k1.length ≤ 1000) (hpos : ∀ b ∈ c.k1, 0 < b) (hsm : ∀ b ∈ c.k1, b < 1000000) (h0 : 0 ≤ c.i1) , CtNc c 309 6 60 ((c.a1, listOf c.v1.toArray c.n1) :: c.led) [.int c.i1 c.t1, .ref c.a1] True (fun v new => ∃ D ws k, v = .ref D ∧ new = [(D, listOf ws.toArray k)] ∧ IntsAre ws (digs c.i1 c.k1))
@[irreducible] noncomputable def digits_ok_c : Cx := pick cx_some digits_ok_P
noncomputable def digits_ok_g : Cut (digits_ok_P digits_ok_c) (Heap × Addr × Heap) := by
  refine Cut.mk3 (G := ?G) fun H => ?main
  rotate_left
  unfold digits_ok_P CtNc
  k_fill
  intro hbs hz hpos hsm h0 hB0 hF0 hX0 hN0 hT0 hk0 hd hu hpre hret
  refine wpAny_call ?_
  with_unfolding_all refine' code_def ?k1 ?k2 ?k3 ?k4 ?k5 ?kA ?kF ?kK ?k6 ?k7 ?k8 ?k9 ?kB ?_ ?c2 ?c3 ?c4 ?c5
  case kA => exact rfl
  case kF => exact rfl
  case kK => assumption
  case k1 => k_asm
  case k2 => k_asm
  case k3 => k_asm
  case k4 => k_asm
  case k5 => k_asm
  case k6 => k_is
  case k7 => k_is
  case k8 => exact Nat.lt_of_le_of_lt (Nat.le_add_right _ _) hd
  case k9 => exact BindsTo.of_eq (binds := [(Str.ofString "number", .int digits_ok_c.i1 digits_ok_c.t1), (Str.ofString "bases", .ref digits_ok_c.a1)]) rfl
  case c5 => decide
  case kB => exact locs rfl
  case c2 => exact rfl
  case c3 => exact rfl
  case c4 => exact rfl
  intro gH LH hH FGH FH NH BH XH TH
  (try dsimp only)
  (try k_lift BH)
  revert hbs hz hpos hsm h0 hB0 hX0 hT0 hk0 hd hu hpre hret FGH FH NH BH XH TH
  exact H gH LH hH
@[irreducible] noncomputable def digits_ok_d : Heap × Addr × Heap := pick ⟨(⟨#[], default⟩, 0, ⟨#[], default⟩)⟩ digits_ok_g.G
theorem digits_ok_t1 : digits_ok_g.G digits_ok_d := by
  intro hbs hz hpos hsm h0 hB0 hX0 hT0 hk0 hd hu hpre hret FGH FH NH BH XH TH
  have loops := myLoops
  (try k_fold)
  (repeat' (first | (k_unfold; (try dsimp only)) | walk1 | (dsimp only; walk1) | (leave1; (try dsimp only))))
  refine Held.go ?_
  (rename Fr _ _ _ _ => F); (rename News _ _ _ _ => N)
  (rename _ < _ ∧ AllLt _ _ => l1)
  have hlt1 := of_allLt (l := (digits_ok_c.a1, listOf digits_ok_c.v1.toArray digits_ok_c.n1) :: digits_ok_c.led) l1
  with_unfolding_all refine' kst_valsL (σ := List Value × Nat × Int × Tok) (fun c => (_, listOf c.1.toArray c.2.1) :: (digits_ok_c.a1, listOf digits_ok_c.v1.toArray digits_ok_c.n1) :: digits_ok_c.led) (fun c => [(Str.ofString "number", Value.int c.2.2.1 c.2.2.2)]) (fun _ => True) [] (fun pre c => IntsAre c.1 (digs digits_ok_c.i1 (digits_ok_c.k1.take pre.length)) ∧ c.2.2.1 = dropD digits_ok_c.i1 (digits_ok_c.k1.take pre.length)) ([], 0, _, _) (fun _ => .tail _ (.head _)) rfl F N trivial ?kk ?kp ?turn ?done
  case kk => kst_all
  case kp => exact ⟨.nil, rfl⟩
  case turn =>
    rintro ⟨vs, n, q, tq⟩ pre post v u h tk own he hoff _ hP' F' N'
    (try dsimp only [kstB] at F')
    dsimp only at hP' N'
    obtain ⟨hP1, rfl⟩ := hP'
    have hall := own_all (news := (digits_ok_c.a1, listOf digits_ok_c.v1.toArray digits_ok_c.n1) :: digits_ok_c.led) hlt1 hoff
    obtain ⟨b, tb, rfl, hb⟩ := hbs.at pre.length v (by rw [he]; simp)
    have hbm := List.mem_of_getElem? hb
    have hb0 := hpos b hbm
    have hb1 := hsm b hbm
    have htk : digits_ok_c.k1.take (pre.length + 1) = digits_ok_c.k1.take pre.length ++ [b] := by rw [List.take_add_one, hb]; rfl
    have hln : (digits_ok_c.k1.take pre.length).length ≤ 1000 := by rw [List.length_take]; omega
    have hsz : vs.toArray.size ≤ sizeLine := by
      have := hP1.length
      rw [List.size_toArray, sizeLine_eq, this, digs_length]
      omega
    have hq0 := dropD_nn (bs := digits_ok_c.k1.take pre.length) h0 (fun b hb => hpos b (List.mem_of_mem_take hb))
    rw [List.cons_append] at N' hall
    rw [List.cons_append] at N'
    clear hlt1 he
    (repeat' (first | (k_unfold; (try dsimp only)) | walk1 | (dsimp only; walk1) | (leave1; (try dsimp only))))
    refine Held.go ?_
    (rename Fr _ _ _ _ => F); (rename News _ _ _ _ => N)
    (try simp only [List.push_toArray] at N)
    refine kst_end (vs ++ [_], n + 1, _, _) F N memL2 (by intro p hp; simp [hp]) rfl trivial (by kst_all) (by kst_same) ⟨?_, ?_⟩
    · rw [List.length_append]
      show IntsAre _ (digs digits_ok_c.i1 (digits_ok_c.k1.take (pre.length + 1)))
      rw [htk, digs_snoc]
      rw [Int.fmod_eq_emod_of_nonneg _ (Int.le_of_lt hb0)]
      exact hP1.append (.cons _ _ .nil)
    · rw [List.length_append]
      show _ = dropD digits_ok_c.i1 (digits_ok_c.k1.take (pre.length + 1))
      rw [htk, dropD_snoc]
      exact Int.fdiv_eq_ediv_of_nonneg _ (Int.le_of_lt hb0)
  case done =>
    rintro ⟨vs, n, q, tq⟩ u h tk _ hP' F' N'
    (try dsimp only [kstB] at F')
    dsimp only at hP' N'
    rw [hbs.length, List.take_length] at hP'
    (repeat' (first | (k_unfold; (try dsimp only)) | walk1 | (dsimp only; walk1) | (leave1; (try dsimp only))))
    exact hret _ [_] _ _ ⟨_, _, _, rfl, rfl, hP'.1⟩ (by k_asm) (by k_asm) (by intro p hp q hq; rw [List.mem_singleton.mp hq]; exact of_allLt (l := (digits_ok_c.a1, listOf digits_ok_c.v1.toArray digits_ok_c.n1) :: digits_ok_c.led) l1 p hp)
theorem digits_ok (r : Rw) (w : World) (mean : ExcName → Option Value) (mg mb : Str → Option Value) (rest : Led) (number : Int) (t : Tok) (bl : Addr) (bs : List Value) (nb : Nat) (ks : List Int) (hbs : IntsAre bs ks) (hz : ks.length ≤ 1000) (hpos : ∀ b ∈ ks, 0 < b) (hsm : ∀ b ∈ ks, b < 1000000) (h0 : 0 ≤ number) :
    CtN w mean mg mb 309 6 60 ((bl, listOf bs.toArray nb) :: rest) [.int number t, .ref bl] True (fun v new => ∃ D ws k, v = .ref D ∧ new = [(D, listOf ws.toArray k)] ∧ IntsAre ws (digs number ks)) := by
  intro dp9 un9 gd9 cn9 cs9 a9 ccd9 cl9 outer9 A₀9 base9 h₀9 L9 m9 s9 Q9 E9
  exact pick_all (ne := cx_some) (by with_unfolding_all rfl) (digits_ok_g.go (pick_all (ne := ⟨(⟨#[], default⟩, 0, ⟨#[], default⟩)⟩) (by with_unfolding_all rfl) digits_ok_t1)) { cx0 with w := w, mean := mean, mg := mg, mb := mb, dp := dp9, un := un9, gd := gd9, cn := cn9, cs := cs9, a := a9, ccd := ccd9, cl := cl9, outer := outer9, A₀ := A₀9, base := base9, h₀ := h₀9, L := L9, m := m9, s := s9, Q := Q9, E := E9, led := rest, i1 := number, t1 := t, a1 := bl, v1 := bs, n1 := nb, k1 := ks } hbs hz hpos hsm h0
-- part C1
section
open LCg LCt
variable {prog : Program} {w : World} {A : Around} {E : Value → Shared → Prop} {s : Shared} {h₀ : Heap} {L : Addr} {m : Str → Option Value} {env : Env}
/-- what a turn of a comprehension over octets takes -/
abbrev OctAt (b : Array UInt8) (i : Nat) (v : Value) : Prop := ∃ n u, b[i]? = some n ∧ v = Value.int (n.toNat : Int) u
theorem oct_frame {I : Addr} {b : Array UInt8} {t : Tok} : ∀ i (h h' : Heap) (o : Obj) (nw : List (Addr × Obj)), KBw.IsBytesIter h I b t i → h.get? I = some o → h'.get? I = some o → (∀ b o, h₀.get? b = some o → h'.get? b = some o) → News h₀ L h' nw → True → KBw.IsBytesIter h' I b t i :=
  fun i h h' o nw st e e' _ _ _ => by
    obtain ⟨o', q, r⟩ := st
    rw [e] at q
    cases q
    exact ⟨o, e', r⟩
/-- a comprehension over octets -/
def CompSrcB (prog : Program) (w : World) (A : Around) (h₀ : Heap) (L : Addr) (m : Str → Option Value) (env : Env) (elt : Expr) (x : Str) (scope : Scope) (cl : List (Str × Addr)) (Fin : Shared → List Value → List (Addr × Obj) → Prop) (xv : Value) (s₁ : Shared) : Prop :=
  ∃ b t news, xv = .bytes b t ∧ A.handled = none ∧ Fr h₀ L s₁.heap m ∧ News h₀ L s₁.heap news ∧ b.size ≤ sizeLine ∧
    ∀ s₂ : Shared, (∃ h, s₂ = { s₁ with heap := h }) → CompRest prog w A h₀ L m env elt x scope cl s₂ (fun _ => True) (OctAt b) (Fin s₂) b.size 0 [] news
theorem ListComp_B {elt iter : Expr} {x : Str} {px : Pos} {scope : Scope} {cl : List (Str × Addr)} {pos : Pos} {Q : Value → Shared → Prop} (F₀ : Fr h₀ L s.heap m)
    (hclos : closureFor scope env = pure cl) (hcell : ∀ y ∈ scope.names, y.2 ≠ .cell) (hkind : scope.kind = .function)
    (hnames : ∀ y ∈ scope.names, y.2 = .local → scope.names.lookup y.1 = some .local) (hx : scope.names.lookup x = some .local)
    (h : wpAny (model prog w) A (eval iter env) (CompSrcB prog w A h₀ L m env elt x scope cl (fun s₂ => FinE h₀ L m s₂ Q)) E s)
    (hs : ∀ x, foldedSetIterable iter env x = pure x := by intro _; rfl) :
    wpAny (model prog w) A (eval (.ListComp elt [⟨.Name x px, iter, [], 0⟩] scope pos) env) Q E s := by
  rw [eval_ListComp]
  refine wpAny_comprehension_free (use := none) rfl hs hclos hkind hnames (wpAny_mono h (fun xv s₁ h₁ => ?_) fun _ _ e => e)
  obtain ⟨b, t, news, rfl, hh, F, N, hsz, R⟩ := h₁
  refine KBw.pyIter_bytes ?_
  refine block_U (KBw.walks hh s₁.heap.objs.size b t) hsz (fun i h st => by obtain ⟨o, e, _⟩ := st; exact ⟨o, e⟩) oct_frame hcell hkind hx ⟨_, Heap.get?_push_size _ rfl, rfl, rfl⟩ (fun b hb => ?_)
    (F.keeps fun _ _ e => Heap.get?_push_of_some _ e) (N.grown fun _ _ e => Heap.get?_push_of_some _ e) (Nat.ne_of_lt F.ns.lt) (next_is_new F) (fun p hp => Nat.ne_of_lt (Heap.lt_size (N p hp).1)) trivial (R _ ⟨_, rfl⟩) ?_
  · rw [List.mem_singleton.mp hb]
    show s₁.heap.objs.size < (s₁.heap.push _).objs.size
    rw [Heap.size_push]; exact Nat.lt_succ_self _
  · intro D C h tk m' ys news' F' N' o1 hn hC₀ hD₀ hCL hDL hCD offC fin
    refine ⟨m', hn, fun h'' hs'' => fin D h'' tk (F'.change hs'' hCL hC₀) (fun p hp => ?_) o1⟩
    refine ⟨hs''.extBut _ _ ?_ (N' p hp).1, (N' p hp).2⟩
    rcases List.mem_cons.mp hp with rfl | hp
    · exact Ne.symm hCD
    · exact offC p hp
/-- a comprehension over octets with a test -/
def CompSrcBT (prog : Program) (w : World) (A : Around) (h₀ : Heap) (L : Addr) (m : Str → Option Value) (env : Env) (ct elt : Expr) (x : Str) (scope : Scope) (cl : List (Str × Addr)) (Fin : Shared → List Value → List (Addr × Obj) → Prop) (xv : Value) (s₁ : Shared) : Prop :=
  ∃ b t news, xv = .bytes b t ∧ A.handled = none ∧ Fr h₀ L s₁.heap m ∧ News h₀ L s₁.heap news ∧ b.size ≤ sizeLine ∧
    ∀ s₂ : Shared, (∃ h, s₂ = { s₁ with heap := h }) → CompRestT prog w A h₀ L m env ct elt x scope cl s₂ (fun _ => True) (OctAt b) (Fin s₂) b.size 0 [] news
theorem ListComp_BT {ct elt iter : Expr} {x : Str} {px : Pos} {scope : Scope} {cl : List (Str × Addr)} {pos : Pos} {Q : Value → Shared → Prop} (F₀ : Fr h₀ L s.heap m)
    (hclos : closureFor scope env = pure cl) (hcell : ∀ y ∈ scope.names, y.2 ≠ .cell) (hkind : scope.kind = .function)
    (hnames : ∀ y ∈ scope.names, y.2 = .local → scope.names.lookup y.1 = some .local) (hx : scope.names.lookup x = some .local)
    (h : wpAny (model prog w) A (eval iter env) (CompSrcBT prog w A h₀ L m env ct elt x scope cl (fun s₂ => FinE h₀ L m s₂ Q)) E s)
    (hs : ∀ x, foldedSetIterable iter env x = pure x := by intro _; rfl) :
    wpAny (model prog w) A (eval (.ListComp elt [⟨.Name x px, iter, [ct], 0⟩] scope pos) env) Q E s := by
  rw [eval_ListComp]
  refine wpAny_comprehension_free (use := none) rfl hs hclos hkind hnames (wpAny_mono h (fun xv s₁ h₁ => ?_) fun _ _ e => e)
  obtain ⟨b, t, news, rfl, hh, F, N, hsz, R⟩ := h₁
  refine KBw.pyIter_bytes ?_
  refine block_T (KBw.walks hh s₁.heap.objs.size b t) hsz (fun i h st => by obtain ⟨o, e, _⟩ := st; exact ⟨o, e⟩) oct_frame hcell hkind hx ⟨_, Heap.get?_push_size _ rfl, rfl, rfl⟩ (fun b hb => ?_)
    (F.keeps fun _ _ e => Heap.get?_push_of_some _ e) (N.grown fun _ _ e => Heap.get?_push_of_some _ e) (Nat.ne_of_lt F.ns.lt) (next_is_new F) (fun p hp => Nat.ne_of_lt (Heap.lt_size (N p hp).1)) trivial (R _ ⟨_, rfl⟩) ?_
  · rw [List.mem_singleton.mp hb]
    show s₁.heap.objs.size < (s₁.heap.push _).objs.size
    rw [Heap.size_push]; exact Nat.lt_succ_self _
  · intro D C h tk m' ys news' F' N' o1 hn hC₀ hD₀ hCL hDL hCD offC fin
    refine ⟨m', hn, fun h'' hs'' => fin D h'' tk (F'.change hs'' hCL hC₀) (fun p hp => ?_) o1⟩
    refine ⟨hs''.extBut _ _ ?_ (N' p hp).1, (N' p hp).2⟩
    rcases List.mem_cons.mp hp with rfl | hp
    · exact Ne.symm hCD
    · exact offC p hp
/-- a comprehension's turns with a test, by an invariant -/
theorem comp_turnsT {ct elt : Expr} {x : Str} {scope : Scope} {cl : List (Str × Addr)} {S : List (Addr × Obj) → Prop} {P : Nat → Value → Prop} {Fin : List Value → List (Addr × Obj) → Prop} {news : Led} {n : Nat} (Inv : Nat → List Value → Prop)
    (step : ∀ i v ys I oI C oC D m₂ h tk (E' : Value → Shared → Prop), i < n → Inv i ys → P i v → NsObj oC m₂ → m₂ x = some v → Fr h₀ L h m → News h₀ L h ((I, oI) :: (C, oC) :: (D, LCg.lst ys) :: news) → Off3 I C D news → ((@Ne Nat I C) ∧ (@Ne Nat I D) ∧ (@Ne Nat C D)) →
      wpAny (model prog w) A (isTrue ct (compEnvC scope cl C env) (eval ct (compEnvC scope cl C env))) (fun ok s' => if ok = true then
        wpAny (model prog w) A (eval elt (compEnvC scope cl C env)) (CompEnd h₀ L m { s with heap := h, toks := tk } I oI C oC D (LCg.lst ys) S (fun y news' => news' = news ∧ Inv (i + 1) (ys ++ [y]))) E' s'
        else CompEnd h₀ L m { s with heap := h, toks := tk } I oI C oC D (LCg.lst ys) S (fun _ news' => news' = news ∧ Inv (i + 1) ys) Value.none s') E' { s with heap := h, toks := tk })
    (fin : ∀ ys, Inv n ys → Fin ys news) : ∀ k i ys, i + k = n → Inv i ys → CompRestT prog w A h₀ L m env ct elt x scope cl s S P Fin k i ys news
  | 0, i, ys, e, hI => by
    obtain rfl : i = n := by omega
    exact fin ys hI
  | k + 1, i, ys, e, hI => by
    intro v I oI C oC D m₂ h tk E' hP hN hm F N off ne
    refine wpAny_mono (step i v ys I oI C oC D m₂ h tk E' (by omega) hI hP hN hm F N off ne) (fun ok s₂ hy => ?_) fun _ _ z => z
    cases ok with
    | true =>
      rw [if_pos rfl] at hy ⊢
      refine wpAny_mono hy (fun y s₃ hy => ?_) fun _ _ z => z
      obtain ⟨h', tk', news', e1, e2, e3, e4, e5, rfl, e7⟩ := hy
      exact ⟨h', tk', news', e1, e2, e3, e4, e5, comp_turnsT Inv step fin k (i + 1) (ys ++ [y]) (by omega) e7⟩
    | false =>
      rw [if_neg Bool.false_ne_true] at hy ⊢
      obtain ⟨h', tk', news', e1, e2, e3, e4, e5, rfl, e7⟩ := hy
      exact ⟨h', tk', news', e1, e2, e3, e4, e5, comp_turnsT Inv step fin k (i + 1) ys (by omega) e7⟩
theorem CompSrcB.intro {elt : Expr} {x : Str} {scope : Scope} {cl : List (Str × Addr)} {Fin : Shared → List Value → List (Addr × Obj) → Prop} {b : Array UInt8} {t : Tok} {bs : List Int} {news : Led} {s₁ : Shared}
    (hh : A.handled = none) (F : Fr h₀ L s₁.heap m) (N : News h₀ L s₁.heap news) (hb : KBw.bInts b = bs) (hsz : bs.length ≤ 100000)
    (h : ∀ g, CompRest prog w A h₀ L m env elt x scope cl { s₁ with heap := g } (fun _ => True) (fun i v => ∃ n u, bs[i]? = some n ∧ 0 ≤ n ∧ n < 256 ∧ v = Value.int n u) (Fin { s₁ with heap := g }) bs.length 0 [] news) :
    CompSrcB prog w A h₀ L m env elt x scope cl Fin (.bytes b t) s₁ := by
  subst hb
  refine ⟨b, t, news, rfl, hh, F, N, by rw [← KBw.ints_length, sizeLine_eq]; omega, ?_⟩
  rintro s₂ ⟨g, rfl⟩
  have e := h g
  rw [KBw.ints_length] at e
  have up : ∀ i v, OctAt b i v → ∃ n u, (KBw.bInts b)[i]? = some n ∧ 0 ≤ n ∧ n < 256 ∧ v = Value.int n u := by
    rintro i v ⟨n, u, hn, rfl⟩
    have hn' := KBw.ints_get hn
    have hb := KBw.ints_in (List.mem_of_getElem? hn')
    exact ⟨_, u, hn', hb.1, hb.2, rfl⟩
  have key : ∀ k i ys news, CompRest prog w A h₀ L m env elt x scope cl { s₁ with heap := g } (fun _ => True) (fun i v => ∃ n u, (KBw.bInts b)[i]? = some n ∧ 0 ≤ n ∧ n < 256 ∧ v = Value.int n u) (Fin { s₁ with heap := g }) k i ys news →
      CompRest prog w A h₀ L m env elt x scope cl { s₁ with heap := g } (fun _ => True) (OctAt b) (Fin { s₁ with heap := g }) k i ys news := by
    intro k
    induction k with
    | zero => exact fun _ _ _ h => h
    | succ k ih =>
      intro i ys news h v I oI C oC D m₂ h' tk E' hP hN hm F N off ne
      refine wpAny_mono (h v I oI C oC D m₂ h' tk E' (up i v hP) hN hm F N off ne) (fun y s₂ hy => ?_) fun _ _ z => z
      obtain ⟨h', tk', news', e1, e2, e3, e4, e5, e6⟩ := hy
      exact ⟨h', tk', news', e1, e2, e3, e4, e5, ih _ _ _ e6⟩
  exact key _ _ _ _ e
theorem CompSrcBT.intro {ct elt : Expr} {x : Str} {scope : Scope} {cl : List (Str × Addr)} {Fin : Shared → List Value → List (Addr × Obj) → Prop} {b : Array UInt8} {t : Tok} {bs : List Int} {news : Led} {s₁ : Shared}
    (hh : A.handled = none) (F : Fr h₀ L s₁.heap m) (N : News h₀ L s₁.heap news) (hb : KBw.bInts b = bs) (hsz : bs.length ≤ 100000)
    (h : ∀ g, CompRestT prog w A h₀ L m env ct elt x scope cl { s₁ with heap := g } (fun _ => True) (fun i v => ∃ n u, bs[i]? = some n ∧ 0 ≤ n ∧ n < 256 ∧ v = Value.int n u) (Fin { s₁ with heap := g }) bs.length 0 [] news) :
    CompSrcBT prog w A h₀ L m env ct elt x scope cl Fin (.bytes b t) s₁ := by
  subst hb
  refine ⟨b, t, news, rfl, hh, F, N, by rw [← KBw.ints_length, sizeLine_eq]; omega, ?_⟩
  rintro s₂ ⟨g, rfl⟩
  have e := h g
  rw [KBw.ints_length] at e
  have up : ∀ i v, OctAt b i v → ∃ n u, (KBw.bInts b)[i]? = some n ∧ 0 ≤ n ∧ n < 256 ∧ v = Value.int n u := by
    rintro i v ⟨n, u, hn, rfl⟩
    have hn' := KBw.ints_get hn
    have hb := KBw.ints_in (List.mem_of_getElem? hn')
    exact ⟨_, u, hn', hb.1, hb.2, rfl⟩
  have key : ∀ k i ys news, CompRestT prog w A h₀ L m env ct elt x scope cl { s₁ with heap := g } (fun _ => True) (fun i v => ∃ n u, (KBw.bInts b)[i]? = some n ∧ 0 ≤ n ∧ n < 256 ∧ v = Value.int n u) (Fin { s₁ with heap := g }) k i ys news →
      CompRestT prog w A h₀ L m env ct elt x scope cl { s₁ with heap := g } (fun _ => True) (OctAt b) (Fin { s₁ with heap := g }) k i ys news := by
    intro k
    induction k with
    | zero => exact fun _ _ _ h => h
    | succ k ih =>
      intro i ys news h v I oI C oC D m₂ h' tk E' hP hN hm F N off ne
      refine wpAny_mono (h v I oI C oC D m₂ h' tk E' (up i v hP) hN hm F N off ne) (fun ok s₂ hy => ?_) fun _ _ z => z
      cases ok with
      | true =>
        rw [if_pos rfl] at hy ⊢
        refine wpAny_mono hy (fun y s₃ hy => ?_) fun _ _ z => z
        obtain ⟨h', tk', news', e1, e2, e3, e4, e5, e6⟩ := hy
        exact ⟨h', tk', news', e1, e2, e3, e4, e5, ih _ _ _ e6⟩
      | false =>
        rw [if_neg Bool.false_ne_true] at hy ⊢
        obtain ⟨h', tk', news', e1, e2, e3, e4, e5, e6⟩ := hy
        exact ⟨h', tk', news', e1, e2, e3, e4, e5, ih _ _ _ e6⟩
  exact key _ _ _ _ e
end
-- part L4
section
variable {prog : Program} {w : World} {A : Around} {E : Value → Shared → Prop} {s : Shared} {env : Env} {h₀ : Heap} {target : Expr} {body : List Stmt} {Q : Flow → Shared → Prop}
/-- what stands behind a turn of a loop over rows -/
def RowJ (stored : List Str) (m₀ : Str → Option Value) (news : Led) (P : Prop) (m : Str → Option Value) (nx : Led) : Prop := nx = news ∧ (∀ z, stored.contains z = false → m z = m₀ z) ∧ P
theorem AllObj.one {a : Addr} {c : String} {k : Led → Prop} (h : ∀ o : Obj, o.cls = .type c → k [(a, o)]) : AllObj [(a, c)] k := AllObj.cons fun o ho => AllObj.nil (h o ho)
/-- a loop with several names over a list of rows -/
theorem rows_loop {D : Addr} {vs : List Value} {nn : Nat} {m₀ : Str → Option Value} {news : Led} (stored : List Str) (P : List Value → Prop) (hh : A.handled = none) (hm : (D, listOf vs.toArray nn) ∈ news) (F : Fr h₀ env.locals s.heap m₀) (N : News h₀ env.locals s.heap news) (hp : P vs)
    (turn : ∀ (v : Value) (r : List Value) (u : Str → Option Value) (h : Heap) (tk : Nat) (I : Addr) (it : Obj), P (v :: r) → (∀ p ∈ news, p.1 < I) → Fr h₀ env.locals h (fun y => if stored.contains y = true then u y else m₀ y) → News h₀ env.locals h ((I, it) :: news) →
      wpAny (model prog w) A (assign target env v) (fun _ s₂ => wpAny (model prog w) A (execs body env) (InvPostN h₀ env.locals (RowJ stored m₀ news (P r)) [(I, it)] (news.map (·.1)) { s with heap := h, toks := tk } Q) E s₂) E { s with heap := h, toks := tk })
    (done : ∀ (u : Str → Option Value) (h : Heap) (tk : Nat), P [] → Fr h₀ env.locals h (fun y => if stored.contains y = true then u y else m₀ y) → News h₀ env.locals h news → Q .next { s with heap := h, toks := tk }) :
    wpAny (model prog w) A (pyIter (.ref D)) (fun it s₂ => TurnsAt prog w A h₀ env target body Q E it s₂) E s := by
  have frame : ∀ {m : Str → Option Value}, (∀ z, stored.contains z = false → m z = m₀ z) → m = fun y => if stored.contains y = true then m y else m₀ y := fun {m} hr => by
    funext y
    by_cases hy : stored.contains y = true
    · rw [if_pos hy]
    · rw [if_neg hy]; exact hr y (Bool.eq_false_iff.mpr hy)
  refine iter_listTurns (lo := listOf vs.toArray nn) (vs := vs) (n := nn) hh F N hm rfl rfl fun I hI => ?_
  have key : ∀ (r : List Value) (m : Str → Option Value), (∀ z, stored.contains z = false → m z = m₀ z) → P r → ItemsRest prog w A E h₀ env target body Q s [(I, "list_iterator")] [(D, listOf vs.toArray nn)] (r.map .val) m news := by
    intro r
    induction r with
    | nil =>
      intro m hr hp
      refine ItemsRest.zero fun h tk F N => ?_
      rw [frame hr] at F
      exact done m h tk hp F N
    | cons v r ih =>
      intro m hr hp
      refine ItemsRest.val fun h tk F => AllObj.one fun it _ N => ?_
      rw [frame hr] at F
      refine wpAny_mono (turn v r m h tk I it hp hI F N) (fun _ s₂ p => wpAny_mono p (fun f s₃ q => ?_) fun _ _ e => e) fun _ _ e => e
      have fin : InvEndN h₀ env.locals (RowJ stored m₀ news (P r)) [(I, it)] (news.map (·.1)) { s with heap := h, toks := tk } s₃ →
          UnrEndW h₀ env.locals { s with heap := h, toks := tk } [(I, it)] (fun m' n' => SubL [(D, listOf vs.toArray nn)] n' ∧ ItemsRest prog w A E h₀ env target body Q s [(I, "list_iterator")] [(D, listOf vs.toArray nn)] (r.map .val) m' n') s₃ := by
        rintro ⟨h', tk', m', news', nx, e, F', N', hn, ho, _, rfl, hr', hp'⟩
        refine ⟨h', tk', m', _, e, F', fun p hp => N' p ((List.mem_append.mp hp).elim (ho p) (hn p)), fun p hp q hq => ?_, ⟨hm, trivial⟩, ih m' hr' hp'⟩
        rw [List.mem_singleton.mp hq]
        exact Nat.ne_of_lt (hI p hp)
      cases f with
      | ret v => exact q
      | brk => exact q
      | next => exact fin q
      | cont => exact fin q
  exact key vs m₀ (fun _ _ => rfl) hp
theorem row_end {stored : List Str} {m₀ m' : Str → Option Value} {news news' own : Led} {P : Prop} {L : Addr} {s₁ : Shared} {h' : Heap} {tk : Nat} (F : Fr h₀ L h' m') (N : News h₀ L h' news') (hn : ∀ p ∈ news, p ∈ news') (ho : ∀ p ∈ own, p ∈ news')
    (hr : ∀ z, stored.contains z = false → m' z = m₀ z) (hp : P) : InvEndN h₀ L (RowJ stored m₀ news P) own (news.map (·.1)) s₁ { s₁ with heap := h', toks := tk } := InvEndN.intro F N ⟨rfl, hr, hp⟩ rfl hn ho
end
theorem if_not {p : Prop} [Decidable p] {α : Type} {x y z : α} (h : ¬ p) (e : y = z) : (if p then x else y) = z := (if_neg h).trans e
-- part G1
abbrev Row5 := Int × Int × Int × Int × Int
def formTab : List Row5 := [(0, 127, 128, 191, 1), (194, 223, 128, 191, 2), (224, 224, 160, 191, 3), (225, 239, 128, 191, 3), (240, 240, 144, 191, 4), (241, 243, 128, 191, 4), (244, 244, 128, 143, 4)]
/-- the values are rows that stand in the ledger -/
def RowsAre (led : Led) : List Value → List Row5 → Prop
  | [], [] => True
  | v :: vs, f :: fs => (∃ T t1 t2 t3 t4 t5, v = .ref T ∧ tup T [.int f.1 t1, .int f.2.1 t2, .int f.2.2.1 t3, .int f.2.2.2.1 t4, .int f.2.2.2.2 t5] ∈ led) ∧ RowsAre led vs fs
  | _, _ => False
theorem forms_ok (r : Rw) (w : World) (mean : ExcName → Option Value) (mg mb : Str → Option Value) (news : Led) :
    CtN w mean mg mb 295 4 40 news [] True (fun v new => ∃ D vs n own, v = .ref D ∧ new = (D, listOf vs.toArray n) :: own ∧ RowsAre own vs formTab ∧ ∀ p ∈ own, p.1 < D) := by
  unfold CtN
  k_fill
  intros
  rename_i hd hu hpre hret
  (((refine wpAny_call ?_); k_dflt cell_enter))
  (repeat' (first | (k_unfold; (try dsimp only)) | walk1 | (dsimp only; walk1) | (leave1; (try dsimp only))))
  (rename ∀ p ∈ news, p.1 < _ => a0)
  (rename _ < _ ∧ AllLt _ news => a1)
  (rename _ < _ ∧ _ < _ ∧ AllLt _ news => a2)
  (rename _ < _ ∧ _ < _ ∧ _ < _ ∧ AllLt _ news => a3)
  (rename _ < _ ∧ _ < _ ∧ _ < _ ∧ _ < _ ∧ AllLt _ news => a4)
  (rename _ < _ ∧ _ < _ ∧ _ < _ ∧ _ < _ ∧ _ < _ ∧ AllLt _ news => a5)
  (rename _ < _ ∧ _ < _ ∧ _ < _ ∧ _ < _ ∧ _ < _ ∧ _ < _ ∧ AllLt _ news => a6)
  (rename _ < _ ∧ _ < _ ∧ _ < _ ∧ _ < _ ∧ _ < _ ∧ _ < _ ∧ _ < _ ∧ AllLt _ news => a7)
  (rename News _ _ _ ((_, listOf _ _) :: _) => N9)
  refine hret _ [_, _, _, _, _, _, _, _] _ _ ⟨_, [_, _, _, _, _, _, _], _, [_, _, _, _, _, _, _], rfl, rfl, ?rows, ?own⟩ (by k_asm) N9 ?lt
  case rows => exact ⟨⟨_, _, _, _, _, _, rfl, by k_mem⟩, ⟨_, _, _, _, _, _, rfl, by k_mem⟩, ⟨_, _, _, _, _, _, rfl, by k_mem⟩, ⟨_, _, _, _, _, _, rfl, by k_mem⟩, ⟨_, _, _, _, _, _, rfl, by k_mem⟩, ⟨_, _, _, _, _, _, rfl, by k_mem⟩, ⟨_, _, _, _, _, _, rfl, by k_mem⟩, trivial⟩
  case own =>
    obtain ⟨b1, b2, b3, b4, b5, b6, b7, _⟩ := a7
    exact of_allLt (l := [_, _, _, _, _, _, _]) ⟨b1, b2, b3, b4, b5, b6, b7, trivial⟩
  case lt =>
    intro p hp q hq
    simp only [List.mem_cons, List.not_mem_nil, or_false] at hq
    rcases hq with rfl | rfl | rfl | rfl | rfl | rfl | rfl | rfl
    · exact of_allLt a7.2.2.2.2.2.2.2 p hp
    · exact of_allLt a6.2.2.2.2.2.2 p hp
    · exact of_allLt a5.2.2.2.2.2 p hp
    · exact of_allLt a4.2.2.2.2 p hp
    · exact of_allLt a3.2.2.2 p hp
    · exact of_allLt a2.2.2 p hp
    · exact of_allLt a1.2 p hp
    · exact a0 p hp
-- part G2
local macro_rules | `(tactic| walk_at "exec For Tuple Call cons nil") => `(tactic| ((with_reducible rename MyLoops => loops9); (k_here; (rename Fr _ _ _ _ => lF'); (with_unfolding_all refine' For_turns lF' ?_; k_whole))))
local macro_rules | `(tactic| walk_at "pyIter ref") => `(tactic| ((with_reducible rename MyLoops => loops9); ((with_reducible show wpAny _ _ (pyIter (Value.ref _)) (fun it s₂ => TurnsAt _ _ _ _ _ _ _ _ _ it s₂) _ _); refine held ?_)))
def rowHit (ks : List Int) (i : Int) (f : Row5) : Bool :=
  decide (f.1 ≤ ks.getD i.toNat 0) && decide (ks.getD i.toNat 0 ≤ f.2.1) && decide (((seg ks (i + 1) (i + f.2.2.2.2)).length : Int) = f.2.2.2.2 - 1) &&
  (decide (f.2.2.2.2 = 1) || (decide (f.2.2.1 ≤ (seg ks (i + 1) (i + f.2.2.2.2)).getD 0 0) && decide ((seg ks (i + 1) (i + f.2.2.2.2)).getD 0 0 ≤ f.2.2.2.1) && ((seg ks (i + 1) (i + f.2.2.2.2)).drop 1).all fun o => decide (128 ≤ o) && decide (o ≤ 191)))
def formAt (ks : List Int) (i : Int) : List Row5 → Int
  | [] => 0
  | f :: r => if rowHit ks i f = true then f.2.2.2.2 else formAt ks i r
theorem rowHit_iff {ks : List Int} {i : Int} {a1 a2 a3 a4 a5 : Int} : rowHit ks i (a1, a2, a3, a4, a5) = true ↔ a1 ≤ ks.getD i.toNat 0 ∧ ks.getD i.toNat 0 ≤ a2 ∧ ((seg ks (i + 1) (i + a5)).length : Int) = a5 - 1 ∧
    (a5 = 1 ∨ (a3 ≤ (seg ks (i + 1) (i + a5)).getD 0 0 ∧ (seg ks (i + 1) (i + a5)).getD 0 0 ≤ a4 ∧ ((seg ks (i + 1) (i + a5)).drop 1).filter (fun o => !(decide (128 ≤ o) && decide (o ≤ 191))) = [])) := by
  unfold rowHit
  simp only [Bool.and_eq_true, Bool.or_eq_true, decide_eq_true_eq, List.all_eq_true, List.filter_eq_nil_iff, Bool.not_eq_true', Bool.and_eq_false_iff, and_assoc, Bool.not_eq_false, not_or, decide_eq_false_iff_not, Decidable.not_not]
theorem segT_of {ks : List Int} {k : Int} (h : 0 ≤ k) : List.take (ks.length - clipAt ks.length k) (List.drop (clipAt ks.length k) ks) = List.drop k.toNat ks := by
  rw [clip_nn h, List.take_of_length_le (by rw [List.length_drop]; omega)]
  by_cases hk : k.toNat ≤ ks.length
  · rw [Nat.min_eq_left hk]
  · rw [Nat.min_eq_right (by omega), List.drop_eq_nil_of_le (Nat.le_refl _), List.drop_eq_nil_of_le (by omega)]
theorem form_hit {ks : List Int} {i : Int} {f : Row5} {r : List Row5} (h : rowHit ks i f = true) : formAt ks i (f :: r) = f.2.2.2.2 := if_pos h
theorem form_miss {ks : List Int} {i : Int} {f : Row5} {r : List Row5} (h : ¬ rowHit ks i f = true) : formAt ks i (f :: r) = formAt ks i r := if_neg h
theorem sub_tl2 {news own : Led} {x : Addr × Obj} : ∀ q ∈ news, q ∈ x :: (own ++ news) := fun _ hq => .tail _ (List.mem_append_right _ hq)
def form_ok_P (c : Cx) : Prop := ∀ (hks : KBw.bInts c.b1 = c.k1) (hz : c.k1.length ≤ 100000) (h0 : 0 ≤ c.i1) (h1 : c.i1 < (c.k1.length : Int)) , CtNc c 321 8 100 c.led [.bytes c.b1 c.t1, .int c.i1 c.t2] True (fun v new => new = [] ∧ ∃ tt, v = .int (formAt c.k1 c.i1 formTab) tt)
@[irreducible] noncomputable def form_ok_c : Cx := pick cx_some form_ok_P
noncomputable def form_ok_g : Cut (form_ok_P form_ok_c) (Heap × Addr × Heap) := by
  refine Cut.mk3 (G := ?G) fun H => ?main
  rotate_left
  unfold form_ok_P CtNc
  k_fill
  intro hks hz h0 h1 hB0 hF0 hX0 hN0 hT0 hk0 hd hu hpre hret
  refine wpAny_call ?_
  with_unfolding_all refine' code_def ?k1 ?k2 ?k3 ?k4 ?k5 ?kA ?kF ?kK ?k6 ?k7 ?k8 ?k9 ?kB ?_ ?c2 ?c3 ?c4 ?c5
  case kA => exact rfl
  case kF => exact rfl
  case kK => assumption
  case k1 => k_asm
  case k2 => k_asm
  case k3 => k_asm
  case k4 => k_asm
  case k5 => k_asm
  case k6 => k_is
  case k7 => k_is
  case k8 => exact Nat.lt_of_le_of_lt (Nat.le_add_right _ _) hd
  case k9 => exact BindsTo.of_eq (binds := [(Str.ofString "octets", .bytes form_ok_c.b1 form_ok_c.t1), (Str.ofString "at", .int form_ok_c.i1 form_ok_c.t2)]) rfl
  case c5 => decide
  case kB => exact locs rfl
  case c2 => exact rfl
  case c3 => exact rfl
  case c4 => exact rfl
  intro gH LH hH FGH FH NH BH XH TH
  (try dsimp only)
  (try k_lift BH)
  revert hks hz h0 h1 hB0 hX0 hT0 hk0 hd hu hpre hret FGH FH NH BH XH TH
  exact H gH LH hH
@[irreducible] noncomputable def form_ok_d : Heap × Addr × Heap := pick ⟨(⟨#[], default⟩, 0, ⟨#[], default⟩)⟩ form_ok_g.G
theorem form_ok_t1 : form_ok_g.G form_ok_d := by
  intro hks hz h0 h1 hB0 hX0 hT0 hk0 hd hu hpre hret FGH FH NH BH XH TH
  have loops := myLoops
  have calls := myCalls
  (try k_fold)
  (repeat' (first | (k_unfold; (try dsimp only)) | walk1 | (dsimp only; walk1) | (leave1; (try dsimp only)) | (refine Held.go ?_; first | ((with_reducible show wpAny _ _ (call (Value.ref _) _) _ _ _); first | ((k_here; (k_dflt refine' ctn_use (forms_ok ⟨_, rfl⟩ _ _ _ _ _) ?k1 ?k2 ?k3 ?k4 ?k5 ?kK ?kd ?ku ?kp ?_); (((case k1 => k_asm); (case k2 => k_asm); (case k3 => k_asm); (case k4 => k_asm); (case k5 => k_asm); (case kK => first | exact rfl | assumption); (case kd => first | exact room2 (by assumption) rfl | ktr_room); (case ku => first | exact unit2 (by assumption) rfl | ktr_units))); (case kp => trivial); (intro v9 new9 h9 tk9 R9 F9 N9 l9); (obtain ⟨D9, vs9, n9, own9, q9, q9', e9, z9⟩ := R9); (subst q9 q9'); (try dsimp only); (try simp only [List.cons_append] at N9); (try k_fold)))))))
  refine Held.go ?_
  (rename Fr _ _ _ _ => F); (rename News _ _ _ _ => N); (rename RowsAre _ _ _ => hR); (rename ∀ p ∈ (_ : Led), p.1 < _ => hown)
  refine rows_loop [Str.ofString "first", Str.ofString "last", Str.ofString "low", Str.ofString "high", Str.ofString "many", Str.ofString "rest"] (fun vs => ∃ fs, RowsAre _ vs fs ∧ formAt form_ok_c.k1 form_ok_c.i1 fs = formAt form_ok_c.k1 form_ok_c.i1 formTab ∧ ∀ f ∈ fs, 1 ≤ f.2.2.2.2 ∧ f.2.2.2.2 ≤ 4) rfl (.head _) F N ⟨formTab, hR, rfl, by decide⟩ ?turn ?done
  case done =>
    rintro u h tk ⟨fs, hRf, hfs, _⟩ F' N'
    obtain rfl : fs = [] := by cases fs <;> first | rfl | exact hRf.elim
    (repeat' (first | (k_unfold; (try dsimp only)) | walk1 | (dsimp only; walk1) | (leave1; (try dsimp only)) | (refine Held.go ?_; first | ((with_reducible show wpAny _ _ (call (Value.ref _) _) _ _ _); first | ((k_here; (k_dflt refine' ctn_use (forms_ok ⟨_, rfl⟩ _ _ _ _ _) ?k1 ?k2 ?k3 ?k4 ?k5 ?kK ?kd ?ku ?kp ?_); (((case k1 => k_asm); (case k2 => k_asm); (case k3 => k_asm); (case k4 => k_asm); (case k5 => k_asm); (case kK => first | exact rfl | assumption); (case kd => first | exact room2 (by assumption) rfl | ktr_room); (case ku => first | exact unit2 (by assumption) rfl | ktr_units))); (case kp => trivial); (intro v9 new9 h9 tk9 R9 F9 N9 l9); (obtain ⟨D9, vs9, n9, own9, q9, q9', e9, z9⟩ := R9); (subst q9 q9'); (try dsimp only); (try simp only [List.cons_append] at N9); (try k_fold)))))))
    exact hret _ [] _ _ ⟨rfl, _, by rw [← hfs]; rfl⟩ (by k_asm) (fun q hq => (by k_asm : News _ _ _ (_ :: _)) q (sub_tl2 q hq)) (fun _ _ _ h => nomatch h)
  case turn =>
    rintro v rr u h tk I it ⟨fs, hRf, hfs, hm⟩ hI F' N'
    obtain ⟨⟨a1, a2, a3, a4, a5⟩, fr, rfl⟩ : ∃ f r, fs = f :: r := by cases fs <;> first | exact ⟨_, _, rfl⟩ | exact hRf.elim
    obtain ⟨⟨T, t1, t2', t3, t4, t5, rfl, hT⟩, hRr⟩ := hRf
    obtain ⟨hm1, hm4⟩ := hm _ (.head _)
    dsimp only at hm1 hm4 hT
    have hseg : List.take (clipAt form_ok_c.k1.length (form_ok_c.i1 + a5) - clipAt form_ok_c.k1.length (form_ok_c.i1 + 1)) (List.drop (clipAt form_ok_c.k1.length (form_ok_c.i1 + 1)) form_ok_c.k1) = seg form_ok_c.k1 (form_ok_c.i1 + 1) (form_ok_c.i1 + a5) := seg_of (by omega) (by omega)
    have hsl : min (clipAt form_ok_c.k1.length (form_ok_c.i1 + a5) - clipAt form_ok_c.k1.length (form_ok_c.i1 + 1)) (form_ok_c.k1.length - clipAt form_ok_c.k1.length (form_ok_c.i1 + 1)) = (seg form_ok_c.k1 (form_ok_c.i1 + 1) (form_ok_c.i1 + a5)).length := by rw [← hseg, List.length_take, List.length_drop]
    have miss : ¬ rowHit form_ok_c.k1 form_ok_c.i1 (a1, a2, a3, a4, a5) = true → (∃ fs, RowsAre _ rr fs ∧ formAt form_ok_c.k1 form_ok_c.i1 fs = formAt form_ok_c.k1 form_ok_c.i1 formTab ∧ ∀ f ∈ fs, 1 ≤ f.2.2.2.2 ∧ f.2.2.2.2 ≤ 4) := fun e => ⟨fr, hRr, by rw [← hfs, form_miss e], fun f hf => hm f (.tail _ hf)⟩
    k_dflt refine unpackN_ F' N' (N'.isTup (.tail _ (.tail _ (List.mem_append_left _ hT)))) rfl rfl rfl ?_
    intro h2 F2 N2
    (repeat' (first | (k_unfold; (try dsimp only)) | walk1 | (dsimp only; walk1) | (leave1; (try dsimp only)) | (refine Held.go ?_; first | ((with_reducible show wpAny _ _ (call (Value.ref _) _) _ _ _); first | ((k_here; (k_dflt refine' ctn_use (forms_ok ⟨_, rfl⟩ _ _ _ _ _) ?k1 ?k2 ?k3 ?k4 ?k5 ?kK ?kd ?ku ?kp ?_); (((case k1 => k_asm); (case k2 => k_asm); (case k3 => k_asm); (case k4 => k_asm); (case k5 => k_asm); (case kK => first | exact rfl | assumption); (case kd => first | exact room2 (by assumption) rfl | ktr_room); (case ku => first | exact unit2 (by assumption) rfl | ktr_units))); (case kp => trivial); (intro v9 new9 h9 tk9 R9 F9 N9 l9); (obtain ⟨D9, vs9, n9, own9, q9, q9', e9, z9⟩ := R9); (subst q9 q9'); (try dsimp only); (try simp only [List.cons_append] at N9); (try k_fold)))))))
    · exact hret _ [] _ _ ⟨rfl, _, by rw [← hfs, form_hit (rowHit_iff.mpr ⟨by assumption, by assumption, by rw [← hsl]; assumption, .inl (by assumption)⟩)]⟩ (by k_asm) (fun q hq => (by k_asm : News _ _ _ (_ :: _ :: _)) q (.tail _ (sub_tl2 q hq))) (fun _ _ _ h => nomatch h)
    · refine Held.go ?_
      (rename KBw.bInts (KBy.picked _ _ _) = _ => hP)
      k_dflt (refine ListComp_BT (F₀ := by k_asm) (by rfl) (by decide) (by rfl) (by decide) (by rfl) ?_)
      iterate 12 (try (first | walk1 | (dsimp only; walk1)))
      refine CompSrcBT.intro rfl (by k_asm) (by k_asm) (by assumption) (by simp only [List.length_take, List.length_drop]; omega) ?_
      intro g
      rw [hseg, segT_of (by decide)]
      generalize hbs : List.drop _ (seg form_ok_c.k1 _ _) = bs
      have hbz : bs.length ≤ 100000 := by rw [← hbs, List.length_drop, seg_length]; omega
      refine comp_turnsT (n := bs.length) (fun i9 ys => IntsAre ys ((bs.take i9).filter fun o => !(decide (128 ≤ o) && decide (o ≤ 191)))) ?step ?fin _ 0 [] (by simp) (by simpa using IntsAre.nil)
      case step =>
        rintro j v ys I1 oI C1 oC D1 m₂ h3 tk3 E3 hj hInv ⟨n, un, hn, hn0, hn1, rfl⟩ hNs hm2 F3 N3 off3 ne3
        have htk : bs.take (j + 1) = bs.take j ++ [n] := by rw [List.take_add_one, hn]; rfl
        (repeat' (first | (k_unfold; (try dsimp only)) | walk1 | (dsimp only; walk1) | (leave1; (try dsimp only)) | (refine Held.go ?_; first | ((with_reducible show wpAny _ _ (call (Value.ref _) _) _ _ _); first | ((k_here; (k_dflt refine' ctn_use (forms_ok ⟨_, rfl⟩ _ _ _ _ _) ?k1 ?k2 ?k3 ?k4 ?k5 ?kK ?kd ?ku ?kp ?_); (((case k1 => k_asm); (case k2 => k_asm); (case k3 => k_asm); (case k4 => k_asm); (case k5 => k_asm); (case kK => first | exact rfl | assumption); (case kd => first | exact room2 (by assumption) rfl | ktr_room); (case ku => first | exact unit2 (by assumption) rfl | ktr_units))); (case kp => trivial); (intro v9 new9 h9 tk9 R9 F9 N9 l9); (obtain ⟨D9, vs9, n9, own9, q9, q9', e9, z9⟩ := R9); (subst q9 q9'); (try dsimp only); (try simp only [List.cons_append] at N9); (try k_fold)))))))
        · refine LCg.CompEnd.intro F3 N3 _ (fun p hp => hp) off3 trivial ⟨rfl, ?_⟩
          rw [htk, List.filter_append, List.filter_cons_of_neg (by simp; omega), List.filter_nil, List.append_nil]
          exact hInv
        all_goals (
          refine LCg.CompEnd.intro F3 N3 _ (fun p hp => hp) off3 trivial ⟨rfl, ?_⟩
          rw [htk, List.filter_append, List.filter_cons_of_pos (by simp; omega), List.filter_nil]
          exact hInv.append (.cons _ _ .nil))
      case fin =>
        intro ys hInv D4 h4 tk4 F4 N4 off4
        rw [List.take_length] at hInv
        generalize hfl : bs.filter _ = fl at hInv
        have hfz : fl.length ≤ 100000 := by rw [← hfl]; exact Nat.le_trans (List.length_filter_le _ _) hbz
        (try dsimp only)
        (repeat' (first | (k_unfold; (try dsimp only)) | walk1 | (dsimp only; walk1) | (leave1; (try dsimp only)) | (refine Held.go ?_; first | ((with_reducible show wpAny _ _ (call (Value.ref _) _) _ _ _); first | ((k_here; (k_dflt refine' ctn_use (forms_ok ⟨_, rfl⟩ _ _ _ _ _) ?k1 ?k2 ?k3 ?k4 ?k5 ?kK ?kd ?ku ?kp ?_); (((case k1 => k_asm); (case k2 => k_asm); (case k3 => k_asm); (case k4 => k_asm); (case k5 => k_asm); (case kK => first | exact rfl | assumption); (case kd => first | exact room2 (by assumption) rfl | ktr_room); (case ku => first | exact unit2 (by assumption) rfl | ktr_units))); (case kp => trivial); (intro v9 new9 h9 tk9 R9 F9 N9 l9); (obtain ⟨D9, vs9, n9, own9, q9, q9', e9, z9⟩ := R9); (subst q9 q9'); (try dsimp only); (try simp only [List.cons_append] at N9); (try k_fold)))))))
        · have hf0 : fl = [] := of_decide_eq_true (by assumption)
          have hhit : rowHit form_ok_c.k1 form_ok_c.i1 (a1, a2, a3, a4, a5) = true := rowHit_iff.mpr ⟨by assumption, by assumption, by rw [← hsl]; assumption, .inr ⟨by rw [← hseg]; assumption, by rw [← hseg]; assumption, by rw [← hf0, ← hfl, ← hbs]; rfl⟩⟩
          refine hret _ [] _ _ ⟨rfl, _, by rw [← hfs, form_hit hhit]⟩ (by k_asm) (fun q hq => (by k_asm : News _ _ _ (_ :: _ :: _ :: _ :: _)) q (.tail _ (.tail _ (.tail _ (sub_tl2 q hq))))) (fun _ _ _ h => nomatch h)
        · have hf0 : ¬ fl = [] := of_decide_eq_false (by assumption)
          refine Held.go ?_
          (rename Fr _ _ _ _ => F); (rename News _ _ _ _ => N)
          refine row_end F N (fun q hq => .tail _ (.tail _ (.tail _ hq))) (by intro p hp; rw [List.mem_singleton.mp hp]; exact .tail _ (.tail _ (.head _))) (by ((intro z9 hz9; have hz8 := hz9; simp only [List.contains_cons, List.contains_nil, Bool.or_false, Bool.or_eq_false_iff, beq_eq_false_iff_ne] at hz8; (repeat' obtain ⟨_, hz8⟩ := hz8); repeat' (first | (refine if_not (by first | assumption | (rw [hz9]; decide)) ?_) | rfl)))) (miss fun e => ?_)
          obtain ⟨_, _, _, e | ⟨_, _, e⟩⟩ := rowHit_iff.mp e
          · contradiction
          · exact hf0 (by rw [← hfl, ← hbs]; exact e)
    all_goals (
      refine Held.go ?_
      (rename Fr _ _ _ _ => F); (rename News _ _ _ _ => N)
      refine row_end F N (fun q hq => .tail _ hq) (by intro p hp; rw [List.mem_singleton.mp hp]; exact .head _) (by ((intro z9 hz9; have hz8 := hz9; simp only [List.contains_cons, List.contains_nil, Bool.or_false, Bool.or_eq_false_iff, beq_eq_false_iff_ne] at hz8; (repeat' obtain ⟨_, hz8⟩ := hz8); repeat' (first | (refine if_not (by first | assumption | (rw [hz9]; decide)) ?_) | rfl)))) (miss fun e => ?_)
      obtain ⟨e1, e2, e3, e | ⟨e4, e5, e6⟩⟩ := rowHit_iff.mp e)
    all_goals first
      | contradiction
      | (rw [← hsl] at e3; contradiction)
      | (rw [← hseg] at e4 e5; first | exact absurd e4 (by assumption) | exact absurd e5 (by assumption))
theorem form_ok (r : Rw) (w : World) (mean : ExcName → Option Value) (mg mb : Str → Option Value) (news : Led) (b : Array UInt8) (t : Tok) (i : Int) (t2 : Tok) (ks : List Int) (hks : KBw.bInts b = ks) (hz : ks.length ≤ 100000) (h0 : 0 ≤ i) (h1 : i < (ks.length : Int)) :
    CtN w mean mg mb 321 8 100 news [.bytes b t, .int i t2] True (fun v new => new = [] ∧ ∃ tt, v = .int (formAt ks i formTab) tt) := by
  intro dp9 un9 gd9 cn9 cs9 a9 ccd9 cl9 outer9 A₀9 base9 h₀9 L9 m9 s9 Q9 E9
  exact pick_all (ne := cx_some) (by with_unfolding_all rfl) (form_ok_g.go (pick_all (ne := ⟨(⟨#[], default⟩, 0, ⟨#[], default⟩)⟩) (by with_unfolding_all rfl) form_ok_t1)) { cx0 with w := w, mean := mean, mg := mg, mb := mb, dp := dp9, un := un9, gd := gd9, cn := cn9, cs := cs9, a := a9, ccd := ccd9, cl := cl9, outer := outer9, A₀ := A₀9, base := base9, h₀ := h₀9, L := L9, m := m9, s := s9, Q := Q9, E := E9, led := news, b1 := b, t1 := t, i1 := i, t2 := t2, k1 := ks } hks hz h0 h1
-- part W1
/-- the law's own reading of a rewrite -/
def readR (g : Int) : List Int → Bool → List Pc → Option (List Pc)
  | [], bh, acc => if bh = true then none else some acc
  | o :: r, bh, acc =>
    if bh = true ∧ o ≠ 92 then (if 48 ≤ o ∧ o < 48 + min g 10 then readR g r false (acc ++ [.inr (o - 48)]) else none)
    else if bh = true ∨ o ≠ 92 then readR g r false (acc ++ [.inl [o]]) else readR g r true acc
abbrev ReadRet (g : Int) (ks : List Int) (v : Value) (new : Led) : Prop :=
  (v = .none ∧ new = [] ∧ readR g ks false [] = none) ∨ (∃ D arr n ps, v = .ref D ∧ new = [(D, listOf arr n)] ∧ PcsAre arr.toList ps ∧ readR g ks false [] = some ps ∧ arr.size ≤ ks.length)
theorem PcsAre.push {arr : Array Value} {ps : List Pc} {v : Value} {p : Pc} (h : PcsAre arr.toList ps) (e : PcAre v p) : PcsAre (arr.push v).toList (ps ++ [p]) := by
  rw [Array.toList_push]
  exact h.app ⟨e, trivial⟩
theorem readR_fig {g n : Int} {post : List Int} {ps : List Pc} (h1 : n ≠ 92) (h2 : 48 ≤ n) (h3 : n < 48 + if 10 < g then 10 else g) : readR g (n :: post) true ps = readR g post false (ps ++ [.inr (n - 48)]) := by
  show (if _ then (if _ then _ else _) else _) = _
  rw [if_pos ⟨rfl, h1⟩, if_pos ⟨h2, by revert h3; split <;> omega⟩]
theorem readR_no {g n : Int} {post : List Int} {ps : List Pc} (h1 : n ≠ 92) (h2 : 48 ≤ n → ¬ n < 48 + if 10 < g then 10 else g) : readR g (n :: post) true ps = none := by
  show (if _ then (if _ then _ else _) else _) = _
  rw [if_pos ⟨rfl, h1⟩, if_neg]
  rintro ⟨a, b⟩
  have := h2 a
  revert this
  split <;> omega
theorem readR_bs {g : Int} {post : List Int} {ps : List Pc} : readR g (92 :: post) true ps = readR g post false (ps ++ [.inl [92]]) := by
  show (if _ then (if _ then _ else _) else _) = _
  rw [if_neg (by simp), if_pos (.inl rfl)]
theorem readR_in {g n : Int} {post : List Int} {ps : List Pc} (h1 : n ≠ 92) : readR g (n :: post) false ps = readR g post false (ps ++ [.inl [n]]) := by
  show (if _ then (if _ then _ else _) else _) = _
  rw [if_neg (by simp), if_pos (.inr h1)]
theorem readR_go {g : Int} {post : List Int} {ps : List Pc} : readR g (92 :: post) false ps = readR g post true ps := by
  show (if _ then (if _ then _ else _) else _) = _
  rw [if_neg (by simp), if_neg (by simp)]
def read_ok_P (c : Cx) : Prop := ∀ (hks : KBw.bInts c.b1 = c.k1) (hz : c.k1.length ≤ 100000) (g0 : 0 ≤ c.i1) (g1 : c.i1 ≤ 10) , CtNc c 316 6 60 c.led [.bytes c.b1 c.t1, .int c.i1 c.t2] True (ReadRet c.i1 c.k1)
@[irreducible] noncomputable def read_ok_c : Cx := pick cx_some read_ok_P
noncomputable def read_ok_g : Cut (read_ok_P read_ok_c) (Heap × Addr × Heap) := by
  refine Cut.mk3 (G := ?G) fun H => ?main
  rotate_left
  unfold read_ok_P CtNc
  k_fill
  intro hks hz g0 g1 hB0 hF0 hX0 hN0 hT0 hk0 hd hu hpre hret
  refine wpAny_call ?_
  with_unfolding_all refine' code_def ?k1 ?k2 ?k3 ?k4 ?k5 ?kA ?kF ?kK ?k6 ?k7 ?k8 ?k9 ?kB ?_ ?c2 ?c3 ?c4 ?c5
  case kA => exact rfl
  case kF => exact rfl
  case kK => assumption
  case k1 => k_asm
  case k2 => k_asm
  case k3 => k_asm
  case k4 => k_asm
  case k5 => k_asm
  case k6 => k_is
  case k7 => k_is
  case k8 => exact Nat.lt_of_le_of_lt (Nat.le_add_right _ _) hd
  case k9 => exact BindsTo.of_eq (binds := [(Str.ofString "rewrite", .bytes read_ok_c.b1 read_ok_c.t1), (Str.ofString "groups", .int read_ok_c.i1 read_ok_c.t2)]) rfl
  case c5 => decide
  case kB => exact locs rfl
  case c2 => exact rfl
  case c3 => exact rfl
  case c4 => exact rfl
  intro gH LH hH FGH FH NH BH XH TH
  (try dsimp only)
  (try k_lift BH)
  revert hks hz g0 g1 hB0 hX0 hT0 hk0 hd hu hpre hret FGH FH NH BH XH TH
  exact H gH LH hH
@[irreducible] noncomputable def read_ok_d : Heap × Addr × Heap := pick ⟨(⟨#[], default⟩, 0, ⟨#[], default⟩)⟩ read_ok_g.G
theorem read_ok_t1 : read_ok_g.G read_ok_d := by
  intro hks hz g0 g1 hB0 hX0 hT0 hk0 hd hu hpre hret FGH FH NH BH XH TH
  have loops := myLoops
  (try k_fold)
  (repeat' (first | (k_unfold; (try dsimp only)) | walk1 | (dsimp only; walk1) | (leave1; (try dsimp only))))
  refine Held.go ?_
  (rename Fr _ _ _ _ => F); (rename News _ _ _ _ => N)
  (rename ∀ p ∈ read_ok_c.led, p.1 < _ => l1)
  with_unfolding_all refine' KStb.kst_bytes (σ := (Array Value × Nat) × Bool) (fun c => (_, listOf c.1.1 c.1.2) :: read_ok_c.led) (fun c => [(Str.ofString "is_behind", Value.bool c.2)]) (fun _ => True) [] (fun pre c => ∃ ps, PcsAre c.1.1.toList ps ∧ c.1.1.size ≤ pre.length ∧ ∀ post, read_ok_c.k1 = pre ++ post → readR read_ok_c.i1 read_ok_c.k1 false [] = readR read_ok_c.i1 post c.2 ps) ((#[], 0), false) hks rfl rfl F (News_tl N) trivial ?kk ?kp ?turn ?done
  case kk => kst_all
  case kp => exact ⟨[], trivial, Nat.le_refl _, fun post e => by rw [e]; rfl⟩
  case turn =>
    rintro ⟨⟨arr, m⟩, bh⟩ pre post n tq u h tk own he hlt hn0 hn1 hoff _ ⟨ps, hP1, hP2, hP3⟩ F' N'
    (try dsimp only [kstB] at F')
    dsimp only at hP1 hP2 hP3 N'
    have hP4 := hP3 (n :: post) he
    have hall := own_all l1 hoff
    have hsz : arr.size ≤ sizeLine := by rw [sizeLine_eq]; omega
    have hsz2 : arr.size ≤ 300000 := by omega
    rw [List.cons_append] at N'
    have more : ∀ (arr' : Array Value) (ps' : List Pc) (bh' bh2 : Bool), PcsAre arr'.toList ps' → arr'.size ≤ pre.length + 1 → readR read_ok_c.i1 (n :: post) bh ps = readR read_ok_c.i1 post bh' ps' → bh2 = bh' → ∃ ps, PcsAre arr'.toList ps ∧ arr'.size ≤ (pre ++ [n]).length ∧ ∀ post, read_ok_c.k1 = pre ++ [n] ++ post → readR read_ok_c.i1 read_ok_c.k1 false [] = readR read_ok_c.i1 post bh2 ps := by
      rintro arr' ps' bh' _ q1 q2 q3 rfl
      refine ⟨ps', q1, by rw [List.length_append]; exact q2, fun post' e => ?_⟩
      have : post' = post := by
        rw [he, List.append_assoc] at e
        have := List.append_cancel_left e
        exact (List.cons.inj this).2.symm
      rw [this, hP4, q3]
    have hno : readR read_ok_c.i1 (n :: post) bh ps = none → ∀ (h' : Heap) (tk' : Nat), Fr _ _ h' _ → News _ _ h' read_ok_c.led → _ := fun e h' tk' F N => hret .none [] h' tk' (.inl ⟨rfl, rfl, hP4.trans e⟩) F N (fun _ _ _ h => nomatch h)
    cases bh with
    | true =>
      (repeat' (first | (k_unfold; (try dsimp only)) | walk1 | (dsimp only; walk1) | (leave1; (try dsimp only))))
      all_goals try (exact absurd (by assumption : n = 92) (by assumption : n ≠ 92))
      · refine Held.go ?_
        (rename Fr _ _ _ _ => F); (rename News _ _ _ _ => N)
        refine kst_end ((arr.push _, _), n == 92) F N memA (by intro p hp; simp [hp]) rfl trivial (by kst_all) (by kst_same) (more _ _ false _ (hP1.push (v := .int _ _) (p := .inr (n - 48)) rfl) (by simp; omega) (readR_fig (by assumption) (by assumption) (by assumption)) (by simp; assumption))
      · exact hno (readR_no (by assumption) fun _ => by assumption) _ _ (by k_asm) fun q hq => (by k_asm : News _ _ _ (_ :: (read_ok_c.led ++ _))) q (.tail _ (List.mem_append_left _ hq))
      · exact hno (readR_no (by assumption) fun _ => absurd (by assumption) (by assumption : ¬ 48 ≤ n)) _ _ (by k_asm) fun q hq => (by k_asm : News _ _ _ (_ :: (read_ok_c.led ++ _))) q (.tail _ (List.mem_append_left _ hq))
      · refine Held.go ?_
        (rename Fr _ _ _ _ => F); (rename News _ _ _ _ => N); (rename n = 92 => h92)
        refine kst_end ((arr.push _, _), !true) F N memB (by intro p hp; simp [hp]) rfl trivial (by kst_all) (by kst_same) (more _ _ false _ (hP1.push (v := .bytes _ _) (p := .inl [n]) (ints1 hn0 hn1)) (by simp; omega) (by rw [h92]; exact readR_bs) rfl)
      all_goals try (exact absurd (by assumption : n = 92) (by assumption : n ≠ 92))
    | false =>
      (repeat' (first | (k_unfold; (try dsimp only)) | walk1 | (dsimp only; walk1) | (leave1; (try dsimp only))))
      all_goals try (exact absurd (by assumption : n = 92) (by assumption : n ≠ 92))
      · refine Held.go ?_
        (rename Fr _ _ _ _ => F); (rename News _ _ _ _ => N)
        refine kst_end ((arr.push _, _), n == 92) F N memB (by intro p hp; simp [hp]) rfl trivial (by kst_all) (by kst_same) (more _ _ false _ (hP1.push (v := .bytes _ _) (p := .inl [n]) (ints1 hn0 hn1)) (by simp; omega) (readR_in (by assumption)) (by simp; assumption))
      · refine Held.go ?_
        (rename Fr _ _ _ _ => F); (rename News _ _ _ _ => N); (rename n = 92 => h92)
        refine kst_end ((arr, m), !false) F N memA (by intro p hp; simp [hp]) rfl trivial (by kst_all) (by kst_same) (more arr ps true _ hP1 (Nat.le_succ_of_le hP2) (by rw [h92]; exact readR_go) rfl)
      all_goals try (exact absurd (by assumption : n = 92) (by assumption : n ≠ 92))
  case done =>
    rintro ⟨⟨arr, m⟩, bh⟩ u h tk hl _ ⟨ps, hP1, hP2, hP3⟩ F' N'
    (try dsimp only [kstB] at F')
    dsimp only at hP1 hP2 hP3 N'
    have hP4 := hP3 [] (by simp)
    cases bh with
    | true =>
      (repeat' (first | (k_unfold; (try dsimp only)) | walk1 | (dsimp only; walk1) | (leave1; (try dsimp only))))
      exact hret .none [] _ _ (.inl ⟨rfl, rfl, hP4⟩) (by k_asm) (News_tl (by k_asm)) (fun _ _ _ h => nomatch h)
    | false =>
      (repeat' (first | (k_unfold; (try dsimp only)) | walk1 | (dsimp only; walk1) | (leave1; (try dsimp only))))
      exact hret _ [_] _ _ (.inr ⟨_, _, _, ps, rfl, rfl, hP1, hP4, hP2⟩) (by k_asm) (by k_asm) (by intro p hp q hq; rw [List.mem_singleton.mp hq]; exact l1 p hp)
theorem read_ok (r : Rw) (w : World) (mean : ExcName → Option Value) (mg mb : Str → Option Value) (news : Led) (b : Array UInt8) (t : Tok) (g : Int) (t2 : Tok) (ks : List Int) (hks : KBw.bInts b = ks) (hz : ks.length ≤ 100000) (g0 : 0 ≤ g) (g1 : g ≤ 10) :
    CtN w mean mg mb 316 6 60 news [.bytes b t, .int g t2] True (ReadRet g ks) := by
  intro dp9 un9 gd9 cn9 cs9 a9 ccd9 cl9 outer9 A₀9 base9 h₀9 L9 m9 s9 Q9 E9
  exact pick_all (ne := cx_some) (by with_unfolding_all rfl) (read_ok_g.go (pick_all (ne := ⟨(⟨#[], default⟩, 0, ⟨#[], default⟩)⟩) (by with_unfolding_all rfl) read_ok_t1)) { cx0 with w := w, mean := mean, mg := mg, mb := mb, dp := dp9, un := un9, gd := gd9, cn := cn9, cs := cs9, a := a9, ccd := ccd9, cl := cl9, outer := outer9, A₀ := A₀9, base := base9, h₀ := h₀9, L := L9, m := m9, s := s9, Q := Q9, E := E9, led := news, b1 := b, t1 := t, i1 := g, t2 := t2, k1 := ks } hks hz g0 g1
-- part W2
def manyAt (lat : Bool) (ks : List Int) (i : Int) : Int := if lat = true then 1 else formAt ks i formTab
def offM (m : Int) : Int := [(0 : Int), 0, 192, 224, 240].getD m.toNat 0
def runeV (ks : List Int) (i m : Int) : Int := (seg ks (i + 1) (i + m)).foldl (fun r o => r * 64 + o - 128) (ks.getD i.toNat 0 - offM m)
theorem formAt_in (ks : List Int) (i : Int) : ∀ fs : List Row5, (∀ f ∈ fs, 1 ≤ f.2.2.2.2 ∧ f.2.2.2.2 ≤ 4) → 0 ≤ formAt ks i fs ∧ formAt ks i fs ≤ 4
  | [], _ => by unfold formAt; omega
  | f :: r, h => by
    unfold formAt
    split
    · have := h f (.head _); omega
    · exact formAt_in ks i r fun g hg => h g (.tail _ hg)
theorem formTab_in : ∀ f ∈ formTab, 1 ≤ f.2.2.2.2 ∧ f.2.2.2.2 ≤ 4 := by decide
theorem manyAt_in (lat : Bool) (ks : List Int) (i : Int) : 0 ≤ manyAt lat ks i ∧ manyAt lat ks i ≤ 4 := by
  unfold manyAt
  split
  · omega
  · exact formAt_in ks i _ formTab_in
/-- the runes of octets, by the law's own table of forms -/
def runesR (lat : Bool) (ks : List Int) : Nat → Int → List Int → List Int × Int
  | 0, _, acc => (acc, -1)
  | n + 1, i, acc => if i < (ks.length : Int) then (if manyAt lat ks i = 0 then (acc, i) else runesR lat ks n (i + manyAt lat ks i) (acc ++ [runeV ks i (manyAt lat ks i)])) else (acc, -1)
theorem runesR_more (lat : Bool) (ks : List Int) : ∀ (n k : Nat) (i : Int) (acc : List Int), (ks.length : Int) - i < n → runesR lat ks (n + k) i acc = runesR lat ks n i acc
  | 0, k, i, acc, h => by
    have hi : ¬ i < (ks.length : Int) := by omega
    cases k with
    | zero => rfl
    | succ k =>
      show (if _ then _ else _) = _
      rw [if_neg (by omega)]
      rfl
  | n + 1, k, i, acc, h => by
    rw [show n + 1 + k = (n + k) + 1 by omega]
    unfold runesR
    split
    · split
      · rfl
      · have := manyAt_in lat ks i
        exact runesR_more lat ks n k _ _ (by omega)
    · rfl
def runesL (lat : Bool) (ks : List Int) : List Int × Int := runesR lat ks (ks.length + 1) 0 []
abbrev RunesRet (p : List Int × Int) (v : Value) (new : Led) : Prop := ∃ T D vs n t', v = .ref T ∧ new = [tup T [.ref D, .int p.2 t'], (D, listOf vs.toArray n)] ∧ IntsAre vs p.1
theorem endRunes {h₀ h' : Heap} {L : Addr} {m : Str → Option Value} {news : Led} {s : Shared} {Q : Value → Shared → Prop} {p : List Int × Int} {T D : Addr} {vs : List Value} {n : Nat} {acc : List Int} {k : Int} {t' : Tok} {tk' : Nat}
    (hret : ∀ (v : Value) (new : Led) (h' : Heap) (tk' : Nat), RunesRet p v new → Fr h₀ L h' m → News h₀ L h' (new ++ news) → (∀ p ∈ news, ∀ q ∈ new, p.1 < q.1) → Q v { s with heap := h', toks := tk' })
    (e : p = (acc, k)) (hI : IntsAre vs acc) (l : D < T ∧ AllLt T news) (l1 : ∀ p ∈ news, p.1 < D) (F : Fr h₀ L h' m) (N : News h₀ L h' (tup T [.ref D, .int k t'] :: (D, listOf vs.toArray n) :: news)) : Q (.ref T) { s with heap := h', toks := tk' } := by
  subst e
  refine hret _ [tup T [.ref D, .int k t'], (D, listOf vs.toArray n)] _ _ ⟨T, D, vs, n, t', rfl, rfl, hI⟩ F N fun p hp q hq => ?_
  simp only [List.mem_cons, List.not_mem_nil, or_false] at hq
  rcases hq with rfl | rfl
  · exact of_allLt l.2 p hp
  · exact l1 p hp
def runes_ok_P (c : Cx) : Prop := ∀ (lat : Bool) (hks : KBw.bInts c.b1 = c.k1) (hz : c.k1.length ≤ 20000) , CtNc c 328 12 140 c.led [.bytes c.b1 c.t1, .bool lat] True (RunesRet (runesL lat c.k1))
@[irreducible] noncomputable def runes_ok_c : Cx := pick cx_some runes_ok_P
noncomputable def runes_ok_g : Cut (runes_ok_P runes_ok_c) (Heap × Addr × Heap) := by
  refine Cut.mk3 (G := ?G) fun H => ?main
  rotate_left
  unfold runes_ok_P CtNc
  k_fill
  intro lat hks hz hB0 hF0 hX0 hN0 hT0 hk0 hd hu hpre hret
  refine wpAny_call ?_
  with_unfolding_all refine' code_def ?k1 ?k2 ?k3 ?k4 ?k5 ?kA ?kF ?kK ?k6 ?k7 ?k8 ?k9 ?kB ?_ ?c2 ?c3 ?c4 ?c5
  case kA => exact rfl
  case kF => exact rfl
  case kK => assumption
  case k1 => k_asm
  case k2 => k_asm
  case k3 => k_asm
  case k4 => k_asm
  case k5 => k_asm
  case k6 => k_is
  case k7 => k_is
  case k8 => exact Nat.lt_of_le_of_lt (Nat.le_add_right _ _) hd
  case k9 => exact BindsTo.of_eq (binds := [(Str.ofString "octets", .bytes runes_ok_c.b1 runes_ok_c.t1), (Str.ofString "is_latin1", .bool lat)]) rfl
  case c5 => decide
  case kB => exact locs rfl
  case c2 => exact rfl
  case c3 => exact rfl
  case c4 => exact rfl
  intro gH LH hH FGH FH NH BH XH TH
  (try dsimp only)
  (try k_lift BH)
  revert lat hks hz hB0 hX0 hT0 hk0 hd hu hpre hret FGH FH NH BH XH TH
  exact H gH LH hH
@[irreducible] noncomputable def runes_ok_d : Heap × Addr × Heap := pick ⟨(⟨#[], default⟩, 0, ⟨#[], default⟩)⟩ runes_ok_g.G
theorem runes_ok_t1 : runes_ok_g.G runes_ok_d := by
  intro lat hks hz hB0 hX0 hT0 hk0 hd hu hpre hret FGH FH NH BH XH TH
  have loops := myLoops
  have calls := myCalls
  (try k_fold)
  (repeat' (first | (k_unfold; (try dsimp only)) | walk1 | (dsimp only; walk1) | (leave1; (try dsimp only)) | (refine Held.go ?_; first | ((with_reducible show wpAny _ _ (call (Value.ref _) _) _ _ _); first | ((k_here; (k_dflt refine' ctn_use (form_ok ⟨_, rfl⟩ _ _ _ _ _ _ _ _ _ _ ?hks ?hz ?h0 ?h1) ?k1 ?k2 ?k3 ?k4 ?k5 ?kK ?kd ?ku ?kp ?_); (case hks => kba_ints); (case hz => first | assumption | omega); (case h0 => first | assumption | omega); (case h1 => first | assumption | omega); (((case k1 => k_asm); (case k2 => k_asm); (case k3 => k_asm); (case k4 => k_asm); (case k5 => k_asm); (case kK => first | exact rfl | assumption); (case kd => first | exact room2 (by assumption) rfl | ktr_room); (case ku => first | exact unit2 (by assumption) rfl | ktr_units))); (case kp => trivial); (intro v9 new9 h9 tk9 R9 F9 N9 l9); (obtain ⟨q9, t9, q9'⟩ := R9); (subst q9 q9'); (try dsimp only); (try simp only [List.nil_append] at N9); clear l9; (try k_fold)))))))
  refine Held.go ?_
  (rename Fr _ _ _ _ => F); (rename News _ _ _ _ => N)
  (rename ∀ p ∈ runes_ok_c.led, p.1 < _ => l1)
  with_unfolding_all refine' ksw_while (σ := (List Value × Nat) × (Int × Tok)) (fun c => (_, listOf c.1.1.toArray c.1.2) :: runes_ok_c.led) (fun c => [(Str.ofString "at", Value.int c.2.1 c.2.2)]) (fun _ => True) [Str.ofString "many", Str.ofString "rune", Str.ofString "octet"] (fun c => 0 ≤ c.2.1 ∧ c.2.1 ≤ (runes_ok_c.k1.length : Int) + 4 ∧ ∃ acc, IntsAre c.1.1 acc ∧ (acc.length : Int) ≤ c.2.1 ∧ ∃ n : Nat, (runes_ok_c.k1.length : Int) - c.2.1 < n ∧ runesR lat runes_ok_c.k1 n c.2.1 acc = runesL lat runes_ok_c.k1) (fun c => ((runes_ok_c.k1.length : Int) + 4 - c.2.1).toNat) (([], 0), (_, _)) F (News_tl N) trivial ?kk ?kp ?turn
  case kk => kst_all
  case kp => exact ⟨by simp, by dsimp only; omega, [], .nil, by simp, runes_ok_c.k1.length + 1, by simp; omega, rfl⟩
  case turn =>
    rintro ⟨⟨vs, m⟩, i, ti⟩ u h tk _ ⟨h0, h4, acc, hI, hal, n, hn, hr⟩ F' N'
    (try dsimp only [kstB] at F')
    dsimp only at h0 h4 hI N' hn hr hal
    obtain ⟨hf0, hf4⟩ := formAt_in runes_ok_c.k1 i formTab formTab_in
    have step : ∀ (q : Int) (vs' : List Value) (tq : Tok), i < (runes_ok_c.k1.length : Int) → manyAt lat runes_ok_c.k1 i ≠ 0 → q = runeV runes_ok_c.k1 i (manyAt lat runes_ok_c.k1 i) → vs' = vs ++ [.int q tq] →
        0 ≤ i + manyAt lat runes_ok_c.k1 i ∧ i + manyAt lat runes_ok_c.k1 i ≤ (runes_ok_c.k1.length : Int) + 4 ∧ ∃ acc, IntsAre vs' acc ∧ (acc.length : Int) ≤ i + manyAt lat runes_ok_c.k1 i ∧ ∃ n : Nat, (runes_ok_c.k1.length : Int) - (i + manyAt lat runes_ok_c.k1 i) < n ∧ runesR lat runes_ok_c.k1 n (i + manyAt lat runes_ok_c.k1 i) acc = runesL lat runes_ok_c.k1 := by
      rintro q _ tq h1 h2 rfl rfl
      have hm := manyAt_in lat runes_ok_c.k1 i
      refine ⟨by omega, by omega, acc ++ [_], hI.append (.cons _ _ .nil), by rw [List.length_append, List.length_singleton]; omega, ?_⟩
      cases n with
      | zero => omega
      | succ n =>
        refine ⟨n, by omega, ?_⟩
        rw [← hr]
        unfold runesR
        rw [if_pos h1, if_neg h2]
        cases n with
        | zero => omega
        | succ n => rfl
    have hbad : i < (runes_ok_c.k1.length : Int) → manyAt lat runes_ok_c.k1 i = 0 → runesL lat runes_ok_c.k1 = (acc, i) := fun h1 h2 => by
      rw [← hr]
      cases n with
      | zero => omega
      | succ n => unfold runesR; rw [if_pos h1, if_pos h2]
    have hend : ¬ i < (runes_ok_c.k1.length : Int) → runesL lat runes_ok_c.k1 = (acc, -1) := fun h1 => by
      rw [← hr]
      cases n with
      | zero => rfl
      | succ n => unfold runesR; rw [if_neg h1]
    have hvz : vs.toArray.size ≤ 100000 := by rw [List.size_toArray, hI.length]; omega
    have hall := ne_all l1
    cases lat with
    | true =>
      (repeat' (first | (k_unfold; (try dsimp only)) | walk1 | (dsimp only; walk1) | (leave1; (try dsimp only)) | (refine Held.go ?_; first | ((with_reducible show wpAny _ _ (call (Value.ref _) _) _ _ _); first | ((k_here; (k_dflt refine' ctn_use (form_ok ⟨_, rfl⟩ _ _ _ _ _ _ _ _ _ _ ?hks ?hz ?h0 ?h1) ?k1 ?k2 ?k3 ?k4 ?k5 ?kK ?kd ?ku ?kp ?_); (case hks => kba_ints); (case hz => first | assumption | omega); (case h0 => first | assumption | omega); (case h1 => first | assumption | omega); (((case k1 => k_asm); (case k2 => k_asm); (case k3 => k_asm); (case k4 => k_asm); (case k5 => k_asm); (case kK => first | exact rfl | assumption); (case kd => first | exact room2 (by assumption) rfl | ktr_room); (case ku => first | exact unit2 (by assumption) rfl | ktr_units))); (case kp => trivial); (intro v9 new9 h9 tk9 R9 F9 N9 l9); (obtain ⟨q9, t9, q9'⟩ := R9); (subst q9 q9'); (try dsimp only); (try simp only [List.nil_append] at N9); clear l9; (try k_fold)))))))
      · refine Held.go ?_
        (rename Fr _ _ _ _ => F); (rename News _ _ _ _ => N); (rename KBw.bInts (KBy.picked _ _ _) = _ => hP)
        rw [seg_of (by omega) (by omega), seg_empty (Int.le_refl _)] at hP
        with_unfolding_all refine' KStb.kst_bytes (σ := Unit) (fun _ => (_, listOf vs.toArray m) :: runes_ok_c.led) (fun _ => []) (fun _ => True) [] (fun _ _ => True) () hP rfl rfl F (News_tl N) trivial ?kk ?kp ?turn2 ?done2
        case kk => kst_all
        case kp => trivial
        case turn2 => intro c pre post n runes_ok_c.t1 u h tk own he; exact absurd (congrArg List.length he) (by simp)
        case done2 =>
          rintro _ u h tk _ _ _ F' N'
          (try dsimp only [kstB] at F')
          (repeat' (first | (k_unfold; (try dsimp only)) | walk1 | (dsimp only; walk1) | (leave1; (try dsimp only)) | (refine Held.go ?_; first | ((with_reducible show wpAny _ _ (call (Value.ref _) _) _ _ _); first | ((k_here; (k_dflt refine' ctn_use (form_ok ⟨_, rfl⟩ _ _ _ _ _ _ _ _ _ _ ?hks ?hz ?h0 ?h1) ?k1 ?k2 ?k3 ?k4 ?k5 ?kK ?kd ?ku ?kp ?_); (case hks => kba_ints); (case hz => first | assumption | omega); (case h0 => first | assumption | omega); (case h1 => first | assumption | omega); (((case k1 => k_asm); (case k2 => k_asm); (case k3 => k_asm); (case k4 => k_asm); (case k5 => k_asm); (case kK => first | exact rfl | assumption); (case kd => first | exact room2 (by assumption) rfl | ktr_room); (case ku => first | exact unit2 (by assumption) rfl | ktr_units))); (case kp => trivial); (intro v9 new9 h9 tk9 R9 F9 N9 l9); (obtain ⟨q9, t9, q9'⟩ := R9); (subst q9 q9'); (try dsimp only); (try simp only [List.nil_append] at N9); clear l9; (try k_fold)))))))
          (rename Fr _ _ _ _ => F); (rename News _ _ _ _ => N)
          (try simp only [List.push_toArray] at N)
          refine ksw_end ((vs ++ [_], m + 1), (i + 1, _)) F N (fun p hp => hp) trivial (by kst_all) (by ksw_same) (step _ _ _ (by assumption) Int.one_ne_zero ?_ rfl) (by dsimp only; omega)
          show _ = runeV runes_ok_c.k1 i 1
          unfold runeV
          rw [seg_empty (Int.le_refl _)]
          rfl
      · exact endRunes hret (hend (by assumption)) hI (by assumption) l1 (by k_asm) (by k_asm)
    | false =>
      (repeat' (first | (k_unfold; (try dsimp only)) | walk1 | (dsimp only; walk1) | (leave1; (try dsimp only)) | (refine Held.go ?_; first | ((with_reducible show wpAny _ _ (call (Value.ref _) _) _ _ _); first | ((k_here; (k_dflt refine' ctn_use (form_ok ⟨_, rfl⟩ _ _ _ _ _ _ _ _ _ _ ?hks ?hz ?h0 ?h1) ?k1 ?k2 ?k3 ?k4 ?k5 ?kK ?kd ?ku ?kp ?_); (case hks => kba_ints); (case hz => first | assumption | omega); (case h0 => first | assumption | omega); (case h1 => first | assumption | omega); (((case k1 => k_asm); (case k2 => k_asm); (case k3 => k_asm); (case k4 => k_asm); (case k5 => k_asm); (case kK => first | exact rfl | assumption); (case kd => first | exact room2 (by assumption) rfl | ktr_room); (case ku => first | exact unit2 (by assumption) rfl | ktr_units))); (case kp => trivial); (intro v9 new9 h9 tk9 R9 F9 N9 l9); (obtain ⟨q9, t9, q9'⟩ := R9); (subst q9 q9'); (try dsimp only); (try simp only [List.nil_append] at N9); clear l9; (try k_fold)))))))
      · exact endRunes hret (hbad (by assumption) (by assumption)) hI (by assumption) l1 (by k_asm) (by k_asm)
      · refine Held.go ?_
        (rename Fr _ _ _ _ => F); (rename News _ _ _ _ => N); (rename KBw.bInts (KBy.picked _ _ _) = _ => hP)
        rw [seg_of (by omega) (by omega)] at hP
        with_unfolding_all refine' KStb.kst_bytes (σ := Int × Tok) (fun _ => (_, listOf vs.toArray m) :: runes_ok_c.led) (fun c => [(Str.ofString "rune", Value.int c.1 c.2)]) (fun _ => True) [] (fun pre c => c.1 = pre.foldl (fun r o => r * 64 + o - 128) (runes_ok_c.k1.getD i.toNat 0 - offM (formAt runes_ok_c.k1 i formTab))) (_, _) hP rfl rfl F (News_tl N) trivial ?kk ?kp ?turn2 ?done2
        case kk => kst_all
        case kp => rfl
        case turn2 =>
          rintro ⟨q, tq⟩ pre post n2 tq u h tk own he hlt hn0 hn1 hoff _ hP2 F' N'
          (try dsimp only [kstB] at F')
          dsimp only at hP2
          (repeat' (first | (k_unfold; (try dsimp only)) | walk1 | (dsimp only; walk1) | (leave1; (try dsimp only)) | (refine Held.go ?_; first | ((with_reducible show wpAny _ _ (call (Value.ref _) _) _ _ _); first | ((k_here; (k_dflt refine' ctn_use (form_ok ⟨_, rfl⟩ _ _ _ _ _ _ _ _ _ _ ?hks ?hz ?h0 ?h1) ?k1 ?k2 ?k3 ?k4 ?k5 ?kK ?kd ?ku ?kp ?_); (case hks => kba_ints); (case hz => first | assumption | omega); (case h0 => first | assumption | omega); (case h1 => first | assumption | omega); (((case k1 => k_asm); (case k2 => k_asm); (case k3 => k_asm); (case k4 => k_asm); (case k5 => k_asm); (case kK => first | exact rfl | assumption); (case kd => first | exact room2 (by assumption) rfl | ktr_room); (case ku => first | exact unit2 (by assumption) rfl | ktr_units))); (case kp => trivial); (intro v9 new9 h9 tk9 R9 F9 N9 l9); (obtain ⟨q9, t9, q9'⟩ := R9); (subst q9 q9'); (try dsimp only); (try simp only [List.nil_append] at N9); clear l9; (try k_fold)))))))
          refine Held.go ?_
          (rename Fr _ _ _ _ => F); (rename News _ _ _ _ => N)
          refine kst_end (_, _) F N (fun p hp => List.mem_append_left _ hp) (fun p hp => List.mem_append_right _ hp) rfl trivial (by kst_all) (by kst_same) ?_
          rw [List.foldl_append, ← hP2]
          rfl
        case done2 =>
          rintro ⟨q, tq⟩ u h tk _ _ hP2 F' N'
          (try dsimp only [kstB] at F')
          dsimp only at hP2
          (repeat' (first | (k_unfold; (try dsimp only)) | walk1 | (dsimp only; walk1) | (leave1; (try dsimp only)) | (refine Held.go ?_; first | ((with_reducible show wpAny _ _ (call (Value.ref _) _) _ _ _); first | ((k_here; (k_dflt refine' ctn_use (form_ok ⟨_, rfl⟩ _ _ _ _ _ _ _ _ _ _ ?hks ?hz ?h0 ?h1) ?k1 ?k2 ?k3 ?k4 ?k5 ?kK ?kd ?ku ?kp ?_); (case hks => kba_ints); (case hz => first | assumption | omega); (case h0 => first | assumption | omega); (case h1 => first | assumption | omega); (((case k1 => k_asm); (case k2 => k_asm); (case k3 => k_asm); (case k4 => k_asm); (case k5 => k_asm); (case kK => first | exact rfl | assumption); (case kd => first | exact room2 (by assumption) rfl | ktr_room); (case ku => first | exact unit2 (by assumption) rfl | ktr_units))); (case kp => trivial); (intro v9 new9 h9 tk9 R9 F9 N9 l9); (obtain ⟨q9, t9, q9'⟩ := R9); (subst q9 q9'); (try dsimp only); (try simp only [List.nil_append] at N9); clear l9; (try k_fold)))))))
          (rename Fr _ _ _ _ => F); (rename News _ _ _ _ => N)
          (try simp only [List.push_toArray] at N)
          refine ksw_end ((vs ++ [_], m + 1), (i + formAt runes_ok_c.k1 i formTab, _)) F N (fun p hp => hp) trivial (by kst_all) (by ksw_same) (step _ _ _ (by assumption) (by assumption) hP2 rfl) (by dsimp only; omega)
      · exact endRunes hret (hend (by assumption)) hI (by assumption) l1 (by k_asm) (by k_asm)
theorem runes_ok (r : Rw) (w : World) (mean : ExcName → Option Value) (mg mb : Str → Option Value) (news : Led) (b : Array UInt8) (t : Tok) (lat : Bool) (ks : List Int) (hks : KBw.bInts b = ks) (hz : ks.length ≤ 20000) :
    CtN w mean mg mb 328 12 140 news [.bytes b t, .bool lat] True (RunesRet (runesL lat ks)) := by
  intro dp9 un9 gd9 cn9 cs9 a9 ccd9 cl9 outer9 A₀9 base9 h₀9 L9 m9 s9 Q9 E9
  exact pick_all (ne := cx_some) (by with_unfolding_all rfl) (runes_ok_g.go (pick_all (ne := ⟨(⟨#[], default⟩, 0, ⟨#[], default⟩)⟩) (by with_unfolding_all rfl) runes_ok_t1)) { cx0 with w := w, mean := mean, mg := mg, mb := mb, dp := dp9, un := un9, gd := gd9, cn := cn9, cs := cs9, a := a9, ccd := ccd9, cl := cl9, outer := outer9, A₀ := A₀9, base := base9, h₀ := h₀9, L := L9, m := m9, s := s9, Q := Q9, E := E9, led := news, b1 := b, t1 := t, k1 := ks } lat hks hz
-- part T1
section
open Builtin PyProof PySem.Spec
/-- the ground of a def that the law itself calls: what stood before the law, and the law's own frame -/
structure LawG (h₀ : Heap) (L : Addr) (m : Str → Option Value) (g : Heap) : Prop where
  stays : h₀.StaysIn g
  only : ∀ b o, g.get? b = some o → b ≠ L → h₀.get? b = some o
  frame : ∃ oL es ep, g.get? L = some oL ∧ oL.data = .dict es ep ∧ ∀ (sl : Array (Option Value)) (h' : Heap), h'.get? L = some { oL with slots := sl } → Heap.Ns h' L m
  new : h₀.get? L = none
  above : h₀.objs.size ≤ L
/-- a def that the law calls comes back -/
def LeaveL (h₀ : Heap) (L : Addr) (m : Str → Option Value) (R : Result → Shared → Prop) (v : Value) (s' : Shared) : Prop :=
  ∃ g' L' m' news', LawG h₀ L m g' ∧ Fr g' L' s'.heap m' ∧ News g' L' s'.heap news' ∧ (Fr h₀ L s'.heap m → News h₀ L s'.heap news' → R (.ok (.ret v)) s')
theorem LeaveL.back {h₀ : Heap} {L : Addr} {m : Str → Option Value} {R : Result → Shared → Prop} {v : Value} {s' : Shared} (H : LeaveL h₀ L m R v s') : R (.ok (.ret v)) s' := by
  obtain ⟨g', L', m', news', G, F', N', k⟩ := H
  obtain ⟨oL, es, ep, hL, hd, hn⟩ := G.frame
  refine k ⟨hn oL.slots _ (F'.keep _ _ hL), fun b o e => F'.keep b o (G.stays b o e), G.above⟩ fun p hp => ⟨(N' p hp).1, fun q => ?_, ?_⟩
  · have := (N' p hp).2.2; rw [q, hL] at this; cases this
  · cases q : h₀.get? p.1 with
    | none => rfl
    | some o => have := (N' p hp).2.2; rw [G.stays _ _ q] at this; cases this
def hides (h₀ h : Heap) (L : Addr) : List Addr := (List.range h.objs.size).filter fun b => (h₀.get? b).isNone && b != L
section
variable {prog : Program} {w : World} {A₀ A : Around} {s : Shared} {h₀ : Heap} {L a : Addr} {m : Str → Option Value} {cn : Str} {cs : Scope} {ccd : Value} {cl : List (Str × Addr)} {news : List (Addr × Obj)} {K : Frag} {p : Program} {loose : List Str} {mean : ExcName → Option Value} {mg mb : Str → Option Value}
    {R : Result → Shared → Prop} {name qual : Str} {params : Arguments} {body : List Stmt} {scope : Scope} {dV kV doc pm cdv ct oc : Value} {an od : Option Addr} {osl : Array (Option Value)} {f : Addr} {args : Args} {binds : List (Str × Value)}
theorem code_defL (B : Below A₀ h₀ [] h₀) (F : Fr h₀ L s.heap m) (X₀ : K.In h₀) (N : News h₀ L s.heap news) (T : Top p loose mean mg mb h₀) (hA : A.frames = some [envX cn cs L a ccd cl]) (hck : cs.kind = .function)
    (ho : K.lookup f = some ⟨oc, od, .func (fnOf name qual params body scope dV kV doc pm an cdv ct), osl⟩) (hcd : codeIn K cdv qual = true) (hroom : A.depth < recursionLimit)
    (hbind : BindsTo s (fnOf name qual params body scope dV kV doc pm an cdv ct) args binds) (hloc : ∀ y ∈ binds, scope.names.lookup y.1 = some .local)
    (h : ∀ g L' h₁, LawG h₀ L m g → Fr g L' h₁ (fun y => binds.reverse.lookup y) → News g L' h₁ news → Below A h₀ [envX cn cs L a ccd cl] g → K.In g → Top p loose mean mg mb g →
      wpAny (model prog w) (A.deeper (envOf qual scope L' f cdv)) (execs body (envOf qual scope L' f cdv))
        (fun fl s' => LeaveL h₀ L m R (match fl with | .ret v => v | _ => .none) s')
        (fun e s' => wpAny (model prog w) (A.deeper (envOf qual scope L' f cdv)) (leaving (envOf qual scope L' f cdv) e) (fun _ s'' => R (.error e) s'') (fun e' s'' => R (.error e') s'') s')
        { s with heap := h₁, toks := s.toks + binds.length })
    (hco : scope.isCoroutine = false) (hgen : scope.isGenerator = false) (hk : scope.kind = .function)
    (hcell : ∀ x ∈ scope.names, x.2 ≠ .cell) : codeAny (model prog w) A (.call (.ref f) args) R s := by
  have X := X₀.keeps F.keep
  obtain ⟨oL, es, ep, hL, hLd, hLk, hLf⟩ := F.ns
  have nL₀ : h₀.get? L = none := by
    cases q : h₀.get? L with
    | none => rfl
    | some o => exact absurd (Nat.lt_of_lt_of_le (Heap.lt_size q) F.above) (Nat.lt_irrefl _)
  have nL : L ∉ hides h₀ s.heap L := fun q => by
    have := (List.mem_filter.mp q).2
    simp at this
  have n₀ : ∀ b o, h₀.get? b = some o → b ∉ hides h₀ s.heap L := fun b o e q => by
    have := (List.mem_filter.mp q).2
    rw [e] at this
    simp at this
  have st : h₀.StaysIn (hideAll s.heap (hides h₀ s.heap L)) := fun b o e => hideAll_get _ (F.keep b o e) (n₀ b o e)
  have hLg := hideAll_get (hides h₀ s.heap L) hL nL
  have G : LawG h₀ L m (hideAll s.heap (hides h₀ s.heap L)) := by
    refine ⟨st, fun b o e hb => ?_, ⟨oL, es, ep, hLg, hLd, fun sl h' e => ⟨_, es, ep, e, hLd, hLk, hLf⟩⟩, nL₀, F.above⟩
    have e' := of_hideAll _ e
    have hn : b ∉ hides h₀ s.heap L := fun q => by rw [hideAll_none _ q] at e; cases e
    cases q : h₀.get? b with
    | some o' => have := F.keep b o' q; rw [e'] at this; exact this.symm
    | none => exact absurd (List.mem_filter.mpr ⟨List.mem_range.mpr (Heap.lt_size e'), by rw [q]; simp [hb]⟩) hn
  have B₁ := pushX (env := envX cn cs L a ccd cl) B F rfl hck
  have B₂ : Below A h₀ [envX cn cs L a ccd cl] (hideAll s.heap (hides h₀ s.heap L)) := ⟨hA, st, funFrames_hideAll B₁.frames fun env he b hb hf => by
    rw [List.mem_singleton.mp he] at hf
    exact nL ((Option.some.inj hf : L = b) ▸ hb)⟩
  refine codeAny_call_def (fd := fnOf name qual params body scope dV kV doc pm an cdv ct) (body := body) (binds := binds) hroom (X _ _ ho) rfl (T.nolimit.keeps F.keep) (codeRec_of X hcd) rfl hbind hcell hloc (fun h₁ hns hk₁ => ?_) hco hgen hk
  exact wpAny_mono (h _ s.heap.objs.size h₁ G ⟨hns, fun b o e => hk₁ b o (of_hideAll _ e), Nat.le_of_eq (hideAll_size _ _)⟩
    (fun p hp => ⟨hk₁ _ _ (N p hp).1, Nat.ne_of_lt (Heap.lt_size (N p hp).1), hideAll_none _ (List.mem_filter.mpr ⟨List.mem_range.mpr (Heap.lt_size (N p hp).1), by rw [(N p hp).2.2]; simp [(N p hp).2.1]⟩)⟩) B₂ (X₀.keeps st) (T.keeps st)) (fun fl s' hl => hl.back) fun _ _ y => y
end
theorem lawG_turn {h₀ g g9 h₅ : Heap} {A₀ : Around} {env₀ : Env} {L₀ L : Addr} {m₀ m : Str → Option Value} (G : LawG h₀ L₀ m₀ g) (K : Below A₀ h₀ [env₀] g) (F : Fr g L g9 m) (hB : h₀.StaysIn h₅) (hsm : g9.UpToSlots h₅) :
    ∃ g', LawG h₀ L₀ m₀ g' ∧ Fr g' L h₅ m ∧ Below A₀ h₀ [env₀] g' := by
  obtain ⟨oL, es, ep, hL, hd, hn⟩ := G.frame
  obtain ⟨T, S⟩ := kts_turn_at (h := h₅) (fs := [L₀]) (g := g)
    (fun b hb => by rw [List.mem_singleton.mp hb]; exact ⟨_, hL⟩)
    (fun b o e nm => hB b o (G.only b o e fun q => nm (List.mem_singleton.mpr q)))
    (fun b o e hm => by
      have hb := List.mem_singleton.mp hm
      subst hb
      rw [hL] at e
      cases e
      exact hsm _ _ (F.keep _ _ hL) (fun vs q => by rw [hd] at q; cases q))
  obtain ⟨sl, hs⟩ := T.frame L₀ oL hL (List.mem_singleton.mpr rfl)
  have ne : ∀ b o, h₀.get? b = some o → b ∉ [L₀] := fun b o e hm => by rw [List.mem_singleton.mp hm, G.new] at e; cases e
  refine ⟨_, ⟨fun b o e => T.other b o (G.stays b o e) (ne b o e), fun b o e hb => ?_, ⟨_, es, ep, hs, hd, fun sl' h' e => hn sl' h' e⟩, G.new, G.above⟩, ⟨hsm.ns F.ns, S, by rw [T.size]; exact F.above⟩, ⟨K.stack, fun b o e => T.other b o (K.stays b o e) (ne b o e), K.frames.of_keeps fun b o e _ => ?_⟩⟩
  · cases q : g.get? b with
    | none => rw [T.none_ b q] at e; cases e
    | some o' =>
      have := T.other b o' q fun hm => hb (List.mem_singleton.mp hm)
      rw [e] at this
      cases this
      exact G.only b o q hb
  · obtain ⟨sl, hs⟩ := T.up e
    exact ⟨_, hs, rfl⟩
section
variable {prog : Program} {w : World} {A₀ : Around} {E : Value → Shared → Prop} {s' : Shared} {h₀ g g9 : Heap} {env₀ : Env} {L₀ L a e dx : Addr} {m₀ m : Str → Option Value} {name : Str} {scope : Scope} {cd : Value}
  {n : Str} {b₀ : Stmt} {suite : List Stmt} {pos np : Pos} {rest : List ExceptHandler} {Q : Flow → Shared → Prop} {news : Led} {KF : Frag} {C : Addr}
  {p : Program} {loose : List Str} {mean : ExcName → Option Value} {mg mb : Str → Option Value} {x : Str}
  {nm q : Str} {N : Addr} {bs bm : List Value} {hdct : Bool} {sn : List Str} {sub : List Value} {ab : Bool} {col : Option Bool} {dd : Option Addr} {k0 k1 k2 k3 k5 : Option Value} {newId : String}
theorem caughtL0 (G : LawG h₀ L₀ m₀ g) (K : Below A₀ h₀ [env₀] g) (hf₀ : env₀.frame = some L₀) (F : Fr g L g9 m) (hsm : g9.UpToSlots s'.heap) (R : RaisedD h₀ [envOf name scope L a cd, env₀] e (.ref C) dx news s'.heap)
    (X : KF.In h₀) (T : Top p loose mean mg mb h₀) (ex : nsIn KF mainGlobals x = some (some (.ref C))) (hC : KF.lookup C = some (excClassObj nm q C N bs bm hdct sn sub ab col dd k0 k1 k2 k3 k5 newId)) (hbase : bm.contains (.type "BaseException") = true)
    (k : ∀ h' g', LawG h₀ L₀ m₀ g' → Fr g' L h' m → News g' L h' news → Below A₀ h₀ [env₀] g' → KF.In g' → Top p loose mean mg mb g' →
      wpAny (model prog w) ((A₀.deeper (envOf name scope L a cd)).mark (some (.ref e))) (execs (b₀ :: suite) (envOf name scope L a cd)) Q E { s' with heap := h' })
    (hk : scope.kind = .function := by rfl) (hx : (envOf name scope L a cd).kindOf x = some .globalImplicit := by rfl) (hd : (x == ("__debug__" : Str)) = false := by decide)
    (hE : PassesOwnAt (model prog w) ((A₀.deeper (envOf name scope L a cd)).mark (some (.ref e))) (A₀.deeper (envOf name scope L a cd)) (envOf name scope L a cd) E := by passes_own) :
    wpAny (model prog w) (A₀.deeper (envOf name scope L a cd)) (noteFrame (.ref e) (envOf name scope L a cd))
      (fun _ s₂ => wpAny (model prog w) (A₀.deeper (envOf name scope L a cd)) (setFlight (.ref e) none) (fun _ s₃ =>
        wpAny (model prog w) (A₀.deeper (envOf name scope L a cd)) (handleBy (.ref e) (envOf name scope L a cd) (.ExceptHandler (some (.Name x np)) none (b₀ :: suite) pos :: rest)) Q E s₃) E s₂) E s' := by
  obtain ⟨B, a0, hB, hl, hfl, hdx⟩ := R
  have hBL : B.get? L = none ∧ B.get? L₀ = none := by
    obtain ⟨_, ⟨L', _, hf, hn', _⟩, _, ⟨L'', _, hf', hn'', _⟩, _⟩ := hfl.2.2.1
    obtain rfl : L = L' := Option.some.inj hf
    rw [hf₀] at hf'
    obtain rfl : L₀ = L'' := Option.some.inj hf'
    exact ⟨hn', hn''⟩
  refine wpAny_looks_onW (Around.frames_deeper K.stack) rfl hfl fun h₄ hheld₄ hsm₄ => ?_
  refine wpAny_landsW hheld₄ fun h₅ hheld hsm₅' => ?_
  have hsm₅ := hsm₄.trans hsm₅'
  have hheld' := flyingW_base hB hheld
  obtain ⟨g₅, G₅, F₅, K₅⟩ := lawG_turn G K F hheld'.1 (hsm.trans hsm₅)
  obtain ⟨ob, hob, hobc⟩ := hheld'.there
  refine wpAny_handleBy_cons (codeAny_handlers_test (name_K F₅ (X.keeps G₅.stays) (topRead_of (T.keeps G₅.stays)) ex ?_ hk hx hd)) (by intro q; cases q)
  refine wpAny_excMatches_sub_self (hheld'.1 _ _ (X _ _ hC)) hob hobc hbase (codeAny_handlers_suite ?_)
  refine lands_againW hheld fun h₆ hfl₆ hsm₆ => ?_
  have hfl₆' := flyingW_base hB hfl₆
  obtain ⟨g₆, G₆, F₆, K₆⟩ := lawG_turn G K F hfl₆'.1 ((hsm.trans hsm₅).trans hsm₆)
  refine wpAny_passesOwnAt hE (k h₆ g₆ G₆ F₆ (fun q hq => ⟨hfl₆.1 _ _ (hl q hq).1, (fun z => by have := (hl q hq).1; rw [z, hBL.1] at this; cases this), ?_⟩) K₆ (X.keeps G₆.stays) (T.keeps G₆.stays))
  cases z : g₆.get? q.1 with
  | none => rfl
  | some o =>
    have := G₆.only _ _ z (fun y => by have := (hl q hq).1; rw [y, hBL.2] at this; cases this)
    rw [(hl q hq).2] at this
    cases this
theorem caughtLB (G : LawG h₀ L₀ m₀ g) (K : Below A₀ h₀ [env₀] g) (hf₀ : env₀.frame = some L₀) (F : Fr g L g9 m) (hsm : g9.UpToSlots s'.heap) (R : RaisedD h₀ [envOf name scope L a cd, env₀] e (.ref C) dx news s'.heap)
    (X : KF.In h₀) (T : Top p loose mean mg mb h₀) (ex : nsIn KF mainGlobals x = some (some (.ref C))) (hC : KF.lookup C = some (excClassObj nm q C N bs bm hdct sn sub ab col dd k0 k1 k2 k3 k5 newId)) (hbase : bm.contains (.type "BaseException") = true)
    (k : ∀ h' g' oe ws tk, LawG h₀ L₀ m₀ g' → Fr g' L h' (fun y => if y = n then some (.ref e) else m y) → News g' L h' ((e, oe) :: news) → oe.cls = .ref C → oe.dict = some dx → oe.data = .fields ws → (∀ p ∈ news, p.1 ≠ e) → Below A₀ h₀ [env₀] g' → KF.In g' → Top p loose mean mg mb g' →
      wpAny (model prog w) ((A₀.deeper (envOf name scope L a cd)).mark (some (.ref e))) (execs (b₀ :: suite) (envOf name scope L a cd))
        (fun f s₄ => wpAny (model prog w) (A₀.deeper (envOf name scope L a cd)) (do bindName (envOf name scope L a cd) n .none; unbindBehindTheSuite (envOf name scope L a cd) n pos) (fun _ s₅ => Q f s₅) E s₄)
        (AsSuiteRaised (model prog w) ((A₀.deeper (envOf name scope L a cd)).mark (some (.ref e))) (envOf name scope L a cd) n pos (notedBy (model prog w) ((A₀.deeper (envOf name scope L a cd)).mark (some (.ref e))) (envOf name scope L a cd) (cameBackBy (model prog w) (A₀.deeper (envOf name scope L a cd)) (envOf name scope L a cd) E)))
        { s' with heap := h', toks := tk })
    (hk : scope.kind = .function := by rfl) (hlo : (envOf name scope L a cd).kindOf n = some .local := by rfl) (hx : (envOf name scope L a cd).kindOf x = some .globalImplicit := by rfl) (hd : (x == ("__debug__" : Str)) = false := by decide) :
    wpAny (model prog w) (A₀.deeper (envOf name scope L a cd)) (noteFrame (.ref e) (envOf name scope L a cd))
      (fun _ s₂ => wpAny (model prog w) (A₀.deeper (envOf name scope L a cd)) (setFlight (.ref e) none) (fun _ s₃ =>
        wpAny (model prog w) (A₀.deeper (envOf name scope L a cd)) (handleBy (.ref e) (envOf name scope L a cd) (.ExceptHandler (some (.Name x np)) (some n) (b₀ :: suite) pos :: rest)) Q E s₃) E s₂) E s' := by
  obtain ⟨B, a0, hB, hl, hfl, hdx⟩ := R
  have hBL : B.get? L = none ∧ B.get? L₀ = none := by
    obtain ⟨_, ⟨L', _, hf, hn', _⟩, _, ⟨L'', _, hf', hn'', _⟩, _⟩ := hfl.2.2.1
    obtain rfl : L = L' := Option.some.inj hf
    rw [hf₀] at hf'
    obtain rfl : L₀ = L'' := Option.some.inj hf'
    exact ⟨hn', hn''⟩
  obtain ⟨f1, f2, f3, f4⟩ := hfl
  refine noteD (Around.frames_deeper K.stack) f3 rfl f4 hdx f1 f2 fun h₄ N₄ d₄ => ?_
  obtain ⟨n1, n2, n3, n4⟩ := N₄
  refine flightD n1 n2 n3 d₄ fun h₅ k1' k2' k3' k4' k5' => ?_
  have hheld : Heap.FlyingW B [envOf name scope L a cd, env₀] e (.ref C) a0 h₅ := ⟨k1', f2, k2', k3'⟩
  have hsm₅ : s'.heap.UpToSlots h₅ := fun b o hb hnf => by
    obtain ⟨sl, hs⟩ := n4 b o hb hnf
    exact ⟨sl, k5' b _ hs hnf⟩
  have hheld' := flyingW_base hB hheld
  obtain ⟨g₅, G₅, F₅, K₅⟩ := lawG_turn G K F hheld'.1 (hsm.trans hsm₅)
  obtain ⟨ob, hob, hobc⟩ := hheld'.there
  refine wpAny_handleBy_cons (codeAny_handlers_test (name_K F₅ (X.keeps G₅.stays) (topRead_of (T.keeps G₅.stays)) ex ?_ hk hx hd)) (by intro q; cases q)
  refine wpAny_excMatches_sub_self (hheld'.1 _ _ (X _ _ hC)) hob hobc hbase (codeAny_handlers_suite_as ?_)
  obtain ⟨p1, p2, p3, p4⟩ := hheld
  refine flightD p1 p3 p4.at k4' fun h₆ q1 q2 q3 q4 q5 => ?_
  have hfl₆ : Heap.FlyingW B [envOf name scope L a cd, env₀] e (.ref C) a0 h₆ := ⟨q1, p2, q2, q3⟩
  have hfl₆' := flyingW_base hB hfl₆
  have hsm₆ : h₅.UpToSlots h₆ := fun b o hb hnf => ⟨o.slots, q5 b o hb hnf⟩
  obtain ⟨g₆, G₆, F₆, K₆⟩ := lawG_turn G K F hfl₆'.1 ((hsm.trans hsm₅).trans hsm₆)
  obtain ⟨oe, ws, hoe, hoec, hoed, hoe0⟩ := hfl₆'.first
  obtain ⟨oe', hoe', hoex⟩ := q4
  rw [hoe] at hoe'
  cases hoe'
  have hno : ∀ b, b ≠ L₀ → h₀.get? b = none → g₆.get? b = none := fun b hb e => by
    cases z : g₆.get? b with
    | none => rfl
    | some o => have := G₆.only _ _ z hb; rw [e] at this; cases this
  have heL : e ≠ L₀ := fun z => by
    obtain ⟨_, _, _, ⟨L'', o'', hf', _, hg, hnf⟩, _⟩ := hfl₆.2.2.1
    rw [hf₀] at hf'
    obtain rfl : L₀ = L'' := Option.some.inj hf'
    rw [← z, hoe] at hg
    cases hg
    exact hnf _ hoed
  have N₆ := News.more F₆ News.nil hoe (fun es n q => by rw [hoed] at q; cases q) (hno e heL hfl₆'.2.1)
  have Nl : News g₆ L h₆ news := fun q hq => ⟨hfl₆.1 _ _ (hl q hq).1, (fun z => by have := (hl q hq).1; rw [z, hBL.1] at this; cases this), hno _ (fun y => by have := (hl q hq).1; rw [y, hBL.2] at this; cases this) (hl q hq).2⟩
  refine stN F₆ (news := (e, oe) :: news) (fun q hq => (List.mem_cons.mp hq).elim (fun e => N₆ q (e ▸ .head _)) (Nl q)) (fun h₇ F₇ N₇ => ?_) hk hlo
  exact k h₇ g₆ oe ws _ G₆ F₇ N₇ hoec hoex hoed (fun p hp z => by have := (hl p hp).1; rw [z, f2] at this; cases this) K₆ (X.keeps G₆.stays) (T.keeps G₆.stays)
end
end
/-- a call from the law itself -/
abbrev CtN0 (w : World) (mean : ExcName → Option Value) (mg mb : Str → Option Value) (f : Addr) (d u : Nat) (news : Led) (vs : List Value) (Ret : Value → Led → Prop) : Prop :=
  ∀ (dp un : Nat) (gd : Option (List Code)) (cn : Str) (cs : Scope) (a : Addr) (ccd : Value) (cl : List (Str × Addr)) (A₀ : Around) (h₀ : Heap) (L : Addr) (m : Str → Option Value) (s : Shared) (Q E : Value → Shared → Prop),
    Below A₀ h₀ [] h₀ → Fr h₀ L s.heap m → (KF w.params).In h₀ → News h₀ L s.heap news → Top VQ LS mean mg mb h₀ → cs.kind = .function →
    dp + d < recursionLimit → un + u < cLine →
    (∀ (v : Value) (new : Led) (h' : Heap) (tk' : Nat), Ret v new → Fr h₀ L h' m → News h₀ L h' (new ++ news) → (∀ p ∈ news, ∀ q ∈ new, p.1 < q.1) → Q v { s with heap := h', toks := tk' }) →
    wpAny (model PySem.Challenge.rw_sj0126_01.row.prog w) (ktrTop dp un gd cn cs L a ccd cl []) (call (.ref f) vs) Q E s
theorem ctn0_use {w : World} {mean : ExcName → Option Value} {mg mb : Str → Option Value} {f : Addr} {d u : Nat} {news : Led} {vs : List Value} {Ret : Value → Led → Prop}
    {dp un : Nat} {gd : Option (List Code)} {cn : Str} {cs : Scope} {a : Addr} {ccd : Value} {cl : List (Str × Addr)} {A₀ : Around} {h₀ : Heap} {L : Addr} {m : Str → Option Value} {s : Shared} {Q E : Value → Shared → Prop}
    (C : CtN0 w mean mg mb f d u news vs Ret) (B : Below A₀ h₀ [] h₀) (F : Fr h₀ L s.heap m) (X : (KF w.params).In h₀) (N : News h₀ L s.heap news) (T : Top VQ LS mean mg mb h₀)
    (hk : cs.kind = .function) (hd' : dp + d < recursionLimit) (hu : un + u < cLine)
    (ret : ∀ (v : Value) (new : Led) (h' : Heap) (tk' : Nat), Ret v new → Fr h₀ L h' m → News h₀ L h' (new ++ news) → (∀ p ∈ news, ∀ q ∈ new, p.1 < q.1) → Q v { s with heap := h', toks := tk' }) :
    wpAny (model PySem.Challenge.rw_sj0126_01.row.prog w) (ktrTop dp un gd cn cs L a ccd cl []) (call (.ref f) vs) Q E s :=
  C _ _ _ _ _ _ _ _ _ _ _ _ _ _ _ B F X N T hk hd' hu ret
theorem LeaveL.intro {h₀ g' : Heap} {L L' : Addr} {m m' : Str → Option Value} {R : Result → Shared → Prop} {v : Value} {s' : Shared} {news' : Led} (G : LawG h₀ L m g') (F : Fr g' L' s'.heap m') (N : News g' L' s'.heap news')
    (k : Fr h₀ L s'.heap m → News h₀ L s'.heap news' → R (.ok (.ret v)) s') : LeaveL h₀ L m R v s' := ⟨g', L', m', news', G, F, N, k⟩
-- part W3
abbrev RewRet (ks text caps : List Int) (v : Value) (new : Led) : Prop := new = [] ∧ ((v = .none ∧ rewSem ks text caps = none) ∨ ∃ b' t' l, v = .bytes b' t' ∧ KBw.bInts b' = l ∧ rewSem ks text caps = some l)
theorem lrewr_ok (r : Rw) (w : World) (mean : ExcName → Option Value) (mg mb : Str → Option Value) (rest : Led) (b : Array UInt8) (t : Tok) (b2 : Array UInt8) (t2 : Tok) (cp : Addr) (vs : List Value) (nc : Nat) (ks text caps : List Int) (hks : KBw.bInts b = ks) (htx : KBw.bInts b2 = text) (hz : ks.length ≤ 100000) (hz2 : text.length ≤ 100000)
    (hcap : IntsAre vs caps) (hcl : caps.length ≤ 100) (hout : ∀ l, rewSem ks text caps = some l → l.length ≤ 100000) :
    CtN0 w mean mg mb 349 16 160 ((cp, listOf vs.toArray nc) :: rest) [.bytes b t, .bytes b2 t2, .ref cp] (RewRet ks text caps) := by
  unfold CtN0
  k_fill
  intros
  rename_i hd hu hret
  have calls := myCalls
  (((refine wpAny_call ?_); k_dflt (refine' code_defL ?k1 ?k2 ?k3 ?k4 ?k5 ?kA ?kK ?k6 ?k7 ?k8 ?k9 ?kB ?_ ?c2 ?c3 ?c4 ?c5; (case kA => exact rfl); (case kK => assumption); (case k1 => k_asm); (case k2 => k_asm); (case k3 => k_asm); (case k4 => k_asm); (case k5 => k_asm); (case k6 => k_is); (case k7 => k_is); (case k8 => ktr_room); (case k9 => exact BindsTo.of_eq rfl); (case c5 => decide); (case kB => exact locs rfl); (case c2 => exact rfl); (case c3 => exact rfl); (case c4 => exact rfl); k_whole; intro g' L' h' FG' F' N' B' X' T'; (try dsimp only); (try k_lift B'); (try k_fold))))
  (repeat' (first | (k_unfold; (try dsimp only)) | walk1 | (dsimp only; walk1) | (leave1; (try dsimp only)) | (refine Held.go ?_; first | ((with_reducible show wpAny _ _ (call (Value.ref _) _) _ _ _); first | ((k_here; (k_dflt refine' cte_use (rewr_ok ⟨_, rfl⟩ _ _ _ _ _ _ _ _ _ _ _ _ _ _ _ ?hks ?htx ?hz ?hz2 ?hcap ?hcl ?hout) ?k1 ?k2 ?k3 ?k4 ?k5 ?kK ?kd ?ku ?kp ?kret ?kexc); (case hks => kba_ints); (case htx => kba_ints); (case hcap => assumption); (case hz => first | assumption | omega); (case hz2 => first | assumption | omega); (case hcl => first | assumption | omega); (case hout => assumption); (((case k1 => k_asm); (case k2 => k_asm); (case k3 => k_asm); (case k4 => k_asm); (case k5 => k_asm); (case kK => first | exact rfl | assumption); (case kd => first | exact room2 (by assumption) rfl | ktr_room); (case ku => first | exact unit2 (by assumption) rfl | ktr_units))); (case kp => trivial); (case' kret => (intro v9 new9 h9 tk9 r9 F9 N9 l9; (obtain ⟨b9, t9, ls9, q9, q9', e9, z9⟩ := r9); (subst q9 q9'); (try dsimp only); (try simp only [List.nil_append] at N9); clear l9; (try k_fold))); (case' kexc => ((intro e9 dx9 es9 n9 g9 h9 tk9 F9 U9 R9 l9 p9; (try dsimp only))))))))))
  case kexc =>
    (rename LawG _ _ _ _ => G9); (rename RaisedD _ _ _ _ _ _ _ => R9); (rename Heap.UpToSlots _ _ => U9)
    k_dflt refine caughtL0 G9 (by assumption) rfl (by assumption) U9 R9 (by assumption) (by assumption) (by k_is) (by k_is) (by kernel_rfl) ?_
    intro h1 g1 G1 F1 N1 B1 X1 T1
    (repeat' (first | (k_unfold; (try dsimp only)) | walk1 | (dsimp only; walk1) | (leave1; (try dsimp only)) | (refine Held.go ?_; first | ((with_reducible show wpAny _ _ (call (Value.ref _) _) _ _ _); first | ((k_here; (k_dflt refine' cte_use (rewr_ok ⟨_, rfl⟩ _ _ _ _ _ _ _ _ _ _ _ _ _ _ _ ?hks ?htx ?hz ?hz2 ?hcap ?hcl ?hout) ?k1 ?k2 ?k3 ?k4 ?k5 ?kK ?kd ?ku ?kp ?kret ?kexc); (case hks => kba_ints); (case htx => kba_ints); (case hcap => assumption); (case hz => first | assumption | omega); (case hz2 => first | assumption | omega); (case hcl => first | assumption | omega); (case hout => assumption); (((case k1 => k_asm); (case k2 => k_asm); (case k3 => k_asm); (case k4 => k_asm); (case k5 => k_asm); (case kK => first | exact rfl | assumption); (case kd => first | exact room2 (by assumption) rfl | ktr_room); (case ku => first | exact unit2 (by assumption) rfl | ktr_units))); (case kp => trivial); (case' kret => (intro v9 new9 h9 tk9 r9 F9 N9 l9; (obtain ⟨b9, t9, ls9, q9, q9', e9, z9⟩ := r9); (subst q9 q9'); (try dsimp only); (try simp only [List.nil_append] at N9); clear l9; (try k_fold))); (case' kexc => ((intro e9 dx9 es9 n9 g9 h9 tk9 F9 U9 R9 l9 p9; (try dsimp only))))))))))
    (try dsimp only)
    refine LeaveL.intro (by assumption) (by k_asm) (by k_asm) fun F2 N2 => ?_
    exact hret _ [] _ _ ⟨rfl, .inl ⟨rfl, by assumption⟩⟩ F2 (News_tl N2) (fun _ _ _ h => nomatch h)
  refine LeaveL.intro (by assumption) (by k_asm) (by k_asm) fun F2 N2 => ?_
  exact hret _ [] _ _ ⟨rfl, .inr ⟨_, _, _, rfl, by assumption, by assumption⟩⟩ F2 N2 (fun _ _ _ h => nomatch h)
-- part P4
theorem mkrd_ok (r : Rw) (w : World) (mean : ExcName → Option Value) (mg mb : Str → Option Value) (news : Led) (b : Array UInt8) (t : Tok) (lat : Bool) :
    CtN w mean mg mb 235 4 40 news [.bytes b t, .bool lat] True (fun v new => ∃ x dx k1 k2 k3 ti, v = .ref x ∧ new = [(x, instObj 235 dx), (dx, dictOf (rdE w k1 k2 k3 b t lat 0 ti) 3)] ∧ @LT.lt Nat _ dx x) := by
  unfold CtN
  k_fill
  intros
  rename_i B F X N T hk hd hu hpre hret
  k_dflt (refine' call_cls F X N ?k4 ?k5 ?k6 ?_; (case k4 => k_is); (case k5 => k_is); (case k6 => k_is))
  intro x dx h' F' N' l1 l2
  have hxd : @LT.lt Nat _ dx x := l2
  have hall : ∀ p ∈ news, p.1 ≠ dx := fun p hp => Nat.ne_of_lt (l1 p hp)
  ((refine' code_def ?k1 ?k2 ?k3 ?k4 ?k5 ?kA ?kF ?kK ?k6 ?k7 ?k8 ?k9 ?kB ?_ ?c2 ?c3 ?c4 ?c5; (case kA => exact rfl); (case kF => exact rfl); (case kK => assumption); (case k1 => k_asm); (case k2 => k_asm); (case k3 => k_asm); (case k4 => k_asm); (case k5 => k_asm); (case k6 => k_is); (case k7 => k_is); (case k8 => ktr_room); (case k9 => exact binds_K (by k_in) rfl (by k_is) rfl rfl rfl); (case c5 => decide); (case kB => exact locs rfl); (case c2 => exact rfl); (case c3 => exact rfl); (case c4 => exact rfl); k_whole; intro g' L' h' FG' F' N' B' X' T'; (try dsimp only); (try k_lift B'); (try k_fold)))
  (repeat' (first | (k_unfold; (try dsimp only)) | walk1 | (dsimp only; walk1) | (leave1; (try dsimp only))))
  refine hret _ [_, _] _ _ ⟨x, dx, _, _, _, _, rfl, rfl, l2⟩ (by k_asm) (by k_asm) ?_
  intro p hp q hq
  simp only [List.mem_cons, List.not_mem_nil, or_false] at hq
  rcases hq with rfl | rfl
  · exact Nat.lt_trans (l1 p hp) l2
  · exact l1 p hp
-- part W4
/-- what stands at a place of the quoted text -/
inductive SignCase (lat : Bool) (ks : List Int) (j : Nat) (i : Int) : Prop
  | zero (h1 : manyAt lat ks j = 1) (h2 : runeV ks j 1 = 0) (h3 : i + 1 + 1 + 1 < ((quoteL ks).length : Int)) (h4 : signAt lat (quoteL ks) i = (92, 1)) (h5 : ¬ badAt lat (quoteL ks) i) (h6 : signAt lat (quoteL ks) (i + 1) = (120, 1)) (h7 : ¬ badAt lat (quoteL ks) (i + 1))
      (h8 : (quoteL ks).getD (i + 1 + 1).toNat 0 = 48) (h9 : (quoteL ks).getD (i + 1 + 1 + 1).toNat 0 = 48) (h10 : ((quoteL (ks.take (j + 1))).length : Int) = i + 1 + 1 + 2)
  | quoted (c : Int) (h1 : manyAt lat ks j = 1) (h2 : runeV ks j 1 = c) (h3 : i + 1 < ((quoteL ks).length : Int)) (h4 : signAt lat (quoteL ks) i = (92, 1)) (h5 : ¬ badAt lat (quoteL ks) i) (h6 : signAt lat (quoteL ks) (i + 1) = (c, 1)) (h7 : ¬ badAt lat (quoteL ks) (i + 1))
      (c0 : 0 ≤ c) (c1 : c < 128) (c2 : c < 48 ∨ 57 < c) (c3 : c < 65 ∨ 90 < c) (c4 : c < 97 ∨ 122 < c) (h10 : ((quoteL (ks.take (j + 1))).length : Int) = i + 1 + 1)
  | plain (h1 : manyAt lat ks j ≠ 0) (h3 : i < ((quoteL ks).length : Int)) (h4 : signAt lat (quoteL ks) i = (runeV ks j (manyAt lat ks j), manyAt lat ks j)) (h5 : ¬ badAt lat (quoteL ks) i) (c0 : runeV ks j (manyAt lat ks j) ≠ 92)
      (c1 : runeV ks j (manyAt lat ks j) < 128 → isWord (runeV ks j (manyAt lat ks j)) = true) (h10 : ((quoteL (ks.take (j + (manyAt lat ks j).toNat))).length : Int) = i + manyAt lat ks j)
  | bad (h1 : manyAt lat ks j = 0) (h3 : i < ((quoteL ks).length : Int)) (h5 : badAt lat (quoteL ks) i) (h6 : seg (quoteL ks) i (i + 1) = [ks.getD j 0])
abbrev QuotRet (lat : Bool) (ks : List Int) (v : Value) (new : Led) : Prop :=
  ((runesL lat ks).2 < 0 ∧ ∃ T D vs n, v = .ref T ∧ new = [tup T [.ref D, .none], (D, listOf vs.toArray n)] ∧ IntsAre vs (runesL lat ks).1) ∨
  (∃ j : Nat, (runesL lat ks).2 = j ∧ ∃ T D vs n T2 t1 b t2 t3, v = .ref T ∧ new = [tup T [.ref D, .ref T2], tup T2 [.str "bad utf-8" t1, .bytes b t2, .int ((quoteL (ks.take j)).length : Int) t3], (D, listOf vs.toArray n)] ∧ IntsAre vs (runesL lat ks).1 ∧ KBw.bInts b = [ks.getD j 0])
theorem runes_next {lat : Bool} {ks acc : List Int} {n j : Nat} {m c : Int} {R : List Int × Int} (hn : (ks.length : Int) - j < n) (hr : runesR lat ks n j acc = R) (hj : j < ks.length) (hm : manyAt lat ks j = m) (h0 : m ≠ 0) (hc : runeV ks j m = c) :
    ∃ n' : Nat, (ks.length : Int) - ((j + m.toNat : Nat) : Int) < n' ∧ runesR lat ks n' ((j + m.toNat : Nat) : Int) (acc ++ [c]) = R := by
  have h4 := manyAt_in lat ks j
  subst hm hc
  have e : ((j + (manyAt lat ks j).toNat : Nat) : Int) = j + manyAt lat ks j := by omega
  rw [e]
  cases n with
  | zero => omega
  | succ n =>
    refine ⟨n, by omega, ?_⟩
    rw [← hr]
    conv => rhs; unfold runesR
    rw [if_pos (by omega), if_neg h0]
theorem runes_bad {lat : Bool} {ks acc : List Int} {n j : Nat} (hn : (ks.length : Int) - j < n) (hj : j < ks.length) (hm : manyAt lat ks j = 0) : runesR lat ks n j acc = (acc, (j : Int)) := by
  cases n with
  | zero => omega
  | succ n => unfold runesR; rw [if_pos (by omega), if_pos hm]
theorem runes_over {lat : Bool} {ks acc : List Int} {n j : Nat} (hj : ¬ j < ks.length) : runesR lat ks n j acc = (acc, -1) := by
  cases n with
  | zero => rfl
  | succ n => unfold runesR; rw [if_neg (by omega)]
theorem Upd.third {D : Addr} {o o' : Obj} {x y : Addr × Obj} {news : Led} (h1 : x.1 ≠ D) (h2 : y.1 ≠ D) (h : ∀ p ∈ news, p.1 ≠ D) : Upd D o o' (x :: y :: (D, o) :: news) (x :: y :: (D, o') :: news) := Upd.tail h1 (Upd.tail h2 (Upd.head h))
local macro_rules | `(tactic| walk_at "call builtin:list.append") => `(tactic| (k_here; (k_dflt refine' append_K ?k1 ?k2 ?k3 ?_ ?z); (case k1 => k_asm); (case k2 => k_asm); (case k3 => exact Upd.third (Nat.ne_of_lt (by assumption)) (Nat.ne_of_lt (by assumption)) (by assumption)); (case z => first | exact lit_fits rfl | with_reducible assumption | (with_reducible refine push_fits ?_; omega)); intro h7 F7 N7))
theorem endQuotBad {h₀ h' : Heap} {L : Addr} {m : Str → Option Value} {news : Led} {s : Shared} {Q : Value → Shared → Prop} {lat : Bool} {ks : List Int} {T T2 D : Addr} {vs : List Value} {n j : Nat} {acc : List Int} {i : Int} {t1 t2 t3 : Tok} {b1 : Array UInt8} {tk' : Nat} {x y : Addr × Obj}
    (hret : ∀ (v : Value) (new : Led) (h' : Heap) (tk' : Nat), QuotRet lat ks v new → Fr h₀ L h' m → News h₀ L h' (new ++ news) → (∀ p ∈ news, ∀ q ∈ new, p.1 < q.1) → Q v { s with heap := h', toks := tk' })
    (e : runesL lat ks = (acc, (j : Int))) (hi : ((quoteL (ks.take j)).length : Int) = i) (hI : IntsAre vs acc) (hb : KBw.bInts b1 = [ks.getD j 0]) (l1 : AllLt T news) (l2 : AllLt T2 news) (l3 : AllLt D news) (F : Fr h₀ L h' m)
    (N : News h₀ L h' (tup T [.ref D, .ref T2] :: tup T2 [.str "bad utf-8" t1, .bytes b1 t2, .int i t3] :: x :: y :: (D, listOf vs.toArray n) :: news)) : Q (.ref T) { s with heap := h', toks := tk' } := by
  subst hi
  refine hret _ [tup T [.ref D, .ref T2], tup T2 [.str "bad utf-8" t1, .bytes b1 t2, .int _ t3], (D, listOf vs.toArray n)] _ _ (.inr ⟨j, by rw [e], T, D, vs, n, T2, t1, b1, t2, t3, rfl, rfl, by rw [e]; exact hI, hb⟩) F (fun q hq => ?_) fun p hp q hq => ?_
  · simp only [List.mem_append, List.mem_cons, List.not_mem_nil, or_false] at hq
    rcases hq with (rfl | rfl | rfl) | hq
    · exact N _ (by k_mem)
    · exact N _ (by k_mem)
    · exact N _ (by k_mem)
    · exact N _ (.tail _ (.tail _ (.tail _ (.tail _ (.tail _ hq)))))
  · simp only [List.mem_cons, List.not_mem_nil, or_false] at hq
    rcases hq with rfl | rfl | rfl
    · exact of_allLt l1 p hp
    · exact of_allLt l2 p hp
    · exact of_allLt l3 p hp
theorem endQuotOk {h₀ h' : Heap} {L : Addr} {m : Str → Option Value} {news : Led} {s : Shared} {Q : Value → Shared → Prop} {lat : Bool} {ks : List Int} {T D : Addr} {vs : List Value} {n : Nat} {acc : List Int} {tk' : Nat} {x y : Addr × Obj}
    (hret : ∀ (v : Value) (new : Led) (h' : Heap) (tk' : Nat), QuotRet lat ks v new → Fr h₀ L h' m → News h₀ L h' (new ++ news) → (∀ p ∈ news, ∀ q ∈ new, p.1 < q.1) → Q v { s with heap := h', toks := tk' })
    (e : runesL lat ks = (acc, -1)) (hI : IntsAre vs acc) (l1 : AllLt T news) (l3 : AllLt D news) (F : Fr h₀ L h' m)
    (N : News h₀ L h' (tup T [.ref D, .none] :: x :: y :: (D, listOf vs.toArray n) :: news)) : Q (.ref T) { s with heap := h', toks := tk' } := by
  refine hret _ [tup T [.ref D, .none], (D, listOf vs.toArray n)] _ _ (.inl ⟨by rw [e]; exact (by decide : (-1 : Int) < 0), T, D, vs, n, rfl, rfl, by rw [e]; exact hI⟩) F (fun q hq => ?_) fun p hp q hq => ?_
  · simp only [List.mem_append, List.mem_cons, List.not_mem_nil, or_false] at hq
    rcases hq with (rfl | rfl) | hq
    · exact N _ (by k_mem)
    · exact N _ (by k_mem)
    · exact N _ (.tail _ (.tail _ (.tail _ (.tail _ hq))))
  · simp only [List.mem_cons, List.not_mem_nil, or_false] at hq
    rcases hq with rfl | rfl
    · exact of_allLt l1 p hp
    · exact of_allLt l3 p hp
theorem slot_bexc_ga : Slot "Exception" "__getattribute__" "BaseException.__getattribute__" :=
  .of (owner := "BaseException") (n := "__getattribute__") (by rw [typeLookup_type, builtinLookup_eq_fast]; kernel_rfl) (by decide +kernel) (by decide +kernel) (by decide +kernel)
    (by first | exact .inl (by decide +kernel) | exact .inr (by decide +kernel)) (by rw [isSubtype_type]; kernel_rfl)
def quoted_ok_P (c : Cx) : Prop := ∀ (hks : KBw.bInts c.b1 = c.k1) (hz : c.k1.length ≤ 10000) (hS : ∀ j : Nat, j < c.k1.length → SignCase c.lat c.k1 j ((quoteL (c.k1.take j)).length : Int)) , CtN0c c 342 24 260 c.led [.bytes c.b1 c.t1, .bool c.lat] (QuotRet c.lat c.k1)
@[irreducible] noncomputable def quoted_ok_c : Cx := pick cx_some quoted_ok_P
noncomputable def quoted_ok_g : Cut (quoted_ok_P quoted_ok_c) (Heap × Addr × Heap) := by
  refine Cut.mk3 (G := ?G) fun H => ?main
  rotate_left
  unfold quoted_ok_P CtN0c
  k_fill
  intro hks hz hS hB0 hF0 hX0 hN0 hT0 hk0 hd hu hret
  refine wpAny_call ?_
  with_unfolding_all refine' code_defL ?k1 ?k2 ?k3 ?k4 ?k5 ?kA ?kK ?k6 ?k7 ?k8 ?k9 ?kB ?_ ?c2 ?c3 ?c4 ?c5
  case kA => exact rfl
  case kK => assumption
  case k1 => k_asm
  case k2 => k_asm
  case k3 => k_asm
  case k4 => k_asm
  case k5 => k_asm
  case k6 => k_is
  case k7 => k_is
  case k8 => exact Nat.lt_of_le_of_lt (Nat.le_add_right _ _) hd
  case k9 => exact BindsTo.of_eq (binds := [(Str.ofString "octets", .bytes quoted_ok_c.b1 quoted_ok_c.t1), (Str.ofString "is_latin1", .bool quoted_ok_c.lat)]) rfl
  case c5 => decide
  case kB => exact locs rfl
  case c2 => exact rfl
  case c3 => exact rfl
  case c4 => exact rfl
  intro gH LH hH FGH FH NH BH XH TH
  (try dsimp only)
  (try k_lift BH)
  revert hks hz hS hB0 hX0 hT0 hk0 hd hu hret FGH FH NH BH XH TH
  exact H gH LH hH
@[irreducible] noncomputable def quoted_ok_d : Heap × Addr × Heap := pick ⟨(⟨#[], default⟩, 0, ⟨#[], default⟩)⟩ quoted_ok_g.G
theorem quoted_ok_t1 : quoted_ok_g.G quoted_ok_d := by
  intro hks hz hS hB0 hX0 hT0 hk0 hd hu hret FGH FH NH BH XH TH
  have loops := myLoops
  have calls := myCalls
  have hqz : (quoteL quoted_ok_c.k1).length ≤ 100000 := by have := quoteL_le quoted_ok_c.k1; omega
  (try k_fold)
  (repeat' (first | (k_unfold; (try dsimp only)) | walk1 | (dsimp only; walk1) | (leave1; (try dsimp only)) | (refine Held.go ?_; first | ((with_reducible show wpAny _ _ (call (Value.ref _) _) _ _ _); first | ((k_here; (k_dflt refine' ctn_use (ctn_mem (over_ok ⟨_, rfl⟩ _ _ _ _ _ _ _ _ _ _ _ _ _ _ _ _ ?hks ?hz) ?m1 ?m2) ?k1 ?k2 ?k3 ?k4 ?k5 ?kK ?kd ?ku ?kp ?_); (((case k1 => k_asm); (case k2 => k_asm); (case k3 => k_asm); (case k4 => k_asm); (case k5 => k_asm); (case kK => first | exact rfl | assumption); (case kd => first | exact room2 (by assumption) rfl | ktr_room); (case ku => first | exact unit2 (by assumption) rfl | ktr_units))); (case m1 => k_mem); (case m2 => k_mem); (case hks => kba_ints); (case hz => first | assumption | omega); (case kp => trivial); (intro v9 new9 h9 tk9 R9 F9 N9 l9); (obtain ⟨q9, q9'⟩ := R9); (subst q9 q9'); (try dsimp only); (try simp only [List.singleton_append, List.cons_append, List.nil_append] at N9); clear l9; (try k_fold))) | ((k_here; (k_dflt refine' ctv_use (isword_ok ⟨_, rfl⟩ _ _ _ _ _ _) ?k1 ?k2 ?k3 ?k4 ?k5 ?kK ?kd ?ku ?kp ?_); (((case k1 => k_asm); (case k2 => k_asm); (case k3 => k_asm); (case k4 => k_asm); (case k5 => k_asm); (case kK => first | exact rfl | assumption); (case kd => first | exact room2 (by assumption) rfl | ktr_room); (case ku => first | exact unit2 (by assumption) rfl | ktr_units))); (case kp => trivial); (((intro t9 h9 tk9 F9 N9); (try dsimp only); (try k_fold)))))))))
  k_here
  k_dflt refine' ctn_use (quote_ok ⟨_, rfl⟩ _ _ _ _ _ _ _ _ hks ?hz) ?k1 ?k2 ?k3 ?k4 ?k5 ?kK ?kd ?ku ?kp ?_
  (((case k1 => k_asm); (case k2 => k_asm); (case k3 => k_asm); (case k4 => k_asm); (case k5 => k_asm); (case kK => first | exact rfl | assumption); (case kd => first | exact room2 (by assumption) rfl | ktr_room); (case ku => first | exact unit2 (by assumption) rfl | ktr_units)))
  case hz => omega
  case kp => trivial
  rintro v9 new9 h9 tk9 ⟨rfl, b9, t9, rfl, hb9⟩ F9 N9 l9
  (try k_fold)
  (repeat' (first | (k_unfold; (try dsimp only)) | walk1 | (dsimp only; walk1) | (leave1; (try dsimp only)) | (refine Held.go ?_; first | ((with_reducible show wpAny _ _ (call (Value.ref _) _) _ _ _); first | ((k_here; (k_dflt refine' ctn_use (ctn_mem (over_ok ⟨_, rfl⟩ _ _ _ _ _ _ _ _ _ _ _ _ _ _ _ _ ?hks ?hz) ?m1 ?m2) ?k1 ?k2 ?k3 ?k4 ?k5 ?kK ?kd ?ku ?kp ?_); (((case k1 => k_asm); (case k2 => k_asm); (case k3 => k_asm); (case k4 => k_asm); (case k5 => k_asm); (case kK => first | exact rfl | assumption); (case kd => first | exact room2 (by assumption) rfl | ktr_room); (case ku => first | exact unit2 (by assumption) rfl | ktr_units))); (case m1 => k_mem); (case m2 => k_mem); (case hks => kba_ints); (case hz => first | assumption | omega); (case kp => trivial); (intro v9 new9 h9 tk9 R9 F9 N9 l9); (obtain ⟨q9, q9'⟩ := R9); (subst q9 q9'); (try dsimp only); (try simp only [List.singleton_append, List.cons_append, List.nil_append] at N9); clear l9; (try k_fold))) | ((k_here; (k_dflt refine' ctv_use (isword_ok ⟨_, rfl⟩ _ _ _ _ _ _) ?k1 ?k2 ?k3 ?k4 ?k5 ?kK ?kd ?ku ?kp ?_); (((case k1 => k_asm); (case k2 => k_asm); (case k3 => k_asm); (case k4 => k_asm); (case k5 => k_asm); (case kK => first | exact rfl | assumption); (case kd => first | exact room2 (by assumption) rfl | ktr_room); (case ku => first | exact unit2 (by assumption) rfl | ktr_units))); (case kp => trivial); (((intro t9 h9 tk9 F9 N9); (try dsimp only); (try k_fold)))))))))
  k_here
  k_dflt refine' ctn_use (mkrd_ok ⟨_, rfl⟩ _ _ _ _ _ _ _ _) ?k1 ?k2 ?k3 ?k4 ?k5 ?kK ?kd ?ku ?kp ?_
  (((case k1 => k_asm); (case k2 => k_asm); (case k3 => k_asm); (case k4 => k_asm); (case k5 => k_asm); (case kK => first | exact rfl | assumption); (case kd => first | exact room2 (by assumption) rfl | ktr_room); (case ku => first | exact unit2 (by assumption) rfl | ktr_units)))
  case kp => trivial
  rintro v9 new9 h9 tk9 ⟨x, dx, k1, k2, k3, ti, rfl, rfl, hx⟩ F9 N9 l9
  replace hx : @LT.lt Nat _ dx x := hx
  have lx : ∀ p ∈ quoted_ok_c.led, p.1 < x := fun p hp => l9 p hp _ (.head _)
  have ldx : ∀ p ∈ quoted_ok_c.led, p.1 < dx := fun p hp => l9 p hp _ (.tail _ (.head _))
  clear l9
  simp only [List.cons_append, List.nil_append] at N9
  (try k_fold)
  (repeat' (first | (k_unfold; (try dsimp only)) | walk1 | (dsimp only; walk1) | (leave1; (try dsimp only)) | (refine Held.go ?_; first | ((with_reducible show wpAny _ _ (call (Value.ref _) _) _ _ _); first | ((k_here; (k_dflt refine' ctn_use (ctn_mem (over_ok ⟨_, rfl⟩ _ _ _ _ _ _ _ _ _ _ _ _ _ _ _ _ ?hks ?hz) ?m1 ?m2) ?k1 ?k2 ?k3 ?k4 ?k5 ?kK ?kd ?ku ?kp ?_); (((case k1 => k_asm); (case k2 => k_asm); (case k3 => k_asm); (case k4 => k_asm); (case k5 => k_asm); (case kK => first | exact rfl | assumption); (case kd => first | exact room2 (by assumption) rfl | ktr_room); (case ku => first | exact unit2 (by assumption) rfl | ktr_units))); (case m1 => k_mem); (case m2 => k_mem); (case hks => kba_ints); (case hz => first | assumption | omega); (case kp => trivial); (intro v9 new9 h9 tk9 R9 F9 N9 l9); (obtain ⟨q9, q9'⟩ := R9); (subst q9 q9'); (try dsimp only); (try simp only [List.singleton_append, List.cons_append, List.nil_append] at N9); clear l9; (try k_fold))) | ((k_here; (k_dflt refine' ctv_use (isword_ok ⟨_, rfl⟩ _ _ _ _ _ _) ?k1 ?k2 ?k3 ?k4 ?k5 ?kK ?kd ?ku ?kp ?_); (((case k1 => k_asm); (case k2 => k_asm); (case k3 => k_asm); (case k4 => k_asm); (case k5 => k_asm); (case kK => first | exact rfl | assumption); (case kd => first | exact room2 (by assumption) rfl | ktr_room); (case ku => first | exact unit2 (by assumption) rfl | ktr_units))); (case kp => trivial); (((intro t9 h9 tk9 F9 N9); (try dsimp only); (try k_fold)))))))))
  rename_i D hA lD Dt hB lDt hC hD hE F N
  obtain ⟨d1, d2, d3⟩ := lD
  have hn1 := ne_all (of_allLt d3)
  have hn2 := ne_all ldx
  refine Held.go ?_
  with_unfolding_all refine' ksw_while (σ := (List Value × Nat) × (Nat × Tok)) (fun c => (x, instObj 235 dx) :: (dx, dictOf (rdE quoted_ok_c.w k1 k2 k3 b9 t9 quoted_ok_c.lat ((quoteL (quoted_ok_c.k1.take c.2.1)).length : Int) c.2.2) 3) :: (D, listOf c.1.1.toArray c.1.2) :: quoted_ok_c.led) (fun _ => []) (fun _ => True) [] (fun c => c.2.1 ≤ quoted_ok_c.k1.length + 4 ∧ ∃ acc, IntsAre c.1.1 acc ∧ acc.length ≤ c.2.1 ∧ ∃ n : Nat, (quoted_ok_c.k1.length : Int) - c.2.1 < n ∧ runesR quoted_ok_c.lat quoted_ok_c.k1 n c.2.1 acc = runesL quoted_ok_c.lat quoted_ok_c.k1) (fun c => quoted_ok_c.k1.length + 4 - c.2.1) (([], 0), (0, ti)) F ?nn trivial ?kk ?kp ?turn
  case nn =>
    intro p hp
    simp only [List.mem_cons] at hp
    rcases hp with rfl | rfl | rfl | hp
    · exact N _ (by k_mem)
    · exact N _ (by k_mem)
    · exact N _ (by k_mem)
    · exact N _ (.tail _ (.tail _ (.tail _ (.tail _ hp))))
  case kk => kst_all
  case kp => exact ⟨by simp, [], .nil, by simp, quoted_ok_c.k1.length + 1, by simp; omega, rfl⟩
  case turn =>
    rintro ⟨⟨vs, m⟩, j, tj⟩ u h tk _ ⟨h4, acc, hI, hal, n, hn, hr⟩ F' N'
    (try dsimp only [kstB] at F')
    dsimp only at h4 hI N' hn hr hal
    by_cases hj : j < quoted_ok_c.k1.length
    · have hSj := hS j hj
      have hlt : ¬ ((quoteL quoted_ok_c.k1).length : Int) ≤ ((quoteL (quoted_ok_c.k1.take j)).length : Int) := by cases hSj <;> omega
      generalize hi : ((quoteL (quoted_ok_c.k1.take j)).length : Int) = i at *
      have hi0 : 0 ≤ i := by omega
      have hrest : ∀ p ∈ (D, listOf vs.toArray m) :: quoted_ok_c.led, p.1 ≠ dx := fun p hp => by
        rcases List.mem_cons.mp hp with rfl | hp
        · exact Nat.ne_of_gt d2
        · exact hn2 p hp
      have hvz : vs.toArray.size ≤ 100000 := by rw [List.size_toArray, hI.length]; omega
      have step : ∀ (q c : Int) (vs' : List Value) (tq : Tok), manyAt quoted_ok_c.lat quoted_ok_c.k1 j = q → q ≠ 0 → runeV quoted_ok_c.k1 j q = c → vs' = vs ++ [.int c tq] →
          j + q.toNat ≤ quoted_ok_c.k1.length + 4 ∧ ∃ acc, IntsAre vs' acc ∧ acc.length ≤ j + q.toNat ∧ ∃ n : Nat, (quoted_ok_c.k1.length : Int) - ((j + q.toNat : Nat) : Int) < n ∧ runesR quoted_ok_c.lat quoted_ok_c.k1 n ((j + q.toNat : Nat) : Int) acc = runesL quoted_ok_c.lat quoted_ok_c.k1 := by
        rintro q c _ tq hq hq0 hc rfl
        have hm := manyAt_in quoted_ok_c.lat quoted_ok_c.k1 j
        refine ⟨by omega, acc ++ [c], hI.append (.cons _ _ .nil), by rw [List.length_append, List.length_singleton]; omega, ?_⟩
        exact runes_next hn hr hj hq hq0 hc
      (repeat' (first | (k_unfold; (try dsimp only)) | walk1 | (dsimp only; walk1) | (leave1; (try dsimp only)) | (refine Held.go ?_; first | ((with_reducible show wpAny _ _ (call (Value.ref _) _) _ _ _); first | ((k_here; (k_dflt refine' ctn_use (ctn_mem (over_ok ⟨_, rfl⟩ _ _ _ _ _ _ _ _ _ _ _ _ _ _ _ _ ?hks ?hz) ?m1 ?m2) ?k1 ?k2 ?k3 ?k4 ?k5 ?kK ?kd ?ku ?kp ?_); (((case k1 => k_asm); (case k2 => k_asm); (case k3 => k_asm); (case k4 => k_asm); (case k5 => k_asm); (case kK => first | exact rfl | assumption); (case kd => first | exact room2 (by assumption) rfl | ktr_room); (case ku => first | exact unit2 (by assumption) rfl | ktr_units))); (case m1 => k_mem); (case m2 => k_mem); (case hks => kba_ints); (case hz => first | assumption | omega); (case kp => trivial); (intro v9 new9 h9 tk9 R9 F9 N9 l9); (obtain ⟨q9, q9'⟩ := R9); (subst q9 q9'); (try dsimp only); (try simp only [List.singleton_append, List.cons_append, List.nil_append] at N9); clear l9; (try k_fold))) | ((k_here; (k_dflt refine' ctv_use (isword_ok ⟨_, rfl⟩ _ _ _ _ _ _) ?k1 ?k2 ?k3 ?k4 ?k5 ?kK ?kd ?ku ?kp ?_); (((case k1 => k_asm); (case k2 => k_asm); (case k3 => k_asm); (case k4 => k_asm); (case k5 => k_asm); (case kK => first | exact rfl | assumption); (case kd => first | exact room2 (by assumption) rfl | ktr_room); (case ku => first | exact unit2 (by assumption) rfl | ktr_units))); (case kp => trivial); (((intro t9 h9 tk9 F9 N9); (try dsimp only); (try k_fold)))))))))
      k_here
      k_dflt refine' ctg_use (peek_ok ⟨_, rfl⟩ _ _ _ _ _ _ _ _ _ _ _ _ _ _ _ _ hb9 hqz hi0 (by omega)) ?k1 ?k2 ?k3 ?k4 ?k5 ?kK ?kd ?ku ?kp ?kret ?kexc
      (((case k1 => k_asm); (case k2 => k_asm); (case k3 => k_asm); (case k4 => k_asm); (case k5 => k_asm); (case kK => first | exact rfl | assumption); (case kd => first | exact room2 (by assumption) rfl | ktr_room); (case ku => first | exact unit2 (by assumption) rfl | ktr_units)))
      case kp => trivial
      case kret =>
        rintro v9 new9 h9 tk9 ⟨rfl, nb, u9, rfl⟩ F9 N9
        cases hSj with
        | bad h1 h3 h5 h6 => exact absurd h5 nb
        | zero h1 h2 h3 h4 h5 h6 h7 h8 h9 h10 =>
          rw [h4]
          (repeat' (first | (k_unfold; (try dsimp only)) | walk1 | (dsimp only; walk1) | (leave1; (try dsimp only)) | (refine Held.go ?_; first | ((with_reducible show wpAny _ _ (call (Value.ref _) _) _ _ _); first | ((k_here; (k_dflt refine' ctn_use (ctn_mem (over_ok ⟨_, rfl⟩ _ _ _ _ _ _ _ _ _ _ _ _ _ _ _ _ ?hks ?hz) ?m1 ?m2) ?k1 ?k2 ?k3 ?k4 ?k5 ?kK ?kd ?ku ?kp ?_); (((case k1 => k_asm); (case k2 => k_asm); (case k3 => k_asm); (case k4 => k_asm); (case k5 => k_asm); (case kK => first | exact rfl | assumption); (case kd => first | exact room2 (by assumption) rfl | ktr_room); (case ku => first | exact unit2 (by assumption) rfl | ktr_units))); (case m1 => k_mem); (case m2 => k_mem); (case hks => kba_ints); (case hz => first | assumption | omega); (case kp => trivial); (intro v9 new9 h9 tk9 R9 F9 N9 l9); (obtain ⟨q9, q9'⟩ := R9); (subst q9 q9'); (try dsimp only); (try simp only [List.singleton_append, List.cons_append, List.nil_append] at N9); clear l9; (try k_fold))) | ((k_here; (k_dflt refine' ctv_use (isword_ok ⟨_, rfl⟩ _ _ _ _ _ _) ?k1 ?k2 ?k3 ?k4 ?k5 ?kK ?kd ?ku ?kp ?_); (((case k1 => k_asm); (case k2 => k_asm); (case k3 => k_asm); (case k4 => k_asm); (case k5 => k_asm); (case kK => first | exact rfl | assumption); (case kd => first | exact room2 (by assumption) rfl | ktr_room); (case ku => first | exact unit2 (by assumption) rfl | ktr_units))); (case kp => trivial); (((intro t9 h9 tk9 F9 N9); (try dsimp only); (try k_fold)))))))))
          k_here
          k_dflt refine' ctg_use (escB_ok ⟨_, rfl⟩ _ _ _ _ _ _ _ _ _ _ _ _ _ _ _ _ hb9 hqz hi0 (by omega) hx hrest h6 h7 h3 h8 h9) ?k1 ?k2 ?k3 ?k4 ?k5 ?kK ?kd ?ku ?kp ?kretB ?kexcB
          (((case k1 => k_asm); (case k2 => k_asm); (case k3 => k_asm); (case k4 => k_asm); (case k5 => k_asm); (case kK => first | exact rfl | assumption); (case kd => first | exact room2 (by assumption) rfl | ktr_room); (case ku => first | exact unit2 (by assumption) rfl | ktr_units)))
          case kp => trivial
          case kexcB => intro e9 dx9 es9 n9 g9 h9 tk9 F9 U9 R9 l9 p9; exact p9.elim
          case kretB =>
            rintro v9 new9 h9' tk9' ⟨tj', rfl, u8, rfl⟩ F9 N9
            (try dsimp only)
            (repeat' (first | (k_unfold; (try dsimp only)) | walk1 | (dsimp only; walk1) | (leave1; (try dsimp only)) | (refine Held.go ?_; first | ((with_reducible show wpAny _ _ (call (Value.ref _) _) _ _ _); first | ((k_here; (k_dflt refine' ctn_use (ctn_mem (over_ok ⟨_, rfl⟩ _ _ _ _ _ _ _ _ _ _ _ _ _ _ _ _ ?hks ?hz) ?m1 ?m2) ?k1 ?k2 ?k3 ?k4 ?k5 ?kK ?kd ?ku ?kp ?_); (((case k1 => k_asm); (case k2 => k_asm); (case k3 => k_asm); (case k4 => k_asm); (case k5 => k_asm); (case kK => first | exact rfl | assumption); (case kd => first | exact room2 (by assumption) rfl | ktr_room); (case ku => first | exact unit2 (by assumption) rfl | ktr_units))); (case m1 => k_mem); (case m2 => k_mem); (case hks => kba_ints); (case hz => first | assumption | omega); (case kp => trivial); (intro v9 new9 h9 tk9 R9 F9 N9 l9); (obtain ⟨q9, q9'⟩ := R9); (subst q9 q9'); (try dsimp only); (try simp only [List.singleton_append, List.cons_append, List.nil_append] at N9); clear l9; (try k_fold))) | ((k_here; (k_dflt refine' ctv_use (isword_ok ⟨_, rfl⟩ _ _ _ _ _ _) ?k1 ?k2 ?k3 ?k4 ?k5 ?kK ?kd ?ku ?kp ?_); (((case k1 => k_asm); (case k2 => k_asm); (case k3 => k_asm); (case k4 => k_asm); (case k5 => k_asm); (case kK => first | exact rfl | assumption); (case kd => first | exact room2 (by assumption) rfl | ktr_room); (case ku => first | exact unit2 (by assumption) rfl | ktr_units))); (case kp => trivial); (((intro t9 h9 tk9 F9 N9); (try dsimp only); (try k_fold)))))))))
            (rename Fr _ _ _ _ => F); (rename News _ _ _ _ => N)
            (try simp only [List.push_toArray] at N)
            rw [← h10] at N
            refine ksw_end ((vs ++ [_], m + 1), (j + 1, tj')) F N (fun p hp => hp) trivial (by kst_all) (by ksw_same) (step 1 0 _ _ h1 Int.one_ne_zero h2 rfl) (by dsimp only; omega)
        | quoted c h1 h2 h3 h4 h5 h6 h7 c0 c1 c2 c3 c4 h10 =>
          rw [h4]
          (repeat' (first | (k_unfold; (try dsimp only)) | walk1 | (dsimp only; walk1) | (leave1; (try dsimp only)) | (refine Held.go ?_; first | ((with_reducible show wpAny _ _ (call (Value.ref _) _) _ _ _); first | ((k_here; (k_dflt refine' ctn_use (ctn_mem (over_ok ⟨_, rfl⟩ _ _ _ _ _ _ _ _ _ _ _ _ _ _ _ _ ?hks ?hz) ?m1 ?m2) ?k1 ?k2 ?k3 ?k4 ?k5 ?kK ?kd ?ku ?kp ?_); (((case k1 => k_asm); (case k2 => k_asm); (case k3 => k_asm); (case k4 => k_asm); (case k5 => k_asm); (case kK => first | exact rfl | assumption); (case kd => first | exact room2 (by assumption) rfl | ktr_room); (case ku => first | exact unit2 (by assumption) rfl | ktr_units))); (case m1 => k_mem); (case m2 => k_mem); (case hks => kba_ints); (case hz => first | assumption | omega); (case kp => trivial); (intro v9 new9 h9 tk9 R9 F9 N9 l9); (obtain ⟨q9, q9'⟩ := R9); (subst q9 q9'); (try dsimp only); (try simp only [List.singleton_append, List.cons_append, List.nil_append] at N9); clear l9; (try k_fold))) | ((k_here; (k_dflt refine' ctv_use (isword_ok ⟨_, rfl⟩ _ _ _ _ _ _) ?k1 ?k2 ?k3 ?k4 ?k5 ?kK ?kd ?ku ?kp ?_); (((case k1 => k_asm); (case k2 => k_asm); (case k3 => k_asm); (case k4 => k_asm); (case k5 => k_asm); (case kK => first | exact rfl | assumption); (case kd => first | exact room2 (by assumption) rfl | ktr_room); (case ku => first | exact unit2 (by assumption) rfl | ktr_units))); (case kp => trivial); (((intro t9 h9 tk9 F9 N9); (try dsimp only); (try k_fold)))))))))
          k_here
          k_dflt refine' ctg_use (escA_ok ⟨_, rfl⟩ _ _ _ _ _ _ _ _ _ _ _ _ _ _ _ _ hb9 hqz hi0 h3 hx hrest c h6 h7 c0 c1 c2 c3 c4) ?k1 ?k2 ?k3 ?k4 ?k5 ?kK ?kd ?ku ?kp ?kretA ?kexcA
          (((case k1 => k_asm); (case k2 => k_asm); (case k3 => k_asm); (case k4 => k_asm); (case k5 => k_asm); (case kK => first | exact rfl | assumption); (case kd => first | exact room2 (by assumption) rfl | ktr_room); (case ku => first | exact unit2 (by assumption) rfl | ktr_units)))
          case kp => trivial
          case kexcA => intro e9 dx9 es9 n9 g9 h9 tk9 F9 U9 R9 l9 p9; exact p9.elim
          case kretA =>
            rintro v9 new9 h9' tk9' ⟨tj', rfl, u8, rfl⟩ F9 N9
            (try dsimp only)
            (repeat' (first | (k_unfold; (try dsimp only)) | walk1 | (dsimp only; walk1) | (leave1; (try dsimp only)) | (refine Held.go ?_; first | ((with_reducible show wpAny _ _ (call (Value.ref _) _) _ _ _); first | ((k_here; (k_dflt refine' ctn_use (ctn_mem (over_ok ⟨_, rfl⟩ _ _ _ _ _ _ _ _ _ _ _ _ _ _ _ _ ?hks ?hz) ?m1 ?m2) ?k1 ?k2 ?k3 ?k4 ?k5 ?kK ?kd ?ku ?kp ?_); (((case k1 => k_asm); (case k2 => k_asm); (case k3 => k_asm); (case k4 => k_asm); (case k5 => k_asm); (case kK => first | exact rfl | assumption); (case kd => first | exact room2 (by assumption) rfl | ktr_room); (case ku => first | exact unit2 (by assumption) rfl | ktr_units))); (case m1 => k_mem); (case m2 => k_mem); (case hks => kba_ints); (case hz => first | assumption | omega); (case kp => trivial); (intro v9 new9 h9 tk9 R9 F9 N9 l9); (obtain ⟨q9, q9'⟩ := R9); (subst q9 q9'); (try dsimp only); (try simp only [List.singleton_append, List.cons_append, List.nil_append] at N9); clear l9; (try k_fold))) | ((k_here; (k_dflt refine' ctv_use (isword_ok ⟨_, rfl⟩ _ _ _ _ _ _) ?k1 ?k2 ?k3 ?k4 ?k5 ?kK ?kd ?ku ?kp ?_); (((case k1 => k_asm); (case k2 => k_asm); (case k3 => k_asm); (case k4 => k_asm); (case k5 => k_asm); (case kK => first | exact rfl | assumption); (case kd => first | exact room2 (by assumption) rfl | ktr_room); (case ku => first | exact unit2 (by assumption) rfl | ktr_units))); (case kp => trivial); (((intro t9 h9 tk9 F9 N9); (try dsimp only); (try k_fold)))))))))
            (rename Fr _ _ _ _ => F); (rename News _ _ _ _ => N)
            (try simp only [List.push_toArray] at N)
            rw [← h10] at N
            refine ksw_end ((vs ++ [_], m + 1), (j + 1, tj')) F N (fun p hp => hp) trivial (by kst_all) (by ksw_same) (step 1 c _ _ h1 Int.one_ne_zero h2 rfl) (by dsimp only; omega)
        | plain h1 h3 h4 h5 c0 c1 h10 =>
          rw [h4]
          generalize hm : manyAt quoted_ok_c.lat quoted_ok_c.k1 j = q at *
          generalize hc : runeV quoted_ok_c.k1 j q = c at *
          dsimp only
          (repeat' (first | (k_unfold; (try dsimp only)) | walk1 | (dsimp only; walk1) | (leave1; (try dsimp only)) | (refine Held.go ?_; first | ((with_reducible show wpAny _ _ (call (Value.ref _) _) _ _ _); first | ((k_here; (k_dflt refine' ctn_use (ctn_mem (over_ok ⟨_, rfl⟩ _ _ _ _ _ _ _ _ _ _ _ _ _ _ _ _ ?hks ?hz) ?m1 ?m2) ?k1 ?k2 ?k3 ?k4 ?k5 ?kK ?kd ?ku ?kp ?_); (((case k1 => k_asm); (case k2 => k_asm); (case k3 => k_asm); (case k4 => k_asm); (case k5 => k_asm); (case kK => first | exact rfl | assumption); (case kd => first | exact room2 (by assumption) rfl | ktr_room); (case ku => first | exact unit2 (by assumption) rfl | ktr_units))); (case m1 => k_mem); (case m2 => k_mem); (case hks => kba_ints); (case hz => first | assumption | omega); (case kp => trivial); (intro v9 new9 h9 tk9 R9 F9 N9 l9); (obtain ⟨q9, q9'⟩ := R9); (subst q9 q9'); (try dsimp only); (try simp only [List.singleton_append, List.cons_append, List.nil_append] at N9); clear l9; (try k_fold))) | ((k_here; (k_dflt refine' ctv_use (isword_ok ⟨_, rfl⟩ _ _ _ _ _ _) ?k1 ?k2 ?k3 ?k4 ?k5 ?kK ?kd ?ku ?kp ?_); (((case k1 => k_asm); (case k2 => k_asm); (case k3 => k_asm); (case k4 => k_asm); (case k5 => k_asm); (case kK => first | exact rfl | assumption); (case kd => first | exact room2 (by assumption) rfl | ktr_room); (case ku => first | exact unit2 (by assumption) rfl | ktr_units))); (case kp => trivial); (((intro t9 h9 tk9 F9 N9); (try dsimp only); (try k_fold)))))))))
          all_goals try (exact absurd (by assumption : c = 92) c0)
          k_here
          k_dflt refine' ctg_use (take_ok ⟨_, rfl⟩ _ _ _ _ _ _ _ _ _ _ _ _ _ _ _ _ hb9 hqz hi0 h3 hx hrest) ?k1 ?k2 ?k3 ?k4 ?k5 ?kK ?kd ?ku ?kp ?kretT ?kexcT
          (((case k1 => k_asm); (case k2 => k_asm); (case k3 => k_asm); (case k4 => k_asm); (case k5 => k_asm); (case kK => first | exact rfl | assumption); (case kd => first | exact room2 (by assumption) rfl | ktr_room); (case ku => first | exact unit2 (by assumption) rfl | ktr_units)))
          case kp => trivial
          case kexcT => intro e9 dx9 es9 n9 g9 h9 tk9 F9 U9 R9 l9 p9; exact absurd p9.1 h5
          case kretT =>
            rintro v9 new9 h9' tk9' ⟨tj', rfl, _, u8, rfl⟩ F9 N9
            rw [h4] at N9 ⊢
            dsimp only at N9 ⊢
            have hq := manyAt_in quoted_ok_c.lat quoted_ok_c.k1 j
            rw [hm] at hq
            (repeat' (first | (k_unfold; (try dsimp only)) | walk1 | (dsimp only; walk1) | (leave1; (try dsimp only)) | (refine Held.go ?_; first | ((with_reducible show wpAny _ _ (call (Value.ref _) _) _ _ _); first | ((k_here; (k_dflt refine' ctn_use (ctn_mem (over_ok ⟨_, rfl⟩ _ _ _ _ _ _ _ _ _ _ _ _ _ _ _ _ ?hks ?hz) ?m1 ?m2) ?k1 ?k2 ?k3 ?k4 ?k5 ?kK ?kd ?ku ?kp ?_); (((case k1 => k_asm); (case k2 => k_asm); (case k3 => k_asm); (case k4 => k_asm); (case k5 => k_asm); (case kK => first | exact rfl | assumption); (case kd => first | exact room2 (by assumption) rfl | ktr_room); (case ku => first | exact unit2 (by assumption) rfl | ktr_units))); (case m1 => k_mem); (case m2 => k_mem); (case hks => kba_ints); (case hz => first | assumption | omega); (case kp => trivial); (intro v9 new9 h9 tk9 R9 F9 N9 l9); (obtain ⟨q9, q9'⟩ := R9); (subst q9 q9'); (try dsimp only); (try simp only [List.singleton_append, List.cons_append, List.nil_append] at N9); clear l9; (try k_fold))) | ((k_here; (k_dflt refine' ctv_use (isword_ok ⟨_, rfl⟩ _ _ _ _ _ _) ?k1 ?k2 ?k3 ?k4 ?k5 ?kK ?kd ?ku ?kp ?_); (((case k1 => k_asm); (case k2 => k_asm); (case k3 => k_asm); (case k4 => k_asm); (case k5 => k_asm); (case kK => first | exact rfl | assumption); (case kd => first | exact room2 (by assumption) rfl | ktr_room); (case ku => first | exact unit2 (by assumption) rfl | ktr_units))); (case kp => trivial); (((intro t9 h9 tk9 F9 N9); (try dsimp only); (try k_fold)))))))))
            · (rename Fr _ _ _ _ => F); (rename News _ _ _ _ => N)
              rw [← h10] at N
              refine ksw_end ((vs ++ [_], m + 1), (j + q.toNat, tj')) F N (fun p hp => hp) trivial (by kst_all) (by ksw_same) (step q c _ _ rfl h1 hc rfl) (by dsimp only; omega)
            · rw [c1 (by assumption)] at *
              contradiction
            · (rename Fr _ _ _ _ => F); (rename News _ _ _ _ => N)
              rw [← h10] at N
              refine ksw_end ((vs ++ [_], m + 1), (j + q.toNat, tj')) F N (fun p hp => hp) trivial (by kst_all) (by ksw_same) (step q c _ _ rfl h1 hc rfl) (by dsimp only; omega)
      case kexc =>
        intro e9 dx9 es9 n9 g9 h9 tk9 F9 U9 R9 l9 p9
        obtain ⟨p9, t1, b1, t2, t3, gc, gt, hb1, gp⟩ := p9
        have hm0 : manyAt quoted_ok_c.lat quoted_ok_c.k1 j = 0 ∧ seg (quoteL quoted_ok_c.k1) i (i + 1) = [quoted_ok_c.k1.getD j 0] := by
          cases hSj with
          | bad h1 h3 h5 h6 => exact ⟨h1, h6⟩
          | zero h1 h2 h3 h4 h5 => exact absurd p9 h5
          | quoted c h1 h2 h3 h4 h5 => exact absurd p9 h5
          | plain h1 h3 h4 h5 => exact absurd p9 h5
        have hrb := runes_bad (acc := acc) hn hj hm0.1
        rw [hr] at hrb
        (rename LawG _ _ _ _ => G9)
        k_dflt refine caughtLB G9 (by assumption) rfl F9 U9 R9 (by assumption) (by assumption) (by k_is) (by k_is) (by kernel_rfl) ?_
        intro h1 g1 oe ws tk1 G1 F1 N1 oc od of one B1 X1 T1
        have hoe : h1.get? e9 = some oe := (N1 _ (.head _)).1
        (repeat' (first | (k_unfold; (try dsimp only)) | walk1 | (dsimp only; walk1) | (leave1; (try dsimp only)) | (refine Held.go ?_; first | ((with_reducible show wpAny _ _ (call (Value.ref _) _) _ _ _); first | ((k_here; (k_dflt refine' ctn_use (ctn_mem (over_ok ⟨_, rfl⟩ _ _ _ _ _ _ _ _ _ _ _ _ _ _ _ _ ?hks ?hz) ?m1 ?m2) ?k1 ?k2 ?k3 ?k4 ?k5 ?kK ?kd ?ku ?kp ?_); (((case k1 => k_asm); (case k2 => k_asm); (case k3 => k_asm); (case k4 => k_asm); (case k5 => k_asm); (case kK => first | exact rfl | assumption); (case kd => first | exact room2 (by assumption) rfl | ktr_room); (case ku => first | exact unit2 (by assumption) rfl | ktr_units))); (case m1 => k_mem); (case m2 => k_mem); (case hks => kba_ints); (case hz => first | assumption | omega); (case kp => trivial); (intro v9 new9 h9 tk9 R9 F9 N9 l9); (obtain ⟨q9, q9'⟩ := R9); (subst q9 q9'); (try dsimp only); (try simp only [List.singleton_append, List.cons_append, List.nil_append] at N9); clear l9; (try k_fold))) | ((k_here; (k_dflt refine' ctv_use (isword_ok ⟨_, rfl⟩ _ _ _ _ _ _) ?k1 ?k2 ?k3 ?k4 ?k5 ?kK ?kd ?ku ?kp ?_); (((case k1 => k_asm); (case k2 => k_asm); (case k3 => k_asm); (case k4 => k_asm); (case k5 => k_asm); (case kK => first | exact rfl | assumption); (case kd => first | exact room2 (by assumption) rfl | ktr_room); (case ku => first | exact unit2 (by assumption) rfl | ktr_units))); (case kp => trivial); (((intro t9 h9 tk9 F9 N9); (try dsimp only); (try k_fold)))))))))
        have hI9 : InstAt h1 e9 oe 60 (some (dictOf es9 n9)) := ⟨hoe, oc, by unfold notCls; rw [of], by rw [od]; exact (N1 _ (.tail _ (.head _))).1⟩
        k_dflt refine' get_valueE (K := KF quoted_ok_c.w.params) ?X0 ?I0 slot_bexc_ga ?a10 ?a20 ?a30 ?a40 ?a50 ?a60 (show lookIn _ (dictOf es9 n9) = _ from gc) rfl ?_
        case X0 => exact X1.keeps F1.keep
        case I0 => exact hI9
        case a10 => k_is
        case a20 => k_is
        case a30 => kernel_rfl
        case a40 => exact rfl
        case a50 => exact rfl
        case a60 => k_is
        (repeat' (first | (k_unfold; (try dsimp only)) | walk1 | (dsimp only; walk1) | (leave1; (try dsimp only)) | (refine Held.go ?_; first | ((with_reducible show wpAny _ _ (call (Value.ref _) _) _ _ _); first | ((k_here; (k_dflt refine' ctn_use (ctn_mem (over_ok ⟨_, rfl⟩ _ _ _ _ _ _ _ _ _ _ _ _ _ _ _ _ ?hks ?hz) ?m1 ?m2) ?k1 ?k2 ?k3 ?k4 ?k5 ?kK ?kd ?ku ?kp ?_); (((case k1 => k_asm); (case k2 => k_asm); (case k3 => k_asm); (case k4 => k_asm); (case k5 => k_asm); (case kK => first | exact rfl | assumption); (case kd => first | exact room2 (by assumption) rfl | ktr_room); (case ku => first | exact unit2 (by assumption) rfl | ktr_units))); (case m1 => k_mem); (case m2 => k_mem); (case hks => kba_ints); (case hz => first | assumption | omega); (case kp => trivial); (intro v9 new9 h9 tk9 R9 F9 N9 l9); (obtain ⟨q9, q9'⟩ := R9); (subst q9 q9'); (try dsimp only); (try simp only [List.singleton_append, List.cons_append, List.nil_append] at N9); clear l9; (try k_fold))) | ((k_here; (k_dflt refine' ctv_use (isword_ok ⟨_, rfl⟩ _ _ _ _ _ _) ?k1 ?k2 ?k3 ?k4 ?k5 ?kK ?kd ?ku ?kp ?_); (((case k1 => k_asm); (case k2 => k_asm); (case k3 => k_asm); (case k4 => k_asm); (case k5 => k_asm); (case kK => first | exact rfl | assumption); (case kd => first | exact room2 (by assumption) rfl | ktr_room); (case ku => first | exact unit2 (by assumption) rfl | ktr_units))); (case kp => trivial); (((intro t9 h9 tk9 F9 N9); (try dsimp only); (try k_fold)))))))))
        k_dflt refine' get_valueE (K := KF quoted_ok_c.w.params) ?X1 ?I1 slot_bexc_ga ?a11 ?a21 ?a31 ?a41 ?a51 ?a61 (show lookIn _ (dictOf es9 n9) = _ from gt) rfl ?_
        case X1 => exact X1.keeps F1.keep
        case I1 => exact hI9
        case a11 => k_is
        case a21 => k_is
        case a31 => kernel_rfl
        case a41 => exact rfl
        case a51 => exact rfl
        case a61 => k_is
        (repeat' (first | (k_unfold; (try dsimp only)) | walk1 | (dsimp only; walk1) | (leave1; (try dsimp only)) | (refine Held.go ?_; first | ((with_reducible show wpAny _ _ (call (Value.ref _) _) _ _ _); first | ((k_here; (k_dflt refine' ctn_use (ctn_mem (over_ok ⟨_, rfl⟩ _ _ _ _ _ _ _ _ _ _ _ _ _ _ _ _ ?hks ?hz) ?m1 ?m2) ?k1 ?k2 ?k3 ?k4 ?k5 ?kK ?kd ?ku ?kp ?_); (((case k1 => k_asm); (case k2 => k_asm); (case k3 => k_asm); (case k4 => k_asm); (case k5 => k_asm); (case kK => first | exact rfl | assumption); (case kd => first | exact room2 (by assumption) rfl | ktr_room); (case ku => first | exact unit2 (by assumption) rfl | ktr_units))); (case m1 => k_mem); (case m2 => k_mem); (case hks => kba_ints); (case hz => first | assumption | omega); (case kp => trivial); (intro v9 new9 h9 tk9 R9 F9 N9 l9); (obtain ⟨q9, q9'⟩ := R9); (subst q9 q9'); (try dsimp only); (try simp only [List.singleton_append, List.cons_append, List.nil_append] at N9); clear l9; (try k_fold))) | ((k_here; (k_dflt refine' ctv_use (isword_ok ⟨_, rfl⟩ _ _ _ _ _ _) ?k1 ?k2 ?k3 ?k4 ?k5 ?kK ?kd ?ku ?kp ?_); (((case k1 => k_asm); (case k2 => k_asm); (case k3 => k_asm); (case k4 => k_asm); (case k5 => k_asm); (case kK => first | exact rfl | assumption); (case kd => first | exact room2 (by assumption) rfl | ktr_room); (case ku => first | exact unit2 (by assumption) rfl | ktr_units))); (case kp => trivial); (((intro t9 h9 tk9 F9 N9); (try dsimp only); (try k_fold)))))))))
        k_dflt refine' get_valueE (K := KF quoted_ok_c.w.params) ?X2 ?I2 slot_bexc_ga ?a12 ?a22 ?a32 ?a42 ?a52 ?a62 (show lookIn _ (dictOf es9 n9) = _ from gp) rfl ?_
        case X2 => exact X1.keeps F1.keep
        case I2 => exact hI9
        case a12 => k_is
        case a22 => k_is
        case a32 => kernel_rfl
        case a42 => exact rfl
        case a52 => exact rfl
        case a62 => k_is
        (repeat' (first | (k_unfold; (try dsimp only)) | walk1 | (dsimp only; walk1) | (leave1; (try dsimp only)) | (refine Held.go ?_; first | ((with_reducible show wpAny _ _ (call (Value.ref _) _) _ _ _); first | ((k_here; (k_dflt refine' ctn_use (ctn_mem (over_ok ⟨_, rfl⟩ _ _ _ _ _ _ _ _ _ _ _ _ _ _ _ _ ?hks ?hz) ?m1 ?m2) ?k1 ?k2 ?k3 ?k4 ?k5 ?kK ?kd ?ku ?kp ?_); (((case k1 => k_asm); (case k2 => k_asm); (case k3 => k_asm); (case k4 => k_asm); (case k5 => k_asm); (case kK => first | exact rfl | assumption); (case kd => first | exact room2 (by assumption) rfl | ktr_room); (case ku => first | exact unit2 (by assumption) rfl | ktr_units))); (case m1 => k_mem); (case m2 => k_mem); (case hks => kba_ints); (case hz => first | assumption | omega); (case kp => trivial); (intro v9 new9 h9 tk9 R9 F9 N9 l9); (obtain ⟨q9, q9'⟩ := R9); (subst q9 q9'); (try dsimp only); (try simp only [List.singleton_append, List.cons_append, List.nil_append] at N9); clear l9; (try k_fold))) | ((k_here; (k_dflt refine' ctv_use (isword_ok ⟨_, rfl⟩ _ _ _ _ _ _) ?k1 ?k2 ?k3 ?k4 ?k5 ?kK ?kd ?ku ?kp ?_); (((case k1 => k_asm); (case k2 => k_asm); (case k3 => k_asm); (case k4 => k_asm); (case k5 => k_asm); (case kK => first | exact rfl | assumption); (case kd => first | exact room2 (by assumption) rfl | ktr_room); (case ku => first | exact unit2 (by assumption) rfl | ktr_units))); (case kp => trivial); (((intro t9 h9 tk9 F9 N9); (try dsimp only); (try k_fold)))))))))
        (rename _ < _ ∧ _ < _ ∧ _ < _ ∧ _ < _ ∧ AllLt _ quoted_ok_c.led => lT)
        have lT2 := (by assumption : _ < _ ∧ _ < _ ∧ D < _ ∧ AllLt _ quoted_ok_c.led)
        refine LeaveL.intro G1 (by k_asm) (by k_asm) fun F2 N2 => ?_
        exact endQuotBad hret hrb hi hI (by rw [hb1, hm0.2]) lT.2.2.2.2 lT2.2.2.2 d3 F2 N2
    · have hlt : ((quoteL quoted_ok_c.k1).length : Int) ≤ ((quoteL (quoted_ok_c.k1.take j)).length : Int) := by rw [List.take_of_length_le (by omega)]; exact Int.le_refl _
      (repeat' (first | (k_unfold; (try dsimp only)) | walk1 | (dsimp only; walk1) | (leave1; (try dsimp only)) | (refine Held.go ?_; first | ((with_reducible show wpAny _ _ (call (Value.ref _) _) _ _ _); first | ((k_here; (k_dflt refine' ctn_use (ctn_mem (over_ok ⟨_, rfl⟩ _ _ _ _ _ _ _ _ _ _ _ _ _ _ _ _ ?hks ?hz) ?m1 ?m2) ?k1 ?k2 ?k3 ?k4 ?k5 ?kK ?kd ?ku ?kp ?_); (((case k1 => k_asm); (case k2 => k_asm); (case k3 => k_asm); (case k4 => k_asm); (case k5 => k_asm); (case kK => first | exact rfl | assumption); (case kd => first | exact room2 (by assumption) rfl | ktr_room); (case ku => first | exact unit2 (by assumption) rfl | ktr_units))); (case m1 => k_mem); (case m2 => k_mem); (case hks => kba_ints); (case hz => first | assumption | omega); (case kp => trivial); (intro v9 new9 h9 tk9 R9 F9 N9 l9); (obtain ⟨q9, q9'⟩ := R9); (subst q9 q9'); (try dsimp only); (try simp only [List.singleton_append, List.cons_append, List.nil_append] at N9); clear l9; (try k_fold))) | ((k_here; (k_dflt refine' ctv_use (isword_ok ⟨_, rfl⟩ _ _ _ _ _ _) ?k1 ?k2 ?k3 ?k4 ?k5 ?kK ?kd ?ku ?kp ?_); (((case k1 => k_asm); (case k2 => k_asm); (case k3 => k_asm); (case k4 => k_asm); (case k5 => k_asm); (case kK => first | exact rfl | assumption); (case kd => first | exact room2 (by assumption) rfl | ktr_room); (case ku => first | exact unit2 (by assumption) rfl | ktr_units))); (case kp => trivial); (((intro t9 h9 tk9 F9 N9); (try dsimp only); (try k_fold)))))))))
      have hro := runes_over (n := n) (acc := acc) (lat := quoted_ok_c.lat) hj
      rw [hr] at hro
      show LeaveL _ _ _ _ _ _
      refine LeaveL.intro (by assumption) (by k_asm) (by k_asm) fun F2 N2 => ?_
      exact endQuotOk hret hro hI (by assumption : _ < _ ∧ _ < _ ∧ _ < _ ∧ AllLt _ quoted_ok_c.led).2.2.2 d3 F2 N2
theorem quoted_ok (r : Rw) (w : World) (mean : ExcName → Option Value) (mg mb : Str → Option Value) (news : Led) (b : Array UInt8) (t : Tok) (lat : Bool) (ks : List Int) (hks : KBw.bInts b = ks) (hz : ks.length ≤ 10000)
    (hS : ∀ j : Nat, j < ks.length → SignCase lat ks j ((quoteL (ks.take j)).length : Int)) :
    CtN0 w mean mg mb 342 24 260 news [.bytes b t, .bool lat] (QuotRet lat ks) := by
  intro dp9 un9 gd9 cn9 cs9 a9 ccd9 cl9 A₀9 h₀9 L9 m9 s9 Q9 E9
  exact pick_all (ne := cx_some) (by with_unfolding_all rfl) (quoted_ok_g.go (pick_all (ne := ⟨(⟨#[], default⟩, 0, ⟨#[], default⟩)⟩) (by with_unfolding_all rfl) quoted_ok_t1)) { cx0 with w := w, mean := mean, mg := mg, mb := mb, dp := dp9, un := un9, gd := gd9, cn := cn9, cs := cs9, a := a9, ccd := ccd9, cl := cl9, A₀ := A₀9, h₀ := h₀9, L := L9, m := m9, s := s9, Q := Q9, E := E9, led := news, b1 := b, t1 := t, lat := lat, k1 := ks } hks hz hS
-- part M0
/-- the law's own def, out of the program -/
def lawDef : Stmt := (PySem.Challenge.pw_sj0126_01.main.body[46]?).getD (.Pass ⟨0, 0, 0, 0⟩)
def lawBody : List Stmt := match lawDef with | .FunctionDef _ _ b _ _ _ _ _ _ _ => b | _ => []
def lawScope : Scope := match lawDef with | .FunctionDef _ _ _ _ _ _ s _ _ _ => s | _ => { kind := .function, names := [], isGenerator := false, isCoroutine := false }
def lawStmt (k : Nat) : Stmt := (lawBody[k]?).getD (.Pass ⟨0, 0, 0, 0⟩)
abbrev lawEnv (L la : Addr) (lcd : Value) : Env := envOf (Str.ofString "law") lawScope L la lcd
abbrev lawM (w : World) : Model := model PySem.Challenge.rw_sj0126_01.row.prog w
/-- what stands around the law -/
structure LawAt (w : World) (mean : ExcName → Option Value) (mg mb : Str → Option Value) (g : Heap) : Prop where
  B : Below callerA g [] g
  X : (KF w.params).In g
  T : Top VQ LS mean mg mb g
local macro_rules | `(tactic| walk_at "subscriptTail Name Slice ref ref") => `(tactic| (k_here; (with_reducible show wpAny _ _ (subscriptTail _ (PySem.Expr.Slice _ _ none _) (Value.ref _) (Value.ref _)) _ _ _); k_dflt (refine' kmk_slice_ints ?F ?N ?l ?p ?q ?i ?m ?c ?_ ?s ?t ?z; (case F => k_asm); (case N => k_asm); (case l => kmk_list); (case p => kmk_part); (case q => kmk_part); (case i => l_ints); (case m => first | ((with_reducible show IntsAre (Array.toList (slicePick _ (some _) none none)) _); exact kmk_from (by l_ints) (by kmk_sign)) | ((with_reducible show IntsAre (Array.toList (slicePick _ none (some _) none)) _); exact kmk_upto (by l_ints) (by kmk_sign))); (case c => kmk_len); (case s => with_unfolding_all rfl); (case t => kmk_pure); (case z => kmk_size)); intro D' ws' h' F' N' l1 hI' hC' hL'; (try simp only [Int.reduceNeg, Int.neg_neg, Int.reduceToNat] at hI' hC' hL'); (try k_lt l1); (try k_sweep)))
local macro_rules | `(tactic| walk_at "binaryOp Add ref ref") => `(tactic| (k_here; k_dflt (refine' kmk_add_ints ?F ?N ?a ?b ?i ?j ?_ ?z; (case F => k_asm); (case N => k_asm); (case a => kmk_list); (case b => kmk_list); (case i => l_ints); (case j => l_ints); (case z => (rw [sizeLine_eq]; (try simp only [List.length_append, List.length_drop, List.length_cons, List.length_nil]); omega))); intro D' ws' h' F' N' l1 hI'; (try k_lt l1); (try k_sweep)))
local macro_rules | `(tactic| walk_at "exec Assign cons ListComp") => `(tactic| ((with_reducible rename MyLoops => loops9); refine held ?_))
theorem fr_named {g h : Heap} {L : Addr} {m : Str → Option Value} {ps : List (Str × Value)} (F : Fr g L h m) (hk : ∀ p ∈ ps, m p.1 = some p.2) : Fr g L h (kstB m ps) := by
  have e : kstB m ps = m := by
    funext y
    induction ps with
    | nil => rfl
    | cons p r ih =>
      show (if y = p.1 then some p.2 else kstB m r y) = m y
      by_cases hy : y = p.1
      · rw [if_pos hy, hy]; exact (hk p (.head _)).symm
      · rw [if_neg hy]; exact ih fun q hq => hk q (.tail _ hq)
  rw [e]; exact F
def restC : List Int := [58, 2848154209, 0, 25, 1, 320, 1025]
def cellsA (ns : List Int) : List Int := (ns.take 10).map (· % 1000000000000)
def cellsL (ns : List Int) : List Int := cellsA ns ++ restC.drop (cellsA ns).length
theorem cellsA_length (ns : List Int) : (cellsA ns).length = min 10 ns.length := by simp [cellsA]
theorem cellsL_length (ns : List Int) : 7 ≤ (cellsL ns).length ∧ (cellsL ns).length ≤ 10 := by
  unfold cellsL
  rw [List.length_append, List.length_drop, cellsA_length]
  show 7 ≤ _ + (7 - _) ∧ _ + (7 - _) ≤ 10
  omega
theorem cellsL_in (ns : List Int) : ∀ c ∈ cellsL ns, 0 ≤ c ∧ c < 1000000000000 := by
  intro c hc
  rcases List.mem_append.mp hc with hc | hc
  · obtain ⟨x, _, rfl⟩ := List.mem_map.mp hc
    omega
  · exact (by decide : ∀ c ∈ restC, 0 ≤ c ∧ c < 1000000000000) c (List.mem_of_mem_drop hc)
def law_a_P (c : Lx) : Prop := ∀ (H : LawAt c.w c.mean c.mg c.mb c.g) (F : Fr c.g c.L c.s.heap (kstB c.u [(Str.ofString "script", .ref c.a1)])) (N : News c.g c.L c.s.heap []) (hl : c.g.IsList c.a1 c.v1.toArray) (hI : IntsAre c.v1 c.k1) (hz : c.k1.length ≤ 63) (cont : ∀ (u : Str → Option Value) (h : Heap) (tk : Nat) (C : Addr) (vs : List Value) (n : Nat), IntsAre vs (cellsL c.k1) → Fr c.g c.L h (kstB u [(Str.ofString "cells", .ref C)]) → News c.g c.L h [(C, listOf vs.toArray n)] → wpAny (lawM c.w) (callerA.deeper (lawEnv c.L c.la c.lcd)) (execs c.rest (lawEnv c.L c.la c.lcd)) c.Q c.E { c.s with heap := h, toks := tk }) , wpAny (lawM c.w) (callerA.deeper (lawEnv c.L c.la c.lcd)) (execs (lawStmt 0 :: lawStmt 1 :: c.rest) (lawEnv c.L c.la c.lcd)) c.Q c.E c.s
@[irreducible] noncomputable def law_a_c : Lx := pick lx_some law_a_P
theorem law_a_t1 : law_a_P law_a_c := by
  intro H F N hl hI hz cont
  obtain ⟨B, X, T⟩ := H
  have loops := myLoops
  dsimp only [kstB] at F
  (((rename Frag.In _ _ => X9); revert X9; dsimp only [lawM]; k_fill; intro X9; (conv in (occs := *) (lawStmt _) => all_goals whnf); (dsimp only [lawEnv]; (conv in (occs := *) lawScope => all_goals whnf))))
  (repeat' (first | (k_unfold; (try dsimp only)) | walk1 | (dsimp only; walk1) | (leave1; (try dsimp only))))
  refine Held.go ?_
  k_dflt refine' LCg.Assign_ListComp_U F rfl ?a1 ?a2 ?a3 ?a4 ?a5 ?a6 ?a7 ?a8 ?_
  case a1 => rfl
  case a2 => rfl
  case a3 => decide
  case a4 => rfl
  case a5 => decide
  case a6 => rfl
  case a7 => rfl
  case a8 => rfl
  iterate 8 (try (first | walk1 | (dsimp only; walk1)))
  (rename News _ _ _ _ => N9); (rename IntsAre _ (List.take 10 law_a_c.k1) => hI9)
  refine LCg.CompSrc.ledger (by rfl) (by k_asm) (by k_asm) (by k_mem) (by have := hI9.length; rw [List.size_toArray, sizeLine_eq, this, List.length_take]; omega) ?_
  intro g'
  (rename List Value => ws)
  refine comp_turns (n := ws.toArray.size) (fun i ys => IntsAre ys (((law_a_c.k1.take 10).take i).map (· % 1000000000000))) ?step ?fin _ 0 [] (by simp) .nil
  case step =>
    intro i v ys I oI C oC D m₂ h tk E' hin hInv hP hN hm F N off ne
    obtain ⟨c, tc, rfl, hc⟩ := hI9.at i v (by simpa using hP)
    (repeat' (first | (k_unfold; (try dsimp only)) | walk1 | (dsimp only; walk1) | (leave1; (try dsimp only))))
    have htk : (law_a_c.k1.take 10).take (i + 1) = (law_a_c.k1.take 10).take i ++ [c] := by rw [List.take_add_one, hc]; rfl
    refine LCg.CompEnd.intro (by k_asm) (by k_asm) _ (fun p hp => hp) off (Or.inr ⟨_, .head _, rfl, _, rfl⟩) ⟨rfl, ?_⟩
    rw [htk, List.map_append]
    refine hInv.append ?_
    have e : c.fmod (10 ^ Int.toNat 12) = c % 1000000000000 := Int.fmod_eq_emod_of_nonneg _ (by decide)
    rw [e]
    exact .cons _ _ .nil
  case fin =>
    intro ys hInv D h tk F N off
    rw [List.size_toArray, hI9.length, List.take_length] at hInv
    replace hInv : IntsAre ys (cellsA law_a_c.k1) := hInv
    replace N : News law_a_c.g law_a_c.L h [(D, listOf ys.toArray ys.length), _] := N
    have hcz : (cellsA law_a_c.k1).length ≤ 10 := by rw [cellsA_length]; omega
    have hyz : ys.length ≤ 10 := by rw [hInv.length, cellsA_length]; omega
    (try dsimp only)
    (repeat' (first | (k_unfold; (try dsimp only)) | walk1 | (dsimp only; walk1) | (leave1; (try dsimp only))))
    (rename Fr _ _ _ _ => F9); (rename News _ _ _ _ => N9); (rename IntsAre _ (cellsA law_a_c.k1 ++ _) => hI9)
    exact cont _ _ _ _ _ _ (by rw [Int.toNat_natCast] at hI9; exact hI9) (fr_named F9 (by kst_all)) (fun p hp => N9 p (by rw [List.mem_singleton.mp hp]; exact .head _))
theorem law_a (r : Rw) (w : World) (mean : ExcName → Option Value) (mg mb : Str → Option Value) (g : Heap) (L la : Addr) (lcd : Value) (u : Str → Option Value) (s : Shared) (Q : Flow → Shared → Prop) (E : Value → Shared → Prop) (rest : List Stmt) (H : LawAt w mean mg mb g)
    (sc : Addr) (F : Fr g L s.heap (kstB u [(Str.ofString "script", .ref sc)])) (N : News g L s.heap []) (vs : List Value) (ns : List Int) (hl : g.IsList sc vs.toArray) (hI : IntsAre vs ns) (hz : ns.length ≤ 63)
    (cont : ∀ (u : Str → Option Value) (h : Heap) (tk : Nat) (C : Addr) (vs : List Value) (n : Nat), IntsAre vs (cellsL ns) → Fr g L h (kstB u [(Str.ofString "cells", .ref C)]) → News g L h [(C, listOf vs.toArray n)] → wpAny (lawM w) (callerA.deeper (lawEnv L la lcd)) (execs rest (lawEnv L la lcd)) Q E { s with heap := h, toks := tk }) :
    wpAny (lawM w) (callerA.deeper (lawEnv L la lcd)) (execs (lawStmt 0 :: lawStmt 1 :: rest) (lawEnv L la lcd)) Q E s := by
  exact pick_all (ne := lx_some) (by with_unfolding_all rfl) law_a_t1 { lx0 with w := w, mean := mean, mg := mg, mb := mb, g := g, L := L, la := la, lcd := lcd, u := u, s := s, Q := Q, E := E, rest := rest, a1 := sc, v1 := vs, k1 := ns } H F N hl hI hz cont
-- part M1
theorem digs_three {vs : List Value} {n a b c : Int} (h : IntsAre vs (digs n [a, b, c])) : ∃ t₁ t₂ t₃, vs = [.int (n % a) t₁, .int (n / a % b) t₂, .int (n / a / b % c) t₃] := by
  cases h with
  | cons _ t₁ h => cases h with
    | cons _ t₂ h => cases h with
      | cons _ t₃ h => cases h; exact ⟨t₁, t₂, t₃, rfl⟩
theorem digs_in {n : Int} {bs : List Int} (hb : ∀ b ∈ bs, 0 < b) : ∀ k : Nat, (digs n bs).getD k 0 = 0 ∨ ∃ b ∈ bs, 0 ≤ (digs n bs).getD k 0 ∧ (digs n bs).getD k 0 < b := by
  induction bs generalizing n with
  | nil => exact fun k => .inl rfl
  | cons b r ih =>
    intro k
    cases k with
    | zero => exact .inr ⟨b, .head _, Int.emod_nonneg _ (Int.ne_of_gt (hb b (.head _))), Int.emod_lt_of_pos _ (hb b (.head _))⟩
    | succ k =>
      rcases ih (n := n / b) (fun b hm => hb b (.tail _ hm)) k with h | ⟨c, hc, h⟩
      · exact .inl h
      · exact .inr ⟨c, .tail _ hc, h⟩
theorem keepN0 {g h : Heap} {L : Addr} : News g L h [] := fun _ hp => absurd hp List.not_mem_nil
theorem keepN {g h : Heap} {L : Addr} {ns r : List (Addr × Obj)} {p : Addr × Obj} (N : News g L h ns) (hp : p ∈ ns) (N' : News g L h r) : News g L h (p :: r) := fun q hq => (List.mem_cons.mp hq).elim (fun e => e ▸ N p hp) fun hq => N' q hq
theorem mem_rep {b c : Int} {n : Nat} (h : b ∈ (List.replicate n [c]).flatten) : b = c := by
  obtain ⟨l, hl, hb⟩ := List.mem_flatten.mp h
  rw [(List.mem_replicate.mp hl).2] at hb
  exact List.mem_singleton.mp hb
def law_b_P (c : Lx) : Prop := ∀ (H : LawAt c.w c.mean c.mg c.mb c.g) (hI : IntsAre c.v1 c.k1) (hz : c.k1.length ≤ 10) (hz7 : 7 ≤ c.k1.length) (hcd : ∀ k, 0 ≤ c.k1.getD k 0) (F : Fr c.g c.L c.s.heap (kstB c.u [(Str.ofString "cells", .ref c.a1)])) (N : News c.g c.L c.s.heap [(c.a1, listOf c.v1.toArray c.n1)]) (cont : ∀ (u : Str → Option Value) (h : Heap) (tk : Nat) (t₁ t₂ t₃ : Tok), Fr c.g c.L h (kstB u [(Str.ofString "cells", .ref c.a1), (Str.ofString "is_latin1", .int (c.k1.getD 0 0 % 2) t₁), (Str.ofString "groups", .int (c.k1.getD 0 0 / 2 % 7) t₂), (Str.ofString "length", .int (c.k1.getD 0 0 / 2 / 7 % 9) t₃)]) → News c.g c.L h [(c.a1, listOf c.v1.toArray c.n1)] → wpAny (lawM c.w) (callerA.deeper (lawEnv c.L c.la c.lcd)) (execs c.rest (lawEnv c.L c.la c.lcd)) c.Q c.E { c.s with heap := h, toks := tk }) , wpAny (lawM c.w) (callerA.deeper (lawEnv c.L c.la c.lcd)) (execs (lawStmt 2 :: c.rest) (lawEnv c.L c.la c.lcd)) c.Q c.E c.s
@[irreducible] noncomputable def law_b_c : Lx := pick lx_some law_b_P
theorem law_b_t1 : law_b_P law_b_c := by
  intro H hI hz hz7 hcd F N cont
  obtain ⟨B, X, T⟩ := H
  have loops := myLoops
  have calls := myCalls
  dsimp only [kstB] at F
  (((rename Frag.In _ _ => X9); revert X9; dsimp only [lawM]; k_fill; intro X9; (conv in (occs := *) (lawStmt _) => all_goals whnf); (dsimp only [lawEnv]; (conv in (occs := *) lawScope => all_goals whnf))))
  (repeat' (first | (k_unfold; (try dsimp only)) | walk1 | (dsimp only; walk1) | (leave1; (try dsimp only)) | (refine Held.go ?_; first | ((with_reducible show wpAny _ _ (call (Value.ref _) _) _ _ _); first | ((k_here; (k_dflt refine' ctn_use (digits_ok ⟨_, rfl⟩ _ _ _ _ _ _ _ _ _ _ _ ?hbs ?hz ?hpos ?hsm ?h0) ?k1 ?k2 ?k3 ?k4 ?k5 ?kK ?kd ?ku ?kp ?_); (((case k1 => k_asm); (case k2 => k_asm); (case k3 => k_asm); (case k4 => k_asm); (case k5 => k_asm); (case kK => first | exact rfl | assumption); (case kd => first | exact room2 (by assumption) rfl | ktr_room); (case ku => first | exact unit2 (by assumption) rfl | ktr_units))); (case hbs => first | (with_reducible assumption) | (exact .cons _ _ (.cons _ _ (.cons _ _ .nil))) | (exact .cons _ _ (.cons _ _ (.cons _ _ (.cons _ _ .nil)))) | (exact .cons _ _ (.cons _ _ (.cons _ _ (.cons _ _ (.cons _ _ (.cons _ _ (.cons _ _ (.cons _ _ (.cons _ _ (.cons _ _ (.cons _ _ (.cons _ _ .nil)))))))))))) | l_ints); (case hz => first | exact Nat.le_of_ble_eq_true rfl | omega); (case hpos => first | decide | (intro b9 hb9; replace hb9 := mem_rep hb9; omega)); (case hsm => first | decide | (intro b9 hb9; replace hb9 := mem_rep hb9; omega)); (case h0 => first | assumption | omega | ((rename ∀ k : Nat, 0 ≤ List.getD _ k 0 => q9); exact q9 _)); (case kp => trivial); (intro v9 new9 h9 tk9 R9 F9 N9 l9); (obtain ⟨D9, ws9, n9, q9, q9', I9⟩ := R9); (subst q9 q9'); (try dsimp only); (try simp only [List.singleton_append, List.cons_append, List.nil_append] at N9); (replace l9 := fun p hp => l9 p hp _ (List.mem_singleton.mpr rfl)); (k_lt l9); (try ((replace I9 := digs_three I9); (obtain ⟨t9, t9', t9'', I9⟩ := I9); (subst I9))); (try k_fold)))))))
  (rename Fr _ _ _ _ => F9); (rename News _ _ _ _ => N9)
  exact cont _ _ _ _ _ _ (fr_named F9 (by kst_all)) (keepN N9 (by k_mem) keepN0)
theorem law_b (r : Rw) (w : World) (mean : ExcName → Option Value) (mg mb : Str → Option Value) (g : Heap) (L la : Addr) (lcd : Value) (u : Str → Option Value) (s : Shared) (Q : Flow → Shared → Prop) (E : Value → Shared → Prop) (rest : List Stmt) (H : LawAt w mean mg mb g)
    (C : Addr) (vs : List Value) (n : Nat) (cs : List Int) (hI : IntsAre vs cs) (hz : cs.length ≤ 10) (hz7 : 7 ≤ cs.length) (hcd : ∀ k, 0 ≤ cs.getD k 0) (F : Fr g L s.heap (kstB u [(Str.ofString "cells", .ref C)])) (N : News g L s.heap [(C, listOf vs.toArray n)])
    (cont : ∀ (u : Str → Option Value) (h : Heap) (tk : Nat) (t₁ t₂ t₃ : Tok), Fr g L h (kstB u [(Str.ofString "cells", .ref C), (Str.ofString "is_latin1", .int (cs.getD 0 0 % 2) t₁), (Str.ofString "groups", .int (cs.getD 0 0 / 2 % 7) t₂), (Str.ofString "length", .int (cs.getD 0 0 / 2 / 7 % 9) t₃)]) → News g L h [(C, listOf vs.toArray n)] → wpAny (lawM w) (callerA.deeper (lawEnv L la lcd)) (execs rest (lawEnv L la lcd)) Q E { s with heap := h, toks := tk }) :
    wpAny (lawM w) (callerA.deeper (lawEnv L la lcd)) (execs (lawStmt 2 :: rest) (lawEnv L la lcd)) Q E s := by
  exact pick_all (ne := lx_some) (by with_unfolding_all rfl) law_b_t1 { lx0 with w := w, mean := mean, mg := mg, mb := mb, g := g, L := L, la := la, lcd := lcd, u := u, s := s, Q := Q, E := E, rest := rest, a1 := C, v1 := vs, n1 := n, k1 := cs } H hI hz hz7 hcd F N cont
theorem digs_256 (n : Int) : ∀ c ∈ digs n (List.replicate (Int.toNat 4) [256]).flatten, 0 ≤ c ∧ c < 256 := by
  intro c hc
  have e : (List.replicate (Int.toNat 4) [(256 : Int)]).flatten = [256, 256, 256, 256] := rfl
  rw [e] at hc
  simp only [digs, List.mem_cons, List.not_mem_nil, or_false] at hc
  rcases hc with rfl | rfl | rfl | rfl <;> omega
def textL (a b len : Int) : List Int := (digs a [256, 256, 256, 256] ++ digs b [256, 256, 256, 256]).take len.toNat
theorem textL_length {a b len : Int} (h0 : 0 ≤ len) (h8 : len ≤ 8) : ((textL a b len).length : Int) = len := by
  unfold textL
  rw [List.length_take, List.length_append, digs_length, digs_length]
  simp only [List.length_cons, List.length_nil]
  omega
def law_c_P (c : Lx) : Prop := ∀ (H : LawAt c.w c.mean c.mg c.mb c.g) (hI : IntsAre c.v1 c.k1) (hz : c.k1.length ≤ 10) (hz7 : 7 ≤ c.k1.length) (hcd : ∀ k, 0 ≤ c.k1.getD k 0) (len : Int) (hl0 : 0 ≤ len) (hl8 : len ≤ 8) (F : Fr c.g c.L c.s.heap (kstB c.u [(Str.ofString "cells", .ref c.a1), (Str.ofString "is_latin1", .int c.i1 c.t1), (Str.ofString "groups", .int c.i2 c.t2), (Str.ofString "length", .int len c.t3)])) (N : News c.g c.L c.s.heap [(c.a1, listOf c.v1.toArray c.n1)]) (cont : ∀ (u : Str → Option Value) (h : Heap) (tk : Nat) (b : Array UInt8) (t : Tok), KBw.bInts b = textL (c.k1.getD 1 0) (c.k1.getD 2 0) len → Fr c.g c.L h (kstB u [(Str.ofString "cells", .ref c.a1), (Str.ofString "is_latin1", .int c.i1 c.t1), (Str.ofString "groups", .int c.i2 c.t2), (Str.ofString "length", .int len c.t3), (Str.ofString "text", .bytes b t)]) → News c.g c.L h [(c.a1, listOf c.v1.toArray c.n1)] → wpAny (lawM c.w) (callerA.deeper (lawEnv c.L c.la c.lcd)) (execs c.rest (lawEnv c.L c.la c.lcd)) c.Q c.E { c.s with heap := h, toks := tk }) , wpAny (lawM c.w) (callerA.deeper (lawEnv c.L c.la c.lcd)) (execs (lawStmt 3 :: c.rest) (lawEnv c.L c.la c.lcd)) c.Q c.E c.s
@[irreducible] noncomputable def law_c_c : Lx := pick lx_some law_c_P
theorem law_c_t1 : law_c_P law_c_c := by
  intro H hI hz hz7 hcd len hl0 hl8 F N cont
  obtain ⟨B, X, T⟩ := H
  have loops := myLoops
  have calls := myCalls
  dsimp only [kstB] at F
  (((rename Frag.In _ _ => X9); revert X9; dsimp only [lawM]; k_fill; intro X9; (conv in (occs := *) (lawStmt _) => all_goals whnf); (dsimp only [lawEnv]; (conv in (occs := *) lawScope => all_goals whnf))))
  (repeat' (first | (k_unfold; (try dsimp only)) | walk1 | (dsimp only; walk1) | (leave1; (try dsimp only)) | (refine Held.go ?_; first | ((with_reducible show wpAny _ _ (call (Value.ref _) _) _ _ _); first | ((k_here; (k_dflt refine' ctn_use (digits_ok ⟨_, rfl⟩ _ _ _ _ _ _ _ _ _ _ _ ?hbs ?hz ?hpos ?hsm ?h0) ?k1 ?k2 ?k3 ?k4 ?k5 ?kK ?kd ?ku ?kp ?_); (((case k1 => k_asm); (case k2 => k_asm); (case k3 => k_asm); (case k4 => k_asm); (case k5 => k_asm); (case kK => first | exact rfl | assumption); (case kd => first | exact room2 (by assumption) rfl | ktr_room); (case ku => first | exact unit2 (by assumption) rfl | ktr_units))); (case hbs => first | (with_reducible assumption) | (exact .cons _ _ (.cons _ _ (.cons _ _ .nil))) | (exact .cons _ _ (.cons _ _ (.cons _ _ (.cons _ _ .nil)))) | (exact .cons _ _ (.cons _ _ (.cons _ _ (.cons _ _ (.cons _ _ (.cons _ _ (.cons _ _ (.cons _ _ (.cons _ _ (.cons _ _ (.cons _ _ (.cons _ _ .nil)))))))))))) | l_ints); (case hz => first | exact Nat.le_of_ble_eq_true rfl | omega); (case hpos => first | decide | (intro b9 hb9; replace hb9 := mem_rep hb9; omega)); (case hsm => first | decide | (intro b9 hb9; replace hb9 := mem_rep hb9; omega)); (case h0 => first | assumption | omega | ((rename ∀ k : Nat, 0 ≤ List.getD _ k 0 => q9); exact q9 _)); (case kp => trivial); (intro v9 new9 h9 tk9 R9 F9 N9 l9); (obtain ⟨D9, ws9, n9, q9, q9', I9⟩ := R9); (subst q9 q9'); (try dsimp only); (try simp only [List.singleton_append, List.cons_append, List.nil_append] at N9); (replace l9 := fun p hp => l9 p hp _ (List.mem_singleton.mpr rfl)); (k_lt l9); (try ((replace I9 := digs_three I9); (obtain ⟨t9, t9', t9'', I9⟩ := I9); (subst I9))); (try k_fold)))))))
  (rename Fr _ _ _ _ => F9); (rename News _ _ _ _ => N9); (rename IntsAre _ _ => I9)
  have hr : ∀ c ∈ digs (law_c_c.k1.getD (Int.toNat 1) 0) (List.replicate (Int.toNat 4) [256]).flatten ++ digs (law_c_c.k1.getD (Int.toNat 2) 0) (List.replicate (Int.toNat 4) [256]).flatten, 0 ≤ c ∧ c < 256 := fun c hc => (List.mem_append.mp hc).elim (digs_256 _ c) (digs_256 _ c)
  have hsz : (digs (law_c_c.k1.getD (Int.toNat 1) 0) (List.replicate (Int.toNat 4) [256]).flatten ++ digs (law_c_c.k1.getD (Int.toNat 2) 0) (List.replicate (Int.toNat 4) [256]).flatten).length = 8 := by
    rw [List.length_append, digs_length, digs_length]; rfl
  generalize hds : digs (law_c_c.k1.getD (Int.toNat 1) 0) (List.replicate (Int.toNat 4) [256]).flatten ++ digs (law_c_c.k1.getD (Int.toNat 2) 0) (List.replicate (Int.toNat 4) [256]).flatten = ds at hr hsz I9
  refine KBa.make_K F9 N9 rfl (by is_list) I9 hr (by rw [hsz]; decide) ?_
  intro h' t' k' F' N' _
  replace N' : News law_c_c.g law_c_c.L h' [(law_c_c.a1, listOf law_c_c.v1.toArray law_c_c.n1)] := keepN N' (by k_mem) keepN0
  clear F9 N9 I9
  have hG := KBa.ints_make hr
  generalize byteArr _ = b at hG ⊢
  clear hr
  (repeat' (first | (k_unfold; (try dsimp only)) | walk1 | (dsimp only; walk1) | (leave1; (try dsimp only)) | (refine Held.go ?_; first | ((with_reducible show wpAny _ _ (call (Value.ref _) _) _ _ _); first | ((k_here; (k_dflt refine' ctn_use (digits_ok ⟨_, rfl⟩ _ _ _ _ _ _ _ _ _ _ _ ?hbs ?hz ?hpos ?hsm ?h0) ?k1 ?k2 ?k3 ?k4 ?k5 ?kK ?kd ?ku ?kp ?_); (((case k1 => k_asm); (case k2 => k_asm); (case k3 => k_asm); (case k4 => k_asm); (case k5 => k_asm); (case kK => first | exact rfl | assumption); (case kd => first | exact room2 (by assumption) rfl | ktr_room); (case ku => first | exact unit2 (by assumption) rfl | ktr_units))); (case hbs => first | (with_reducible assumption) | (exact .cons _ _ (.cons _ _ (.cons _ _ .nil))) | (exact .cons _ _ (.cons _ _ (.cons _ _ (.cons _ _ .nil)))) | (exact .cons _ _ (.cons _ _ (.cons _ _ (.cons _ _ (.cons _ _ (.cons _ _ (.cons _ _ (.cons _ _ (.cons _ _ (.cons _ _ (.cons _ _ (.cons _ _ .nil)))))))))))) | l_ints); (case hz => first | exact Nat.le_of_ble_eq_true rfl | omega); (case hpos => first | decide | (intro b9 hb9; replace hb9 := mem_rep hb9; omega)); (case hsm => first | decide | (intro b9 hb9; replace hb9 := mem_rep hb9; omega)); (case h0 => first | assumption | omega | ((rename ∀ k : Nat, 0 ≤ List.getD _ k 0 => q9); exact q9 _)); (case kp => trivial); (intro v9 new9 h9 tk9 R9 F9 N9 l9); (obtain ⟨D9, ws9, n9, q9, q9', I9⟩ := R9); (subst q9 q9'); (try dsimp only); (try simp only [List.singleton_append, List.cons_append, List.nil_append] at N9); (replace l9 := fun p hp => l9 p hp _ (List.mem_singleton.mpr rfl)); (k_lt l9); (try ((replace I9 := digs_three I9); (obtain ⟨t9, t9', t9'', I9⟩ := I9); (subst I9))); (try k_fold)))))))
  (rename Fr _ _ _ _ => F9); (rename News _ _ _ _ => N9); (rename KBw.bInts (KBy.picked _ _ _) = _ => hB)
  refine cont _ _ _ _ _ ?_ (fr_named F9 (by kst_all)) N9
  rw [hB, ← hds, textL]
  have e : (List.replicate (Int.toNat 4) [(256 : Int)]).flatten = [256, 256, 256, 256] := rfl
  rw [hds, hsz, ← hds, e]
  obtain ⟨k, rfl⟩ := Int.eq_ofNat_of_zero_le hl0
  rw [clipAt_nat, Int.toNat_natCast, Nat.min_eq_left (by omega)]
  rfl
theorem law_c (r : Rw) (w : World) (mean : ExcName → Option Value) (mg mb : Str → Option Value) (g : Heap) (L la : Addr) (lcd : Value) (u : Str → Option Value) (s : Shared) (Q : Flow → Shared → Prop) (E : Value → Shared → Prop) (rest : List Stmt) (H : LawAt w mean mg mb g)
    (C : Addr) (vs : List Value) (n : Nat) (cs : List Int) (hI : IntsAre vs cs) (hz : cs.length ≤ 10) (hz7 : 7 ≤ cs.length) (hcd : ∀ k, 0 ≤ cs.getD k 0) (lat grp len : Int) (t₁ t₂ t₃ : Tok) (hl0 : 0 ≤ len) (hl8 : len ≤ 8) (F : Fr g L s.heap (kstB u [(Str.ofString "cells", .ref C), (Str.ofString "is_latin1", .int lat t₁), (Str.ofString "groups", .int grp t₂), (Str.ofString "length", .int len t₃)])) (N : News g L s.heap [(C, listOf vs.toArray n)])
    (cont : ∀ (u : Str → Option Value) (h : Heap) (tk : Nat) (b : Array UInt8) (t : Tok), KBw.bInts b = textL (cs.getD 1 0) (cs.getD 2 0) len → Fr g L h (kstB u [(Str.ofString "cells", .ref C), (Str.ofString "is_latin1", .int lat t₁), (Str.ofString "groups", .int grp t₂), (Str.ofString "length", .int len t₃), (Str.ofString "text", .bytes b t)]) → News g L h [(C, listOf vs.toArray n)] → wpAny (lawM w) (callerA.deeper (lawEnv L la lcd)) (execs rest (lawEnv L la lcd)) Q E { s with heap := h, toks := tk }) :
    wpAny (lawM w) (callerA.deeper (lawEnv L la lcd)) (execs (lawStmt 3 :: rest) (lawEnv L la lcd)) Q E s := by
  exact pick_all (ne := lx_some) (by with_unfolding_all rfl) law_c_t1 { lx0 with w := w, mean := mean, mg := mg, mb := mb, g := g, L := L, la := la, lcd := lcd, u := u, s := s, Q := Q, E := E, rest := rest, a1 := C, v1 := vs, n1 := n, k1 := cs, i1 := lat, i2 := grp, t1 := t₁, t2 := t₂, t3 := t₃ } H hI hz hz7 hcd len hl0 hl8 F N cont
def law_d_P (c : Lx) : Prop := ∀ (H : LawAt c.w c.mean c.mg c.mb c.g) (hI : IntsAre c.v1 c.k1) (hz : c.k1.length ≤ 10) (hz7 : 7 ≤ c.k1.length) (hcd : ∀ k, 0 ≤ c.k1.getD k 0) (hl0 : 0 ≤ c.i3) (hl8 : c.i3 ≤ 8) (F : Fr c.g c.L c.s.heap (kstB c.u [(Str.ofString "cells", .ref c.a1), (Str.ofString "is_latin1", .int c.i1 c.t1), (Str.ofString "groups", .int c.i2 c.t2), (Str.ofString "length", .int c.i3 c.t3), (Str.ofString "text", .bytes c.b1 c.t4)])) (N : News c.g c.L c.s.heap [(c.a1, listOf c.v1.toArray c.n1)]) (cont : ∀ (u : Str → Option Value) (h : Heap) (tk : Nat) (D P : Nat) (ws : List Value) (k : Nat), IntsAre ws (digs (c.k1.getD 3 0) (List.replicate (Int.toNat 12) [c.i3 + 2]).flatten) → D < P → (c.a1 : Nat) < P → (c.a1 : Nat) < D → Fr c.g c.L h (kstB u [(Str.ofString "cells", .ref c.a1), (Str.ofString "is_latin1", .int c.i1 c.t1), (Str.ofString "groups", .int c.i2 c.t2), (Str.ofString "length", .int c.i3 c.t3), (Str.ofString "text", .bytes c.b1 c.t4), (Str.ofString "draws", .ref D), (Str.ofString "captures", .ref P)]) → News c.g c.L h [(P, listOf #[] 0), (D, listOf ws.toArray k), (c.a1, listOf c.v1.toArray c.n1)] → wpAny (lawM c.w) (callerA.deeper (lawEnv c.L c.la c.lcd)) (execs c.rest (lawEnv c.L c.la c.lcd)) c.Q c.E { c.s with heap := h, toks := tk }) , wpAny (lawM c.w) (callerA.deeper (lawEnv c.L c.la c.lcd)) (execs (lawStmt 4 :: c.rest) (lawEnv c.L c.la c.lcd)) c.Q c.E c.s
@[irreducible] noncomputable def law_d_c : Lx := pick lx_some law_d_P
theorem law_d_t1 : law_d_P law_d_c := by
  intro H hI hz hz7 hcd hl0 hl8 F N cont
  obtain ⟨B, X, T⟩ := H
  have loops := myLoops
  have calls := myCalls
  dsimp only [kstB] at F
  (((rename Frag.In _ _ => X9); revert X9; dsimp only [lawM]; k_fill; intro X9; (conv in (occs := *) (lawStmt _) => all_goals whnf); (dsimp only [lawEnv]; (conv in (occs := *) lawScope => all_goals whnf))))
  (repeat' (first | (k_unfold; (try dsimp only)) | walk1 | (dsimp only; walk1) | (leave1; (try dsimp only)) | (refine Held.go ?_; first | ((with_reducible show wpAny _ _ (call (Value.ref _) _) _ _ _); first | ((k_here; (k_dflt refine' ctn_use (digits_ok ⟨_, rfl⟩ _ _ _ _ _ _ _ _ _ _ _ ?hbs ?hz ?hpos ?hsm ?h0) ?k1 ?k2 ?k3 ?k4 ?k5 ?kK ?kd ?ku ?kp ?_); (((case k1 => k_asm); (case k2 => k_asm); (case k3 => k_asm); (case k4 => k_asm); (case k5 => k_asm); (case kK => first | exact rfl | assumption); (case kd => first | exact room2 (by assumption) rfl | ktr_room); (case ku => first | exact unit2 (by assumption) rfl | ktr_units))); (case hbs => first | (with_reducible assumption) | (exact .cons _ _ (.cons _ _ (.cons _ _ .nil))) | (exact .cons _ _ (.cons _ _ (.cons _ _ (.cons _ _ .nil)))) | (exact .cons _ _ (.cons _ _ (.cons _ _ (.cons _ _ (.cons _ _ (.cons _ _ (.cons _ _ (.cons _ _ (.cons _ _ (.cons _ _ (.cons _ _ (.cons _ _ .nil)))))))))))) | l_ints); (case hz => first | exact Nat.le_of_ble_eq_true rfl | omega); (case hpos => first | decide | (intro b9 hb9; replace hb9 := mem_rep hb9; omega)); (case hsm => first | decide | (intro b9 hb9; replace hb9 := mem_rep hb9; omega)); (case h0 => first | assumption | omega | ((rename ∀ k : Nat, 0 ≤ List.getD _ k 0 => q9); exact q9 _)); (case kp => trivial); (intro v9 new9 h9 tk9 R9 F9 N9 l9); (obtain ⟨D9, ws9, n9, q9, q9', I9⟩ := R9); (subst q9 q9'); (try dsimp only); (try simp only [List.singleton_append, List.cons_append, List.nil_append] at N9); (replace l9 := fun p hp => l9 p hp _ (List.mem_singleton.mpr rfl)); (k_lt l9); (try ((replace I9 := digs_three I9); (obtain ⟨t9, t9', t9'', I9⟩ := I9); (subst I9))); (try k_fold)))))))
  (rename Fr _ _ _ _ => F9); (rename News _ _ _ _ => N9); (rename IntsAre _ (digs _ _) => I9)
  refine cont _ _ _ _ _ _ _ I9 ?_ ?_ ?_ (fr_named F9 (by kst_all)) (keepN N9 (by k_mem) (keepN N9 (by k_mem) (keepN N9 (by k_mem) keepN0))) <;> (show (_ : Nat) < _; omega)
theorem law_d (r : Rw) (w : World) (mean : ExcName → Option Value) (mg mb : Str → Option Value) (g : Heap) (L la : Addr) (lcd : Value) (u : Str → Option Value) (s : Shared) (Q : Flow → Shared → Prop) (E : Value → Shared → Prop) (rest : List Stmt) (H : LawAt w mean mg mb g)
    (C : Addr) (vs : List Value) (n : Nat) (cs : List Int) (hI : IntsAre vs cs) (hz : cs.length ≤ 10) (hz7 : 7 ≤ cs.length) (hcd : ∀ k, 0 ≤ cs.getD k 0) (lat grp len : Int) (t₁ t₂ t₃ t₄ : Tok) (tb : Array UInt8) (hl0 : 0 ≤ len) (hl8 : len ≤ 8) (F : Fr g L s.heap (kstB u [(Str.ofString "cells", .ref C), (Str.ofString "is_latin1", .int lat t₁), (Str.ofString "groups", .int grp t₂), (Str.ofString "length", .int len t₃), (Str.ofString "text", .bytes tb t₄)])) (N : News g L s.heap [(C, listOf vs.toArray n)])
    (cont : ∀ (u : Str → Option Value) (h : Heap) (tk : Nat) (D P : Nat) (ws : List Value) (k : Nat), IntsAre ws (digs (cs.getD 3 0) (List.replicate (Int.toNat 12) [len + 2]).flatten) → D < P → (C : Nat) < P → (C : Nat) < D → Fr g L h (kstB u [(Str.ofString "cells", .ref C), (Str.ofString "is_latin1", .int lat t₁), (Str.ofString "groups", .int grp t₂), (Str.ofString "length", .int len t₃), (Str.ofString "text", .bytes tb t₄), (Str.ofString "draws", .ref D), (Str.ofString "captures", .ref P)]) → News g L h [(P, listOf #[] 0), (D, listOf ws.toArray k), (C, listOf vs.toArray n)] → wpAny (lawM w) (callerA.deeper (lawEnv L la lcd)) (execs rest (lawEnv L la lcd)) Q E { s with heap := h, toks := tk }) :
    wpAny (lawM w) (callerA.deeper (lawEnv L la lcd)) (execs (lawStmt 4 :: rest) (lawEnv L la lcd)) Q E s := by
  exact pick_all (ne := lx_some) (by with_unfolding_all rfl) law_d_t1 { lx0 with w := w, mean := mean, mg := mg, mb := mb, g := g, L := L, la := la, lcd := lcd, u := u, s := s, Q := Q, E := E, rest := rest, a1 := C, v1 := vs, n1 := n, k1 := cs, i1 := lat, i2 := grp, i3 := len, t1 := t₁, t2 := t₂, t3 := t₃, t4 := t₄, b1 := tb } H hI hz hz7 hcd hl0 hl8 F N cont
-- part M2
def othL (len b : Int) : Int := if len < b then len else b
def capAt (len a b : Int) : List Int := if len < a then [-1, -1] else [if othL len b < a then othL len b else a, if othL len b > a then othL len b else a]
theorem capAt_no {len a : Int} (b : Int) (h : len < a) : capAt len a b = [-1, -1] := if_pos h
theorem capAt_yes {len a : Int} (b : Int) (h : ¬ len < a) : capAt len a b = [if othL len b < a then othL len b else a, if othL len b > a then othL len b else a] := if_neg h
def capsL (len : Int) (ds : List Int) : Nat → List Int
  | 0 => []
  | k + 1 => capsL len ds k ++ capAt len (ds.getD (2 * k) 0) (ds.getD (2 * k + 1) 0)
theorem capAt_length (len a b : Int) : (capAt len a b).length = 2 := by
  unfold capAt
  split <;> rfl
theorem capsL_length (len : Int) (ds : List Int) : ∀ k, (capsL len ds k).length = 2 * k
  | 0 => rfl
  | k + 1 => by rw [capsL, List.length_append, capAt_length, capsL_length]; omega
theorem extend2 {prog : Program} {w : World} {A : Around} {E : Value → Shared → Prop} {s : Shared} {h₀ : Heap} {L P b y : Addr} {m : Str → Option Value} {o : Obj} {tl : List (Addr × Obj)} {cv : List Value} {v₁ v₂ : Value} {n k : Nat} {Q : Value → Shared → Prop} (F : Fr h₀ L s.heap m) (N : News h₀ L s.heap ((b, listOf #[v₁, v₂] k) :: (y, o) :: (P, listOf cv.toArray n) :: tl))
    (hall : ∀ p ∈ tl, p.1 ≠ P) (hb : b ≠ P) (hy : y ≠ P) (hz : cv.length ≤ 1000) (h : ∀ h', Fr h₀ L h' m → News h₀ L h' ((b, listOf #[v₁, v₂] k) :: (y, o) :: (P, listOf (cv ++ [v₁, v₂]).toArray (n + 1)) :: tl) → Q .none { s with heap := h' }) : wpAny (model prog w) A (call (.builtin "list.extend") [.ref P, .ref b]) Q E s := by
  refine kl_extend F N (.head _) (l := cv ++ [v₁, v₂]) rfl (Nat.succ_ne_zero _) (.tail hb (.tail hy (.head hall))) ?_ (by rw [List.toList_toArray, sizeLine_eq]; omega) (by rw [List.size_toArray, sizeLine_eq]; show cv.length + 2 ≤ _; omega) h
  intro e
  rw [List.size_toArray] at e
  have e2 := (Bool.and_eq_true _ _ ▸ e).2
  have : sizeLine < cv.length + 2 := of_decide_eq_true e2
  rw [sizeLine_eq] at this
  omega
theorem mem3 {x y a b c : Addr × Obj} {own : Led} : ∀ p ∈ [a, b, c], p ∈ x :: y :: a :: b :: c :: own := fun p hp => by
  rcases List.mem_cons.mp hp with rfl | hp
  · exact .tail _ (.tail _ (.head _))
  rcases List.mem_cons.mp hp with rfl | hp
  · exact .tail _ (.tail _ (.tail _ (.head _)))
  rw [List.mem_singleton.mp hp]
  exact .tail _ (.tail _ (.tail _ (.tail _ (.head _))))
theorem mem4 {x y a b c : Addr × Obj} {own : Led} : ∀ p ∈ own, p ∈ x :: y :: a :: b :: c :: own := fun p hp => .tail _ (.tail _ (.tail _ (.tail _ (.tail _ hp))))
def law_e_P (c : Lx) : Prop := ∀ (H : LawAt c.w c.mean c.mg c.mb c.g) (hI : IntsAre c.v1 c.k1) (hd : c.k1.length = 12) (lDP : c.n1 < c.n2) (lCP : c.n3 < c.n2) (lCD : c.n3 < c.n1) (hg0 : 0 ≤ c.i2) (hg6 : c.i2 ≤ 6) (F : Fr c.g c.L c.s.heap (kstB c.u [(Str.ofString "cells", .ref c.n3), (Str.ofString "is_latin1", .int c.i1 c.t1), (Str.ofString "groups", .int c.i2 c.t2), (Str.ofString "length", .int c.i3 c.t3), (Str.ofString "text", .bytes c.b1 c.t4), (Str.ofString "draws", .ref c.n1), (Str.ofString "captures", .ref c.n2)])) (N : News c.g c.L c.s.heap [(c.n2, listOf #[] 0), (c.n1, listOf c.v1.toArray c.n4), (c.n3, listOf c.v2.toArray c.n5)]) (cont : ∀ (u : Str → Option Value) (h : Heap) (tk : Nat) (cv : List Value) (k : Nat), IntsAre cv (capsL c.i3 c.k1 c.i2.toNat) → Fr c.g c.L h (kstB u [(Str.ofString "cells", .ref c.n3), (Str.ofString "is_latin1", .int c.i1 c.t1), (Str.ofString "groups", .int c.i2 c.t2), (Str.ofString "text", .bytes c.b1 c.t4), (Str.ofString "captures", .ref c.n2)]) → News c.g c.L h [(c.n2, listOf cv.toArray k), (c.n3, listOf c.v2.toArray c.n5)] → wpAny (lawM c.w) (callerA.deeper (lawEnv c.L c.la c.lcd)) (execs c.rest (lawEnv c.L c.la c.lcd)) c.Q (fun _ _ => False) { c.s with heap := h, toks := tk }) , wpAny (lawM c.w) (callerA.deeper (lawEnv c.L c.la c.lcd)) (execs (lawStmt 5 :: c.rest) (lawEnv c.L c.la c.lcd)) c.Q (fun _ _ => False) c.s
@[irreducible] noncomputable def law_e_c : Lx := pick lx_some law_e_P
theorem law_e_t1 : law_e_P law_e_c := by
  intro H hI hd lDP lCP lCD hg0 hg6 F N cont
  obtain ⟨B, X, T⟩ := H
  have loops := myLoops
  dsimp only [kstB] at F
  (((rename Frag.In _ _ => X9); revert X9; dsimp only [lawM]; k_fill; intro X9; (conv in (occs := *) (lawStmt _) => all_goals whnf); (dsimp only [lawEnv]; (conv in (occs := *) lawScope => all_goals whnf))))
  (repeat' (first | (k_unfold; (try dsimp only)) | walk1 | (dsimp only; walk1) | (leave1; (try dsimp only))))
  refine Held.go ?_
  (rename Fr _ _ _ _ => F); (rename News _ _ _ _ => N)
  (rename IsRange _ _ _ _ _ _ _ _ => hR)
  with_unfolding_all refine' kst_range (σ := List Value × Nat) (n := law_e_c.i2.toNat) (fun c => [(law_e_c.n2, listOf c.1.toArray c.2), (law_e_c.n1, listOf law_e_c.v1.toArray law_e_c.n4), (law_e_c.n3, listOf law_e_c.v2.toArray law_e_c.n5)]) (fun c => []) (fun _ => True) [Str.ofString "one", Str.ofString "other"] (fun pre c => IntsAre c.1 (capsL law_e_c.i3 law_e_c.k1 pre.length)) ([], 0) rfl hR ?hs ?hn F N trivial ?kk ?kp ?turn ?done
  case hs =>
    have : law_e_c.i2 = 0 ∨ law_e_c.i2 = 1 ∨ law_e_c.i2 = 2 ∨ law_e_c.i2 = 3 ∨ law_e_c.i2 = 4 ∨ law_e_c.i2 = 5 ∨ law_e_c.i2 = 6 := by omega
    rcases this with e | e | e | e | e | e | e <;> rw [e] <;> decide
  case hn =>
    have : law_e_c.i2 = 0 ∨ law_e_c.i2 = 1 ∨ law_e_c.i2 = 2 ∨ law_e_c.i2 = 3 ∨ law_e_c.i2 = 4 ∨ law_e_c.i2 = 5 ∨ law_e_c.i2 = 6 := by omega
    rcases this with e | e | e | e | e | e | e <;> rw [e] <;> decide
  case kk => kst_all
  case kp => exact .nil
  case turn =>
    rintro ⟨cv, cn⟩ pre q t uq h tk own hk9 hlt hoff _ hP' F' N'
    (try dsimp only [kstB] at F')
    dsimp only at hP' N'
    have hlk : pre.length < 6 := by omega
    have hall : ∀ p ∈ (law_e_c.n1, listOf law_e_c.v1.toArray law_e_c.n4) :: (law_e_c.n3, listOf law_e_c.v2.toArray law_e_c.n5) :: own, p.1 ≠ law_e_c.n2 := fun p hp => by
      rcases List.mem_cons.mp hp with e | hp
      · rw [e]; exact Nat.ne_of_lt lDP
      rcases List.mem_cons.mp hp with e | hp
      · rw [e]; exact Nat.ne_of_lt lCP
      exact hoff.ne (.head _) p hp
    have hq1 : (2 * q).toNat = 2 * pre.length := by omega
    have hq2 : (2 * q + 1).toNat = 2 * pre.length + 1 := by omega
    have hcv : cv.length ≤ 12 := by rw [hP'.length, capsL_length]; omega
    rw [List.cons_append, List.cons_append, List.cons_append, List.nil_append] at N'
    (repeat' (first | (k_unfold; (try dsimp only)) | walk1 | (dsimp only; walk1) | (leave1; (try dsimp only))))
    all_goals ((rename Fr _ _ _ _ => F); (rename News _ _ _ _ => N); (rename law_e_c.n2 < _ ∧ _ => l1); (rename _ < _ ∧ law_e_c.n2 < _ ∧ _ => l2); (rename ∀ p ∈ _, _ ≠ law_e_c.n2 => hall); refine extend2 F N hall (Nat.ne_of_gt l2.2.1) (Nat.ne_of_gt l1.1) (by omega) ?_; intro h7 F7 N7; (repeat' (first | (k_unfold; (try dsimp only)) | walk1 | (dsimp only; walk1) | (leave1; (try dsimp only)))); refine Held.go ?_; refine kst_end (_, cn + 1) F7 N7 mem3 mem4 rfl trivial (by kst_all) (by kst_same) ?_; rw [List.length_append]; refine hP'.append ?_)
    all_goals (rw [← hq2, ← hq1])
    · rw [capAt_no _ (by assumption)]
      exact .cons _ _ (.cons _ _ .nil)
    · rw [capAt_yes _ (by assumption)]
      exact .cons _ _ (.cons _ _ .nil)
  case done => 
    rintro ⟨cv, cn⟩ uq h tk _ hP' F' N'
    (try dsimp only [kstB] at F')
    dsimp only at hP' N'
    rw [rangeKs_length] at hP'
    exact cont _ _ _ _ _ hP' (fr_named F' (by kst_all)) (keepN N' (by k_mem) (keepN N' (by k_mem) keepN0))
theorem law_e (r : Rw) (w : World) (mean : ExcName → Option Value) (mg mb : Str → Option Value) (g : Heap) (L la : Addr) (lcd : Value) (u : Str → Option Value) (s : Shared) (Q : Flow → Shared → Prop) (rest : List Stmt) (H : LawAt w mean mg mb g)
    (D P C : Nat) (ws vs : List Value) (k n : Nat) (ds : List Int) (hI : IntsAre ws ds) (hd : ds.length = 12) (lDP : D < P) (lCP : C < P) (lCD : C < D) (lat grp len : Int) (t₁ t₂ t₃ t₄ : Tok) (tb : Array UInt8) (hg0 : 0 ≤ grp) (hg6 : grp ≤ 6)
    (F : Fr g L s.heap (kstB u [(Str.ofString "cells", .ref C), (Str.ofString "is_latin1", .int lat t₁), (Str.ofString "groups", .int grp t₂), (Str.ofString "length", .int len t₃), (Str.ofString "text", .bytes tb t₄), (Str.ofString "draws", .ref D), (Str.ofString "captures", .ref P)])) (N : News g L s.heap [(P, listOf #[] 0), (D, listOf ws.toArray k), (C, listOf vs.toArray n)])
    (cont : ∀ (u : Str → Option Value) (h : Heap) (tk : Nat) (cv : List Value) (k : Nat), IntsAre cv (capsL len ds grp.toNat) → Fr g L h (kstB u [(Str.ofString "cells", .ref C), (Str.ofString "is_latin1", .int lat t₁), (Str.ofString "groups", .int grp t₂), (Str.ofString "text", .bytes tb t₄), (Str.ofString "captures", .ref P)]) → News g L h [(P, listOf cv.toArray k), (C, listOf vs.toArray n)] → wpAny (lawM w) (callerA.deeper (lawEnv L la lcd)) (execs rest (lawEnv L la lcd)) Q (fun _ _ => False) { s with heap := h, toks := tk }) :
    wpAny (lawM w) (callerA.deeper (lawEnv L la lcd)) (execs (lawStmt 5 :: rest) (lawEnv L la lcd)) Q (fun _ _ => False) s := by
  exact pick_all (ne := lx_some) (by with_unfolding_all rfl) law_e_t1 { lx0 with w := w, mean := mean, mg := mg, mb := mb, g := g, L := L, la := la, lcd := lcd, u := u, s := s, Q := Q, rest := rest, n1 := D, n2 := P, n3 := C, v1 := ws, v2 := vs, n4 := k, n5 := n, k1 := ds, i1 := lat, i2 := grp, i3 := len, t1 := t₁, t2 := t₂, t3 := t₃, t4 := t₄, b1 := tb } H hI hd lDP lCP lCD hg0 hg6 F N cont
-- part M3
def pcB (c : Int) : List Int := if c % 3 = 1 then [92, 48 + c / 3 / 256 % 10] else if c / 3 % 256 = 92 ∧ c % 3 = 0 then [92, 92] else [c / 3 % 256]
def rwL (cs : List Int) : List Int := cs.flatMap pcB
theorem pcB_length (c : Int) : (pcB c).length ≤ 2 := by
  unfold pcB
  split
  · exact Nat.le_refl 2
  · split
    · exact Nat.le_refl 2
    · exact Nat.le_succ 1
theorem rwL_length : ∀ cs : List Int, (rwL cs).length ≤ 2 * cs.length
  | [] => Nat.le_refl _
  | c :: r => by
    have h1 := pcB_length c
    have h2 := rwL_length r
    unfold rwL at h2 ⊢
    rw [List.flatMap_cons, List.length_append, List.length_cons]
    omega
theorem pcB_1 {c : Int} (h : c % 3 = 1) : pcB c = [92, 48 + c / 3 / 256 % 10] := if_pos h
theorem pcB_2 {c : Int} (h : c / 3 % 256 = 92) (h' : c % 3 = 0) : pcB c = [92, 92] := (if_neg (by omega)).trans (if_pos ⟨h, h'⟩)
theorem pcB_3 {c : Int} (h' : c % 3 ≠ 1) (h : c / 3 % 256 ≠ 92 ∨ c % 3 ≠ 0) : pcB c = [c / 3 % 256] := (if_neg h').trans (if_neg (by omega))
theorem bl1 {n : Int} (h0 : 0 ≤ n) (h1 : n < 256) : List.map (fun c : UInt8 => ((c.toNat : Nat) : Int)) [n.toNat.toUInt8] = [n] := by
  show [((n.toNat.toUInt8.toNat : Nat) : Int)] = [n]
  rw [byte_back h0 h1]
theorem bl2 {m n : Int} (g0 : 0 ≤ m) (g1 : m < 256) (h0 : 0 ≤ n) (h1 : n < 256) : List.map (fun c : UInt8 => ((c.toNat : Nat) : Int)) [m.toNat.toUInt8, n.toNat.toUInt8] = [m, n] := by
  show [((m.toNat.toUInt8.toNat : Nat) : Int), ((n.toNat.toUInt8.toNat : Nat) : Int)] = [m, n]
  rw [byte_back g0 g1, byte_back h0 h1]
theorem mem2a {a b : Addr × Obj} {own : Led} : ∀ p ∈ [a, b], p ∈ a :: b :: own := fun p hp => by
  rcases List.mem_cons.mp hp with rfl | hp
  · exact .head _
  rw [List.mem_singleton.mp hp]
  exact .tail _ (.head _)
theorem mem2o {a b : Addr × Obj} {own : Led} : ∀ p ∈ own, p ∈ a :: b :: own := fun p hp => .tail _ (.tail _ hp)
theorem memT {x : Addr × Obj} {l l' : Led} (h : ∀ p ∈ l, p ∈ l') : ∀ p ∈ l, p ∈ x :: l' := fun p hp => .tail _ (h p hp)
def law_f_P (c : Lx) : Prop := ∀ (H : LawAt c.w c.mean c.mg c.mb c.g) (hI : IntsAre c.v2 c.k1) (hz : c.k1.length ≤ 10) (hz7 : 7 ≤ c.k1.length) (hcd : ∀ k, 0 ≤ c.k1.getD k 0) (lCP : c.n2 < c.n1) (F : Fr c.g c.L c.s.heap (kstB c.u [(Str.ofString "cells", .ref c.n2), (Str.ofString "is_latin1", .int c.i1 c.t1), (Str.ofString "groups", .int c.i2 c.t2), (Str.ofString "text", .bytes c.b1 c.t3), (Str.ofString "captures", .ref c.n1)])) (N : News c.g c.L c.s.heap [(c.n1, listOf c.v1.toArray c.n3), (c.n2, listOf c.v2.toArray c.n4)]) (cont : ∀ (u : Str → Option Value) (h : Heap) (tk : Nat) (rb : Array UInt8) (t₅ : Tok), KBw.bInts rb = rwL (c.k1.drop 4) → Fr c.g c.L h (kstB u [(Str.ofString "is_latin1", .int c.i1 c.t1), (Str.ofString "groups", .int c.i2 c.t2), (Str.ofString "text", .bytes c.b1 c.t3), (Str.ofString "captures", .ref c.n1), (Str.ofString "rewrite", .bytes rb t₅)]) → News c.g c.L h [(c.n1, listOf c.v1.toArray c.n3)] → wpAny (lawM c.w) (callerA.deeper (lawEnv c.L c.la c.lcd)) (execs c.rest (lawEnv c.L c.la c.lcd)) c.Q (fun _ _ => False) { c.s with heap := h, toks := tk }) , wpAny (lawM c.w) (callerA.deeper (lawEnv c.L c.la c.lcd)) (execs (lawStmt 6 :: lawStmt 7 :: c.rest) (lawEnv c.L c.la c.lcd)) c.Q (fun _ _ => False) c.s
@[irreducible] noncomputable def law_f_c : Lx := pick lx_some law_f_P
theorem law_f_t1 : law_f_P law_f_c := by
  intro H hI hz hz7 hcd lCP F N cont
  obtain ⟨B, X, T⟩ := H
  have loops := myLoops
  have calls := myCalls
  dsimp only [kstB] at F
  (((rename Frag.In _ _ => X9); revert X9; dsimp only [lawM]; k_fill; intro X9; (conv in (occs := *) (lawStmt _) => all_goals whnf); (dsimp only [lawEnv]; (conv in (occs := *) lawScope => all_goals whnf))))
  (repeat' (first | (k_unfold; (try dsimp only)) | walk1 | (dsimp only; walk1) | (leave1; (try dsimp only)) | (refine Held.go ?_; first | ((with_reducible show wpAny _ _ (call (Value.ref _) _) _ _ _); first | ((k_here; (k_dflt refine' ctn_use (digits_ok ⟨_, rfl⟩ _ _ _ _ _ _ _ _ _ _ _ ?hbs ?hz ?hpos ?hsm ?h0) ?k1 ?k2 ?k3 ?k4 ?k5 ?kK ?kd ?ku ?kp ?_); (((case k1 => k_asm); (case k2 => k_asm); (case k3 => k_asm); (case k4 => k_asm); (case k5 => k_asm); (case kK => first | exact rfl | assumption); (case kd => first | exact room2 (by assumption) rfl | ktr_room); (case ku => first | exact unit2 (by assumption) rfl | ktr_units))); (case hbs => first | (with_reducible assumption) | (exact .cons _ _ (.cons _ _ (.cons _ _ .nil))) | (exact .cons _ _ (.cons _ _ (.cons _ _ (.cons _ _ .nil)))) | (exact .cons _ _ (.cons _ _ (.cons _ _ (.cons _ _ (.cons _ _ (.cons _ _ (.cons _ _ (.cons _ _ (.cons _ _ (.cons _ _ (.cons _ _ (.cons _ _ .nil)))))))))))) | l_ints); (case hz => first | exact Nat.le_of_ble_eq_true rfl | omega); (case hpos => first | decide | (intro b9 hb9; replace hb9 := mem_rep hb9; omega)); (case hsm => first | decide | (intro b9 hb9; replace hb9 := mem_rep hb9; omega)); (case h0 => first | assumption | omega | ((rename ∀ k : Nat, 0 ≤ List.getD _ k 0 => q9); exact q9 _)); (case kp => trivial); (intro v9 new9 h9 tk9 R9 F9 N9 l9); (obtain ⟨D9, ws9, n9, q9, q9', I9⟩ := R9); (subst q9 q9'); (try dsimp only); (try simp only [List.singleton_append, List.cons_append, List.nil_append] at N9); (replace l9 := fun p hp => l9 p hp _ (List.mem_singleton.mpr rfl)); (k_lt l9); (try ((replace I9 := digs_three I9); (obtain ⟨t9, t9', t9'', I9⟩ := I9); (subst I9))); (try k_fold)))))))
  refine Held.go ?_
  (rename Fr _ _ _ _ => F); (rename News _ _ _ _ => N)
  (rename IntsAre _ (List.drop 4 law_f_c.k1) => hJ)
  (rename law_f_c.n1 < _ ∧ _ => l1)
  generalize hds : law_f_c.k1.drop 4 = ds at *
  have hdz : ds.length ≤ 10 := by rw [← hds, List.length_drop]; omega
  with_unfolding_all refine' kst_vals (σ := Array UInt8 × Tok) (fun c => [(law_f_c.n1, listOf law_f_c.v1.toArray law_f_c.n3), (law_f_c.n2, listOf law_f_c.v2.toArray law_f_c.n4)]) (fun c => [(Str.ofString "rewrite", .bytes c.1 c.2)]) (fun _ => True) [Str.ofString "kind", Str.ofString "octet", Str.ofString "group", Str.ofString "plain"] (fun pre c => KBw.bInts c.1 = rwL (ds.take pre.length)) (#[], _) (News.isList N (.head _)) ?hdl ?hdn rfl F (News_tl N) trivial ?kk ?kp ?turn ?done
  case hdl => exact fun e => (N _ (.head _)).2.1 e.symm
  case hdn =>
    intro q hq
    rcases List.mem_cons.mp hq with e | hq
    · rw [e]; exact Nat.ne_of_lt l1.1
    · rw [List.mem_singleton.mp hq]; exact Nat.ne_of_lt l1.2
  case kk => kst_all
  case kp => rfl
  case turn =>
    rintro ⟨rb, tr⟩ pre post v uq h tk own he hoff _ hP' F' N'
    (try dsimp only [kstB] at F')
    dsimp only at hP' N'
    obtain ⟨c, tc, rfl, hc⟩ := hJ.at pre.length v (by rw [← List.getElem?_toArray, ← Array.getElem?_toList, he]; simp)
    have hc0 : 0 ≤ c := by
      have := hcd (4 + pre.length)
      rw [List.getD_eq_getElem?_getD, ← List.getElem?_drop, hds, hc] at this
      exact this
    have htk : ds.take (pre.length + 1) = ds.take pre.length ++ [c] := by rw [List.take_add_one, hc]; rfl
    have hln : (rwL (ds.take pre.length)).length ≤ 20 := by
      have := rwL_length (ds.take pre.length)
      rw [List.length_take] at this
      omega
    rw [List.cons_append, List.cons_append, List.nil_append] at N'
    replace F' := show Fr law_f_c.g law_f_c.L h _ from F'
    replace N' := show News law_f_c.g law_f_c.L h _ from N'
    have hen : rwL (ds.take (pre.length + 1)) = rwL (ds.take pre.length) ++ pcB c := by
      rw [htk, rwL, List.flatMap_append, List.flatMap_cons, List.flatMap_nil, List.append_nil]
      rfl
    generalize hrs : rwL (ds.take pre.length) = rs at *
    (repeat' (first | (k_unfold; (try dsimp only)) | walk1 | (dsimp only; walk1) | (leave1; (try dsimp only)) | (refine Held.go ?_; first | ((with_reducible show wpAny _ _ (call (Value.ref _) _) _ _ _); first | ((k_here; (k_dflt refine' ctn_use (digits_ok ⟨_, rfl⟩ _ _ _ _ _ _ _ _ _ _ _ ?hbs ?hz ?hpos ?hsm ?h0) ?k1 ?k2 ?k3 ?k4 ?k5 ?kK ?kd ?ku ?kp ?_); (((case k1 => k_asm); (case k2 => k_asm); (case k3 => k_asm); (case k4 => k_asm); (case k5 => k_asm); (case kK => first | exact rfl | assumption); (case kd => first | exact room2 (by assumption) rfl | ktr_room); (case ku => first | exact unit2 (by assumption) rfl | ktr_units))); (case hbs => first | (with_reducible assumption) | (exact .cons _ _ (.cons _ _ (.cons _ _ .nil))) | (exact .cons _ _ (.cons _ _ (.cons _ _ (.cons _ _ .nil)))) | (exact .cons _ _ (.cons _ _ (.cons _ _ (.cons _ _ (.cons _ _ (.cons _ _ (.cons _ _ (.cons _ _ (.cons _ _ (.cons _ _ (.cons _ _ (.cons _ _ .nil)))))))))))) | l_ints); (case hz => first | exact Nat.le_of_ble_eq_true rfl | omega); (case hpos => first | decide | (intro b9 hb9; replace hb9 := mem_rep hb9; omega)); (case hsm => first | decide | (intro b9 hb9; replace hb9 := mem_rep hb9; omega)); (case h0 => first | assumption | omega | ((rename ∀ k : Nat, 0 ≤ List.getD _ k 0 => q9); exact q9 _)); (case kp => trivial); (intro v9 new9 h9 tk9 R9 F9 N9 l9); (obtain ⟨D9, ws9, n9, q9, q9', I9⟩ := R9); (subst q9 q9'); (try dsimp only); (try simp only [List.singleton_append, List.cons_append, List.nil_append] at N9); (replace l9 := fun p hp => l9 p hp _ (List.mem_singleton.mpr rfl)); (k_lt l9); (try ((replace I9 := digs_three I9); (obtain ⟨t9, t9', t9'', I9⟩ := I9); (subst I9))); (try k_fold)))))))
    all_goals (refine Held.go ?_; (rename Fr _ _ _ _ => F9); (rename News _ _ _ _ => N9); (rename KBw.bInts (rb ++ _) = _ => hB); refine kst_end (_, _) F9 N9 (by first | exact memT (memT mem2a) | exact memT (memT (memT mem2a)) | exact memT (memT (memT (memT mem2a)))) (by first | exact memT (memT mem2o) | exact memT (memT (memT mem2o)) | exact memT (memT (memT (memT mem2o)))) rfl trivial (by kst_all) (by kst_same) ?_; rw [List.length_append]; show KBw.bInts _ = rwL (ds.take (pre.length + 1)); rw [hen]; refine hB.trans (congrArg (rs ++ ·) ?_))
    all_goals first
      | (rw [pcB_1 (by assumption)]; exact bl2 (by decide) (by decide) (by omega) (by omega))
      | (rw [pcB_2 (by assumption) (by assumption)]; rfl)
      | (rw [pcB_3 (by assumption) (by omega)]; exact bl1 (by omega) (by omega))
  case done =>
    rintro ⟨rb, tr⟩ uq h tk _ hP' F' N'
    (try dsimp only [kstB] at F')
    dsimp only at hP' N'
    replace hP' : KBw.bInts rb = rwL ds := hP'.trans (by rw [List.take_of_length_le]; rw [← hJ.length]; exact Nat.le_refl _)
    exact cont _ _ _ _ _ hP' (fr_named F' (by kst_all)) (keepN N' (by k_mem) keepN0)
theorem law_f (r : Rw) (w : World) (mean : ExcName → Option Value) (mg mb : Str → Option Value) (g : Heap) (L la : Addr) (lcd : Value) (u : Str → Option Value) (s : Shared) (Q : Flow → Shared → Prop) (rest : List Stmt) (H : LawAt w mean mg mb g)
    (P C : Nat) (cv vs : List Value) (k n : Nat) (cs : List Int) (hI : IntsAre vs cs) (hz : cs.length ≤ 10) (hz7 : 7 ≤ cs.length) (hcd : ∀ k, 0 ≤ cs.getD k 0) (lCP : C < P) (lat grp : Int) (t₁ t₂ t₄ : Tok) (tb : Array UInt8)
    (F : Fr g L s.heap (kstB u [(Str.ofString "cells", .ref C), (Str.ofString "is_latin1", .int lat t₁), (Str.ofString "groups", .int grp t₂), (Str.ofString "text", .bytes tb t₄), (Str.ofString "captures", .ref P)])) (N : News g L s.heap [(P, listOf cv.toArray k), (C, listOf vs.toArray n)])
    (cont : ∀ (u : Str → Option Value) (h : Heap) (tk : Nat) (rb : Array UInt8) (t₅ : Tok), KBw.bInts rb = rwL (cs.drop 4) → Fr g L h (kstB u [(Str.ofString "is_latin1", .int lat t₁), (Str.ofString "groups", .int grp t₂), (Str.ofString "text", .bytes tb t₄), (Str.ofString "captures", .ref P), (Str.ofString "rewrite", .bytes rb t₅)]) → News g L h [(P, listOf cv.toArray k)] → wpAny (lawM w) (callerA.deeper (lawEnv L la lcd)) (execs rest (lawEnv L la lcd)) Q (fun _ _ => False) { s with heap := h, toks := tk }) :
    wpAny (lawM w) (callerA.deeper (lawEnv L la lcd)) (execs (lawStmt 6 :: lawStmt 7 :: rest) (lawEnv L la lcd)) Q (fun _ _ => False) s := by
  exact pick_all (ne := lx_some) (by with_unfolding_all rfl) law_f_t1 { lx0 with w := w, mean := mean, mg := mg, mb := mb, g := g, L := L, la := la, lcd := lcd, u := u, s := s, Q := Q, rest := rest, n1 := P, n2 := C, v1 := cv, v2 := vs, n3 := k, n4 := n, k1 := cs, i1 := lat, i2 := grp, t1 := t₁, t2 := t₂, t3 := t₄, b1 := tb } H hI hz hz7 hcd lCP F N cont
-- part M4
theorem ctn0_mem {w : World} {mean : ExcName → Option Value} {mg mb : Str → Option Value} {f : Addr} {d u : Nat} {news : Led} {vs : List Value} {Ret : Value → Led → Prop} {p : Addr × Obj}
    (H : CtN0 w mean mg mb f d u (p :: news) vs Ret) (hp : p ∈ news) : CtN0 w mean mg mb f d u news vs Ret := by
  intro _ _ _ _ _ _ _ _ _ _ _ _ _ _ _ B F X N T hk hd hu hret
  refine H _ _ _ _ _ _ _ _ _ _ _ _ _ _ _ B F X (fun z hz => ?_) T hk hd hu (fun v new h' tk' hR F' N' l => hret v new h' tk' hR F' (fun z hz => N' z ?_) fun z hz => l z (.tail _ hz))
  · rcases List.mem_cons.mp hz with rfl | hz
    · exact N _ hp
    · exact N _ hz
  · rcases List.mem_append.mp hz with hz | hz
    · exact List.mem_append_left _ hz
    · exact List.mem_append_right _ (.tail _ hz)
/-- what the rewriting told: None or octets -/
abbrev Told (v : Value) (o : Option (List Int)) : Prop := (v = .none ∧ o = none) ∨ ∃ b t l, v = .bytes b t ∧ KBw.bInts b = l ∧ o = some l
def law_g_P (c : Lx) : Prop := ∀ (H : LawAt c.w c.mean c.mg c.mb c.g) (hcap : IntsAre c.v1 c.k1) (hcl : c.k1.length ≤ 100) (hg0 : 0 ≤ c.i2) (hg6 : c.i2 ≤ 6) (htb : KBw.bInts c.b1 = c.k2) (hrb : KBw.bInts c.b2 = c.k3) (hz : c.k3.length ≤ 20) (hz2 : c.k2.length ≤ 8) (hout : ∀ l, rewSem c.k3 c.k2 c.k1 = some l → l.length ≤ 100000) (F : Fr c.g c.L c.s.heap (kstB c.u [(Str.ofString "is_latin1", .int c.i1 c.t1), (Str.ofString "groups", .int c.i2 c.t2), (Str.ofString "text", .bytes c.b1 c.t3), (Str.ofString "captures", .ref c.n1), (Str.ofString "rewrite", .bytes c.b2 c.t4)])) (N : News c.g c.L c.s.heap [(c.n1, listOf c.v1.toArray c.n2)]) (contA : ∀ (u : Str → Option Value) (h : Heap) (tk : Nat) (v : Value), readR c.i2 c.k3 false [] = none → Told v (rewSem c.k3 c.k2 c.k1) → Fr c.g c.L h (kstB u [(Str.ofString "is_latin1", .int c.i1 c.t1), (Str.ofString "text", .bytes c.b1 c.t3), (Str.ofString "captures", .ref c.n1), (Str.ofString "rewrite", .bytes c.b2 c.t4), (Str.ofString "parts", .none), (Str.ofString "told", v), (Str.ofString "out", .bytes c.b2 c.t4)]) → News c.g c.L h [(c.n1, listOf c.v1.toArray c.n2)] → wpAny (lawM c.w) (callerA.deeper (lawEnv c.L c.la c.lcd)) (execs c.rest (lawEnv c.L c.la c.lcd)) c.Q (fun _ _ => False) { c.s with heap := h, toks := tk }) (contB : ∀ (u : Str → Option Value) (h : Heap) (tk : Nat) (v : Value) (D : Nat) (arr : Array Value) (n : Nat) (ps : List Pc), readR c.i2 c.k3 false [] = some ps → PcsAre arr.toList ps → arr.size ≤ c.k3.length → Told v (rewSem c.k3 c.k2 c.k1) → c.n1 < D → Fr c.g c.L h (kstB u [(Str.ofString "is_latin1", .int c.i1 c.t1), (Str.ofString "text", .bytes c.b1 c.t3), (Str.ofString "captures", .ref c.n1), (Str.ofString "rewrite", .bytes c.b2 c.t4), (Str.ofString "parts", .ref D), (Str.ofString "told", v), (Str.ofString "out", .bytes c.b2 c.t4)]) → News c.g c.L h [(D, listOf arr n), (c.n1, listOf c.v1.toArray c.n2)] → wpAny (lawM c.w) (callerA.deeper (lawEnv c.L c.la c.lcd)) (execs c.rest (lawEnv c.L c.la c.lcd)) c.Q (fun _ _ => False) { c.s with heap := h, toks := tk }) , wpAny (lawM c.w) (callerA.deeper (lawEnv c.L c.la c.lcd)) (execs (lawStmt 8 :: c.rest) (lawEnv c.L c.la c.lcd)) c.Q (fun _ _ => False) c.s
@[irreducible] noncomputable def law_g_c : Lx := pick lx_some law_g_P
theorem law_g_t1 : law_g_P law_g_c := by
  intro H hcap hcl hg0 hg6 htb hrb hz hz2 hout F N contA contB
  obtain ⟨B, X, T⟩ := H
  have loops := myLoops
  have calls := myCalls
  dsimp only [kstB] at F
  (((rename Frag.In _ _ => X9); revert X9; dsimp only [lawM]; k_fill; intro X9; (conv in (occs := *) (lawStmt _) => all_goals whnf); (dsimp only [lawEnv]; (conv in (occs := *) lawScope => all_goals whnf))))
  (repeat' (first | (k_unfold; (try dsimp only)) | walk1 | (dsimp only; walk1) | (leave1; (try dsimp only)) | (refine Held.go ?_; first | ((with_reducible show wpAny _ _ (call (Value.ref _) _) _ _ _); first | ((k_here; (k_dflt refine' ctn_use (read_ok ⟨_, rfl⟩ _ _ _ _ _ _ _ _ _ _ ?hks ?hz ?g0 ?g1) ?k1 ?k2 ?k3 ?k4 ?k5 ?kK ?kd ?ku ?kp ?_); (((case k1 => k_asm); (case k2 => k_asm); (case k3 => k_asm); (case k4 => k_asm); (case k5 => k_asm); (case kK => first | exact rfl | assumption); (case kd => first | exact room2 (by assumption) rfl | ktr_room); (case ku => first | exact unit2 (by assumption) rfl | ktr_units))); (case hks => kba_ints); (case hz => first | assumption | omega); (case g0 => first | assumption | omega); (case g1 => first | assumption | omega); (case kp => trivial); (intro v9 new9 h9 tk9 R9 F9 N9 l9); (refine Or.elim R9 ?ra ?rb <;> clear R9 <;> intro R9); (case' ra => (obtain ⟨q9, q9', e9⟩ := R9); (subst q9 q9'); (try dsimp only); (try simp only [List.nil_append] at N9); clear l9; (try k_fold)); (case' rb => (obtain ⟨D9, arr9, n9, ps9, q9, q9', p9, e9, z9⟩ := R9); (subst q9 q9'); (try dsimp only); (try simp only [List.singleton_append, List.cons_append, List.nil_append] at N9); (replace l9 := fun p hp => l9 p hp _ (List.mem_singleton.mpr rfl)); (k_lt l9); (try k_fold)))) | ((k_here; (k_dflt refine' ctn0_use (ctn0_mem (lrewr_ok ⟨_, rfl⟩ _ _ _ _ _ _ _ _ _ _ _ _ _ _ _ ?hks ?htx ?hz ?hz2 ?hcap ?hcl ?hout) ?m1) ?k1 ?k2 ?k3 ?k4 ?k5 ?kK ?kd ?ku ?_); (((case k1 => k_asm); (case k2 => k_asm); (case k3 => k_asm); (case k4 => k_asm); (case k5 => k_asm); (case kK => first | exact rfl | assumption); (case kd => first | exact room2 (by assumption) rfl | ktr_room); (case ku => first | exact unit2 (by assumption) rfl | ktr_units))); (case m1 => k_dflt k_mem); (case hks => kba_ints); (case htx => kba_ints); (case hz => first | assumption | omega); (case hz2 => first | assumption | omega); (case hcap => assumption); (case hcl => first | assumption | omega); (case hout => assumption); (intro v9 new9 h9 tk9 R9 F9 N9 l9); (obtain ⟨q9, R9⟩ := R9); (subst q9); (replace R9 := show Told _ _ from R9); (try dsimp only); (try simp only [List.nil_append] at N9); clear l9; (try k_fold)))))))
  all_goals ((rename Fr _ _ _ _ => F9); (rename News _ _ _ _ => N9))
  · exact contB _ _ _ _ _ _ _ _ (by assumption) (by assumption) (by assumption) (by assumption) (by assumption) (fr_named F9 (by kst_all)) (keepN N9 (by k_mem) (keepN N9 (by k_mem) keepN0))
  · exact contA _ _ _ _ (by assumption) (by assumption) (fr_named F9 (by kst_all)) (keepN N9 (by k_mem) keepN0)
theorem law_g (r : Rw) (w : World) (mean : ExcName → Option Value) (mg mb : Str → Option Value) (g : Heap) (L la : Addr) (lcd : Value) (u : Str → Option Value) (s : Shared) (Q : Flow → Shared → Prop) (rest : List Stmt) (H : LawAt w mean mg mb g)
    (P : Nat) (cv : List Value) (k : Nat) (caps text rs : List Int) (hcap : IntsAre cv caps) (hcl : caps.length ≤ 100) (lat grp : Int) (hg0 : 0 ≤ grp) (hg6 : grp ≤ 6) (t₁ t₂ t₄ t₅ : Tok) (tb rb : Array UInt8) (htb : KBw.bInts tb = text) (hrb : KBw.bInts rb = rs) (hz : rs.length ≤ 20) (hz2 : text.length ≤ 8) (hout : ∀ l, rewSem rs text caps = some l → l.length ≤ 100000)
    (F : Fr g L s.heap (kstB u [(Str.ofString "is_latin1", .int lat t₁), (Str.ofString "groups", .int grp t₂), (Str.ofString "text", .bytes tb t₄), (Str.ofString "captures", .ref P), (Str.ofString "rewrite", .bytes rb t₅)])) (N : News g L s.heap [(P, listOf cv.toArray k)])
    (contA : ∀ (u : Str → Option Value) (h : Heap) (tk : Nat) (v : Value), readR grp rs false [] = none → Told v (rewSem rs text caps) → Fr g L h (kstB u [(Str.ofString "is_latin1", .int lat t₁), (Str.ofString "text", .bytes tb t₄), (Str.ofString "captures", .ref P), (Str.ofString "rewrite", .bytes rb t₅), (Str.ofString "parts", .none), (Str.ofString "told", v), (Str.ofString "out", .bytes rb t₅)]) → News g L h [(P, listOf cv.toArray k)] → wpAny (lawM w) (callerA.deeper (lawEnv L la lcd)) (execs rest (lawEnv L la lcd)) Q (fun _ _ => False) { s with heap := h, toks := tk })
    (contB : ∀ (u : Str → Option Value) (h : Heap) (tk : Nat) (v : Value) (D : Nat) (arr : Array Value) (n : Nat) (ps : List Pc), readR grp rs false [] = some ps → PcsAre arr.toList ps → arr.size ≤ rs.length → Told v (rewSem rs text caps) → P < D → Fr g L h (kstB u [(Str.ofString "is_latin1", .int lat t₁), (Str.ofString "text", .bytes tb t₄), (Str.ofString "captures", .ref P), (Str.ofString "rewrite", .bytes rb t₅), (Str.ofString "parts", .ref D), (Str.ofString "told", v), (Str.ofString "out", .bytes rb t₅)]) → News g L h [(D, listOf arr n), (P, listOf cv.toArray k)] → wpAny (lawM w) (callerA.deeper (lawEnv L la lcd)) (execs rest (lawEnv L la lcd)) Q (fun _ _ => False) { s with heap := h, toks := tk }) :
    wpAny (lawM w) (callerA.deeper (lawEnv L la lcd)) (execs (lawStmt 8 :: rest) (lawEnv L la lcd)) Q (fun _ _ => False) s := by
  exact pick_all (ne := lx_some) (by with_unfolding_all rfl) law_g_t1 { lx0 with w := w, mean := mean, mg := mg, mb := mb, g := g, L := L, la := la, lcd := lcd, u := u, s := s, Q := Q, rest := rest, n1 := P, v1 := cv, n2 := k, k1 := caps, k2 := text, k3 := rs, i1 := lat, i2 := grp, t1 := t₁, t2 := t₂, t3 := t₄, t4 := t₅, b1 := tb, b2 := rb } H hcap hcl hg0 hg6 htb hrb hz hz2 hout F N contA contB
-- part M5
def onePc (text caps : List Int) : Pc → List Int
  | .inl l => l
  | .inr g => if 0 ≤ caps.getD (2 * g).toNat 0 then segC text (caps.getD (2 * g).toNat 0) (caps.getD (2 * g + 1).toNat 0) else []
def outL (text caps : List Int) (ps : List Pc) : List Int := ps.flatMap (onePc text caps)
theorem outL_snoc (text caps : List Int) (ps : List Pc) (p : Pc) : outL text caps (ps ++ [p]) = outL text caps ps ++ onePc text caps p := by
  simp [outL]
theorem outL_length {text caps : List Int} {n : Nat} : ∀ {ps : List Pc}, (∀ p ∈ ps, (onePc text caps p).length ≤ n) → (outL text caps ps).length ≤ ps.length * n
  | [], _ => Nat.zero_le _
  | p :: ps, h => by
    have h1 := h p (.head _)
    have h2 := outL_length (ps := ps) fun q hq => h q (.tail _ hq)
    unfold outL at h2 ⊢
    rw [List.flatMap_cons, List.length_append, List.length_cons, Nat.succ_mul]
    omega
theorem one_a {text caps : List Int} {g : Int} (h : 0 ≤ caps.getD (2 * g).toNat 0) : onePc text caps (.inr g) = segC text (caps.getD (2 * g).toNat 0) (caps.getD (2 * g + 1).toNat 0) := if_pos h
theorem one_b {text caps : List Int} {g : Int} (h : ¬ 0 ≤ caps.getD (2 * g).toNat 0) : onePc text caps (.inr g) = [] := if_neg h
theorem bInts_inj {b c : Array UInt8} (h : KBw.bInts b = KBw.bInts c) : b.toList = c.toList :=
  List.map_inj_right (fun x y e => UInt8.toNat_inj.mp (Int.ofNat.inj e)) |>.mp h
theorem bne_eq {l m : List UInt8} (h : l = m) : (l != m) = false := by
  rw [h]
  exact bne_self_eq_false m
def law_ha_P (c : Lx) : Prop := ∀ (H : LawAt c.w c.mean c.mg c.mb c.g) (F : Fr c.g c.L c.s.heap (kstB c.u [(Str.ofString "is_latin1", .int c.i1 c.t1), (Str.ofString "text", .bytes c.b1 c.t2), (Str.ofString "captures", .ref c.n1), (Str.ofString "rewrite", .bytes c.b2 c.t3), (Str.ofString "parts", .none), (Str.ofString "told", .none), (Str.ofString "out", .bytes c.b2 c.t3)])) (N : News c.g c.L c.s.heap [(c.n1, listOf c.v1.toArray c.n2)]) (cont : ∀ (u : Str → Option Value) (h : Heap) (tk : Nat), Fr c.g c.L h (kstB u [(Str.ofString "is_latin1", .int c.i1 c.t1), (Str.ofString "text", .bytes c.b1 c.t2), (Str.ofString "captures", .ref c.n1), (Str.ofString "rewrite", .bytes c.b2 c.t3), (Str.ofString "out", .bytes c.b2 c.t3)]) → News c.g c.L h [(c.n1, listOf c.v1.toArray c.n2)] → wpAny (lawM c.w) (callerA.deeper (lawEnv c.L c.la c.lcd)) (execs c.rest (lawEnv c.L c.la c.lcd)) c.Q (fun _ _ => False) { c.s with heap := h, toks := tk }) , wpAny (lawM c.w) (callerA.deeper (lawEnv c.L c.la c.lcd)) (execs (lawStmt 9 :: lawStmt 10 :: c.rest) (lawEnv c.L c.la c.lcd)) c.Q (fun _ _ => False) c.s
@[irreducible] noncomputable def law_ha_c : Lx := pick lx_some law_ha_P
theorem law_ha_t1 : law_ha_P law_ha_c := by
  intro H F N cont
  obtain ⟨B, X, T⟩ := H
  have loops := myLoops
  dsimp only [kstB] at F
  (((rename Frag.In _ _ => X9); revert X9; dsimp only [lawM]; k_fill; intro X9; (conv in (occs := *) (lawStmt _) => all_goals whnf); (dsimp only [lawEnv]; (conv in (occs := *) lawScope => all_goals whnf))))
  (repeat' (first | (k_unfold; (try dsimp only)) | walk1 | (dsimp only; walk1) | (leave1; (try dsimp only))))
  exact cont _ law_ha_c.s.heap law_ha_c.s.toks (fr_named F (by kst_all)) N
theorem law_ha (r : Rw) (w : World) (mean : ExcName → Option Value) (mg mb : Str → Option Value) (g : Heap) (L la : Addr) (lcd : Value) (u : Str → Option Value) (s : Shared) (Q : Flow → Shared → Prop) (rest : List Stmt) (H : LawAt w mean mg mb g)
    (P : Nat) (cv : List Value) (k : Nat) (lat : Int) (t₁ t₄ t₅ : Tok) (tb rb : Array UInt8)
    (F : Fr g L s.heap (kstB u [(Str.ofString "is_latin1", .int lat t₁), (Str.ofString "text", .bytes tb t₄), (Str.ofString "captures", .ref P), (Str.ofString "rewrite", .bytes rb t₅), (Str.ofString "parts", .none), (Str.ofString "told", .none), (Str.ofString "out", .bytes rb t₅)])) (N : News g L s.heap [(P, listOf cv.toArray k)])
    (cont : ∀ (u : Str → Option Value) (h : Heap) (tk : Nat), Fr g L h (kstB u [(Str.ofString "is_latin1", .int lat t₁), (Str.ofString "text", .bytes tb t₄), (Str.ofString "captures", .ref P), (Str.ofString "rewrite", .bytes rb t₅), (Str.ofString "out", .bytes rb t₅)]) → News g L h [(P, listOf cv.toArray k)] → wpAny (lawM w) (callerA.deeper (lawEnv L la lcd)) (execs rest (lawEnv L la lcd)) Q (fun _ _ => False) { s with heap := h, toks := tk }) :
    wpAny (lawM w) (callerA.deeper (lawEnv L la lcd)) (execs (lawStmt 9 :: lawStmt 10 :: rest) (lawEnv L la lcd)) Q (fun _ _ => False) s := by
  exact pick_all (ne := lx_some) (by with_unfolding_all rfl) law_ha_t1 { lx0 with w := w, mean := mean, mg := mg, mb := mb, g := g, L := L, la := la, lcd := lcd, u := u, s := s, Q := Q, rest := rest, n1 := P, v1 := cv, n2 := k, i1 := lat, t1 := t₁, t2 := t₄, t3 := t₅, b1 := tb, b2 := rb } H F N cont
def law_hb_P (c : Lx) : Prop := ∀ (H : LawAt c.w c.mean c.mg c.mb c.g) (lPD : c.n1 < c.n2) (hps : PcsAre c.r1.toList c.p1) (hsz : c.p1.length ≤ 20) (hcap : IntsAre c.v1 c.k1) (hcl : c.k1.length ≤ 100) (htb : KBw.bInts c.b1 = c.k2) (hz2 : c.k2.length ≤ 8) (hvb : KBw.bInts c.b3 = outL c.k2 c.k1 c.p1) (hgr : ∀ g, .inr g ∈ c.p1 → 0 ≤ g ∧ 2 * g + 1 < (c.k1.length : Int)) (hln : ∀ p ∈ c.p1, (onePc c.k2 c.k1 p).length ≤ 8) (F : Fr c.g c.L c.s.heap (kstB c.u [(Str.ofString "is_latin1", .int c.i1 c.t1), (Str.ofString "text", .bytes c.b1 c.t2), (Str.ofString "captures", .ref c.n1), (Str.ofString "rewrite", .bytes c.b2 c.t3), (Str.ofString "parts", .ref c.n2), (Str.ofString "told", .bytes c.b3 c.t4), (Str.ofString "out", .bytes c.b2 c.t3)])) (N : News c.g c.L c.s.heap [(c.n2, listOf c.r1 c.n4), (c.n1, listOf c.v1.toArray c.n3)]) (cont : ∀ (u : Str → Option Value) (h : Heap) (tk : Nat) (ob : Array UInt8) (t₇ : Tok), KBw.bInts ob = outL c.k2 c.k1 c.p1 → Fr c.g c.L h (kstB u [(Str.ofString "is_latin1", .int c.i1 c.t1), (Str.ofString "text", .bytes c.b1 c.t2), (Str.ofString "captures", .ref c.n1), (Str.ofString "rewrite", .bytes c.b2 c.t3), (Str.ofString "out", .bytes ob t₇)]) → News c.g c.L h [(c.n1, listOf c.v1.toArray c.n3)] → wpAny (lawM c.w) (callerA.deeper (lawEnv c.L c.la c.lcd)) (execs c.rest (lawEnv c.L c.la c.lcd)) c.Q (fun _ _ => False) { c.s with heap := h, toks := tk }) , wpAny (lawM c.w) (callerA.deeper (lawEnv c.L c.la c.lcd)) (execs (lawStmt 9 :: lawStmt 10 :: c.rest) (lawEnv c.L c.la c.lcd)) c.Q (fun _ _ => False) c.s
@[irreducible] noncomputable def law_hb_c : Lx := pick lx_some law_hb_P
theorem law_hb_t1 : law_hb_P law_hb_c := by
  intro H lPD hps hsz hcap hcl htb hz2 hvb hgr hln F N cont
  obtain ⟨B, X, T⟩ := H
  have loops := myLoops
  dsimp only [kstB] at F
  (((rename Frag.In _ _ => X9); revert X9; dsimp only [lawM]; k_fill; intro X9; (conv in (occs := *) (lawStmt _) => all_goals whnf); (dsimp only [lawEnv]; (conv in (occs := *) lawScope => all_goals whnf))))
  (repeat' (first | (k_unfold; (try dsimp only)) | walk1 | (dsimp only; walk1) | (leave1; (try dsimp only))))
  refine Held.go ?_
  (rename Fr _ _ _ _ => F); (rename News _ _ _ _ => N)
  with_unfolding_all refine' kst_vals (σ := Array UInt8 × Tok) (fun c => [(law_hb_c.n1, listOf law_hb_c.v1.toArray law_hb_c.n3)]) (fun c => [(Str.ofString "out", .bytes c.1 c.2)]) (fun _ => True) [] (fun pre c => KBw.bInts c.1 = outL law_hb_c.k2 law_hb_c.k1 (law_hb_c.p1.take pre.length)) (#[], _) ⟨_, (N _ (.head _)).1, rfl, _, rfl⟩ (Ne.symm (N _ (.head _)).2.1) ?hdn rfl F (News_tl N) trivial ?kk ?kp ?turn ?done
  case hdn =>
    intro q hq
    rw [List.mem_singleton.mp hq]
    exact Nat.ne_of_lt lPD
  case kk => kst_all
  case kp => rfl
  case turn =>
    rintro ⟨ob, to⟩ pre post v uq h tk own he hoff _ hP' F' N'
    (try dsimp only [kstB] at F')
    dsimp only at hP' N'
    obtain ⟨qs, p, rs, hq, hql, hv⟩ := PcsAre.split (he ▸ hps)
    have hpm : p ∈ law_hb_c.p1 := by rw [hq]; simp
    have e1 : law_hb_c.p1.take pre.length = qs := by rw [hq, ← hql, List.take_append_of_le_length (Nat.le_refl _), List.take_length]
    have e2 : law_hb_c.p1.take (pre.length + 1) = qs ++ [p] := by
      rw [hq, ← hql, show qs ++ p :: rs = (qs ++ [p]) ++ rs by simp, show qs.length + 1 = (qs ++ [p]).length by simp, List.take_append_of_le_length (Nat.le_refl _), List.take_length]
    have hl9 := outL_length (text := law_hb_c.k2) (caps := law_hb_c.k1) (n := 8) (ps := qs) fun p hp => hln p (by rw [hq]; simp [hp])
    have hqz : qs.length ≤ 20 := by rw [hq] at hsz; simp at hsz; omega
    have hend := outL_snoc law_hb_c.k2 law_hb_c.k1 qs p
    have hp8 := hln p hpm
    rw [← e2] at hend
    rw [e1] at hP'
    generalize hws : outL law_hb_c.k2 law_hb_c.k1 qs = ws at *
    have hwz : ws.length ≤ 160 := by omega
    rw [List.cons_append, List.nil_append] at N'
    replace F' := show Fr law_hb_c.g law_hb_c.L h _ from F'
    replace N' := show News law_hb_c.g law_hb_c.L h _ from N'
    clear he hps hq hql e1 hln
    rcases p with l0 | gn
    · obtain ⟨bv, tv, rfl, hbv⟩ : ∃ bv tv, v = .bytes bv tv ∧ KBw.bInts bv = l0 := by
        cases v <;> first | exact hv.elim | exact ⟨_, _, rfl, hv⟩
      replace hp8 : l0.length ≤ 8 := hp8
      (repeat' (first | (k_unfold; (try dsimp only)) | walk1 | (dsimp only; walk1) | (leave1; (try dsimp only))))
      refine Held.go ?_
      (rename Fr _ _ _ _ => F9); (rename News _ _ _ _ => N9); (rename KBw.bInts (ob ++ _) = _ => hB)
      refine kst_end (_, _) F9 N9 (fun p hp => by rw [List.mem_singleton.mp hp]; exact .head _) (fun p hp => .tail _ hp) rfl trivial (by kst_all) (by kst_same) ?_
      rw [List.length_append]
      exact hB.trans hend.symm
    · obtain ⟨tv, rfl⟩ : ∃ tv, v = .int gn tv := by
        cases v <;> first | exact hv.elim | (obtain rfl : _ = gn := hv; exact ⟨_, rfl⟩)
      obtain ⟨hg0, hg9⟩ := hgr gn hpm
      (repeat' (first | (k_unfold; (try dsimp only)) | walk1 | (dsimp only; walk1) | (leave1; (try dsimp only))))
      · refine Held.go ?_
        (rename Fr _ _ _ _ => F9); (rename News _ _ _ _ => N9); (rename KBw.bInts (ob ++ _) = _ => hB)
        refine kst_end (_, _) F9 N9 (fun p hp => by rw [List.mem_singleton.mp hp]; exact .head _) (fun p hp => .tail _ hp) rfl trivial (by kst_all) (by kst_same) ?_
        rw [List.length_append]
        rw [one_a (by assumption)] at hend
        exact hB.trans hend.symm
      · refine Held.go ?_
        refine kst_end (_, _) F' N' (fun p hp => by rw [List.mem_singleton.mp hp]; exact .head _) (fun p hp => .tail _ hp) rfl trivial (by kst_all) (by kst_same) ?_
        rw [List.length_append]
        rw [one_b (by assumption), List.append_nil] at hend
        exact hP'.trans hend.symm
  case done =>
    rintro ⟨ob, to⟩ uq h tk _ hP' F' N'
    (try dsimp only [kstB] at F')
    dsimp only at hP' N'
    rw [hps.length, List.take_length] at hP'
    replace F' := show Fr law_hb_c.g law_hb_c.L h _ from F'
    replace N' := show News law_hb_c.g law_hb_c.L h _ from N'
    have hl9 := outL_length (text := law_hb_c.k2) (caps := law_hb_c.k1) (n := 8) hln
    generalize hws : outL law_hb_c.k2 law_hb_c.k1 law_hb_c.p1 = ws at *
    have hwz : ws.length ≤ 160 := by omega
    (try dsimp only)
    have hsame : (law_hb_c.b3.toList != ob.toList) = false := bne_eq (bInts_inj (hvb.trans hP'.symm))
    (repeat' (first | (k_unfold; (try dsimp only)) | walk1 | (dsimp only; walk1) | (leave1; (try dsimp only))))
    exact cont _ _ _ _ _ hP' (fr_named F' (by kst_all)) (keepN N' (by k_mem) keepN0)
theorem law_hb (r : Rw) (w : World) (mean : ExcName → Option Value) (mg mb : Str → Option Value) (g : Heap) (L la : Addr) (lcd : Value) (u : Str → Option Value) (s : Shared) (Q : Flow → Shared → Prop) (rest : List Stmt) (H : LawAt w mean mg mb g)
    (P D : Nat) (cv : List Value) (k n : Nat) (lPD : P < D) (arr : Array Value) (ps : List Pc) (hps : PcsAre arr.toList ps) (hsz : ps.length ≤ 20) (caps text : List Int) (hcap : IntsAre cv caps) (hcl : caps.length ≤ 100) (lat : Int) (t₁ t₄ t₅ t₆ : Tok) (tb rb vb : Array UInt8) (htb : KBw.bInts tb = text) (hz2 : text.length ≤ 8) (hvb : KBw.bInts vb = outL text caps ps)
    (hgr : ∀ g, .inr g ∈ ps → 0 ≤ g ∧ 2 * g + 1 < (caps.length : Int)) (hln : ∀ p ∈ ps, (onePc text caps p).length ≤ 8)
    (F : Fr g L s.heap (kstB u [(Str.ofString "is_latin1", .int lat t₁), (Str.ofString "text", .bytes tb t₄), (Str.ofString "captures", .ref P), (Str.ofString "rewrite", .bytes rb t₅), (Str.ofString "parts", .ref D), (Str.ofString "told", .bytes vb t₆), (Str.ofString "out", .bytes rb t₅)])) (N : News g L s.heap [(D, listOf arr n), (P, listOf cv.toArray k)])
    (cont : ∀ (u : Str → Option Value) (h : Heap) (tk : Nat) (ob : Array UInt8) (t₇ : Tok), KBw.bInts ob = outL text caps ps → Fr g L h (kstB u [(Str.ofString "is_latin1", .int lat t₁), (Str.ofString "text", .bytes tb t₄), (Str.ofString "captures", .ref P), (Str.ofString "rewrite", .bytes rb t₅), (Str.ofString "out", .bytes ob t₇)]) → News g L h [(P, listOf cv.toArray k)] → wpAny (lawM w) (callerA.deeper (lawEnv L la lcd)) (execs rest (lawEnv L la lcd)) Q (fun _ _ => False) { s with heap := h, toks := tk }) :
    wpAny (lawM w) (callerA.deeper (lawEnv L la lcd)) (execs (lawStmt 9 :: lawStmt 10 :: rest) (lawEnv L la lcd)) Q (fun _ _ => False) s := by
  exact pick_all (ne := lx_some) (by with_unfolding_all rfl) law_hb_t1 { lx0 with w := w, mean := mean, mg := mg, mb := mb, g := g, L := L, la := la, lcd := lcd, u := u, s := s, Q := Q, rest := rest, n1 := P, n2 := D, v1 := cv, n3 := k, n4 := n, r1 := arr, p1 := ps, k1 := caps, k2 := text, i1 := lat, t1 := t₁, t2 := t₄, t3 := t₅, t4 := t₆, b1 := tb, b2 := rb, b3 := vb } H lPD hps hsz hcap hcl htb hz2 hvb hgr hln F N cont
-- part M6
def figs (ps : List Pc) : List Int := ps.filterMap fun p => match p with | .inr g => some g | .inl _ => none
theorem figs_snoc (ps : List Pc) (p : Pc) : figs (ps ++ [p]) = figs ps ++ figs [p] := by simp [figs, List.filterMap_append]
theorem PcsAre.at : ∀ {vs : List Value} {ps : List Pc} {i : Nat} {v : Value}, PcsAre vs ps → vs[i]? = some v → ∃ p, ps[i]? = some p ∧ PcAre v p
  | [], [], _, _, _, h => by simp at h
  | [], _ :: _, _, _, h, _ => h.elim
  | _ :: _, [], _, _, h, _ => h.elim
  | _ :: _, p :: _, 0, _, h, e => ⟨p, rfl, by rw [← Option.some.inj e]; exact h.1⟩
  | _ :: _, _ :: _, i + 1, _, h, e => PcsAre.at (i := i) h.2 e
def law_i_P (c : Lx) : Prop := ∀ (H : LawAt c.w c.mean c.mg c.mb c.g) (hrb : KBw.bInts c.b2 = c.k1) (hz : c.k1.length ≤ 20) (hmost : ∀ ps, readR 10 c.k1 false [] = some ps → mostL c.k1 0 ∈ [0] ++ figs ps ∧ ∀ x ∈ [0] ++ figs ps, x ≤ mostL c.k1 0) (F : Fr c.g c.L c.s.heap (kstB c.u [(Str.ofString "is_latin1", .int c.i1 c.t1), (Str.ofString "text", .bytes c.b1 c.t2), (Str.ofString "captures", .ref c.n1), (Str.ofString "rewrite", .bytes c.b2 c.t3), (Str.ofString "out", .bytes c.b3 c.t4)])) (N : News c.g c.L c.s.heap [(c.n1, listOf c.v1.toArray c.n2)]) (cont : ∀ (u : Str → Option Value) (h : Heap) (tk : Nat), Fr c.g c.L h (kstB u [(Str.ofString "is_latin1", .int c.i1 c.t1), (Str.ofString "text", .bytes c.b1 c.t2), (Str.ofString "captures", .ref c.n1), (Str.ofString "out", .bytes c.b3 c.t4)]) → News c.g c.L h [(c.n1, listOf c.v1.toArray c.n2)] → wpAny (lawM c.w) (callerA.deeper (lawEnv c.L c.la c.lcd)) (execs c.rest (lawEnv c.L c.la c.lcd)) c.Q (fun _ _ => False) { c.s with heap := h, toks := tk }) , wpAny (lawM c.w) (callerA.deeper (lawEnv c.L c.la c.lcd)) (execs (lawStmt 11 :: lawStmt 12 :: c.rest) (lawEnv c.L c.la c.lcd)) c.Q (fun _ _ => False) c.s
@[irreducible] noncomputable def law_i_c : Lx := pick lx_some law_i_P
theorem law_i_t1 : law_i_P law_i_c := by
  intro H hrb hz hmost F N cont
  obtain ⟨B, X, T⟩ := H
  have loops := myLoops
  have calls := myCalls
  dsimp only [kstB] at F
  (((rename Frag.In _ _ => X9); revert X9; dsimp only [lawM]; k_fill; intro X9; (conv in (occs := *) (lawStmt _) => all_goals whnf); (dsimp only [lawEnv]; (conv in (occs := *) lawScope => all_goals whnf))))
  (repeat' (first | (k_unfold; (try dsimp only)) | walk1 | (dsimp only; walk1) | (leave1; (try dsimp only)) | (refine Held.go ?_; first | ((with_reducible show wpAny _ _ (call (Value.ref _) _) _ _ _); first | ((k_here; (k_dflt refine' ctn_use (read_ok ⟨_, rfl⟩ _ _ _ _ _ _ _ _ _ _ ?hks ?hz ?g0 ?g1) ?k1 ?k2 ?k3 ?k4 ?k5 ?kK ?kd ?ku ?kp ?_); (((case k1 => k_asm); (case k2 => k_asm); (case k3 => k_asm); (case k4 => k_asm); (case k5 => k_asm); (case kK => first | exact rfl | assumption); (case kd => first | exact room2 (by assumption) rfl | ktr_room); (case ku => first | exact unit2 (by assumption) rfl | ktr_units))); (case hks => kba_ints); (case hz => first | assumption | omega); (case g0 => first | assumption | omega); (case g1 => first | assumption | omega); (case kp => trivial); (intro v9 new9 h9 tk9 R9 F9 N9 l9); (refine Or.elim R9 ?ra ?rb <;> clear R9 <;> intro R9); (case' ra => (obtain ⟨q9, q9', e9⟩ := R9); (subst q9 q9'); (try dsimp only); (try simp only [List.nil_append] at N9); clear l9; (try k_fold)); (case' rb => (obtain ⟨D9, arr9, n9, ps9, q9, q9', p9, e9, z9⟩ := R9); (subst q9 q9'); (try dsimp only); (try simp only [List.singleton_append, List.cons_append, List.nil_append] at N9); (replace l9 := fun p hp => l9 p hp _ (List.mem_singleton.mpr rfl)); (k_lt l9); (try k_fold)))) | ((k_here; (k_dflt refine' ctv_use (rmost_ok ⟨_, rfl⟩ _ _ _ _ _ _ _ ?hks ?hz) ?k1 ?k2 ?k3 ?k4 ?k5 ?kK ?kd ?ku ?kp ?_); (((case k1 => k_asm); (case k2 => k_asm); (case k3 => k_asm); (case k4 => k_asm); (case k5 => k_asm); (case kK => first | exact rfl | assumption); (case kd => first | exact room2 (by assumption) rfl | ktr_room); (case ku => first | exact unit2 (by assumption) rfl | ktr_units))); (case hks => kba_ints); (case hz => first | assumption | omega); (case kp => trivial); (((intro t9 h9 tk9 F9 N9); (try dsimp only); (try k_fold)))))))))
  · refine Held.go ?_
    (rename Fr _ _ _ _ => F9); (rename News _ _ _ _ => N9); (rename PcsAre _ _ => hps); (rename readR _ _ _ _ = some _ => hre); (rename Array.size _ ≤ law_i_c.k1.length => hsz)
    obtain ⟨hm1, hm2⟩ := hmost _ hre
    k_dflt refine' LCt.ListComp_T (F₀ := by k_asm) ?a1 ?a2 ?a3 ?a4 ?a5 ?_
    case a1 => rfl
    case a2 => decide
    case a3 => rfl
    case a4 => decide
    case a5 => rfl
    iterate 12 (try (first | walk1 | (dsimp only; walk1)))
    (obtain ⟨ps, hps, hre, hm1, hm2⟩ : ∃ ps, PcsAre (Array.toList _) ps ∧ readR 10 law_i_c.k1 false [] = some ps ∧ mostL law_i_c.k1 0 ∈ [0] ++ figs ps ∧ ∀ x ∈ [0] ++ figs ps, x ≤ mostL law_i_c.k1 0 := ⟨_, hps, hre, hm1, hm2⟩)
    refine LCt.CompSrcT.ledger (by rfl) F9 N9 (by k_mem) (by rw [sizeLine_eq]; omega) ?_
    intro g'
    refine comp_turnsT (n := _) (fun i ys => IntsAre ys (figs (ps.take i))) ?step ?fin _ 0 [] (Nat.zero_add _) .nil
    case step =>
      intro i v ys I oI C oC D m₂ h tk E' hin hInv hP hN hm F N off ne
      obtain ⟨p, hp, hv⟩ := PcsAre.at hps (i := i) (v := v) (by rw [Array.getElem?_toList]; exact hP)
      have htk : ps.take (i + 1) = ps.take i ++ [p] := by rw [List.take_add_one, hp]; rfl
      have hfg := figs_snoc (ps.take i) p
      rw [← htk] at hfg
      rcases p with l0 | gn
      · obtain ⟨bv, tv, rfl, hbv⟩ : ∃ bv tv, v = .bytes bv tv ∧ KBw.bInts bv = l0 := by
          cases v <;> first | exact hv.elim | exact ⟨_, _, rfl, hv⟩
        (repeat' (first | (k_unfold; (try dsimp only)) | walk1 | (dsimp only; walk1) | (leave1; (try dsimp only)) | (refine Held.go ?_; first | ((with_reducible show wpAny _ _ (call (Value.ref _) _) _ _ _); first | ((k_here; (k_dflt refine' ctn_use (read_ok ⟨_, rfl⟩ _ _ _ _ _ _ _ _ _ _ ?hks ?hz ?g0 ?g1) ?k1 ?k2 ?k3 ?k4 ?k5 ?kK ?kd ?ku ?kp ?_); (((case k1 => k_asm); (case k2 => k_asm); (case k3 => k_asm); (case k4 => k_asm); (case k5 => k_asm); (case kK => first | exact rfl | assumption); (case kd => first | exact room2 (by assumption) rfl | ktr_room); (case ku => first | exact unit2 (by assumption) rfl | ktr_units))); (case hks => kba_ints); (case hz => first | assumption | omega); (case g0 => first | assumption | omega); (case g1 => first | assumption | omega); (case kp => trivial); (intro v9 new9 h9 tk9 R9 F9 N9 l9); (refine Or.elim R9 ?ra ?rb <;> clear R9 <;> intro R9); (case' ra => (obtain ⟨q9, q9', e9⟩ := R9); (subst q9 q9'); (try dsimp only); (try simp only [List.nil_append] at N9); clear l9; (try k_fold)); (case' rb => (obtain ⟨D9, arr9, n9, ps9, q9, q9', p9, e9, z9⟩ := R9); (subst q9 q9'); (try dsimp only); (try simp only [List.singleton_append, List.cons_append, List.nil_append] at N9); (replace l9 := fun p hp => l9 p hp _ (List.mem_singleton.mpr rfl)); (k_lt l9); (try k_fold)))) | ((k_here; (k_dflt refine' ctv_use (rmost_ok ⟨_, rfl⟩ _ _ _ _ _ _ _ ?hks ?hz) ?k1 ?k2 ?k3 ?k4 ?k5 ?kK ?kd ?ku ?kp ?_); (((case k1 => k_asm); (case k2 => k_asm); (case k3 => k_asm); (case k4 => k_asm); (case k5 => k_asm); (case kK => first | exact rfl | assumption); (case kd => first | exact room2 (by assumption) rfl | ktr_room); (case ku => first | exact unit2 (by assumption) rfl | ktr_units))); (case hks => kba_ints); (case hz => first | assumption | omega); (case kp => trivial); (((intro t9 h9 tk9 F9 N9); (try dsimp only); (try k_fold)))))))))
        refine LCg.CompEnd.intro F N _ (fun p hp => hp) off (Or.inr ⟨_, .tail _ (.head _), rfl, _, rfl⟩) ⟨rfl, ?_⟩
        rw [hfg]
        show IntsAre ys (_ ++ [])
        rw [List.append_nil]
        exact hInv
      · obtain ⟨tv, rfl⟩ : ∃ tv, v = .int gn tv := by
          cases v <;> first | exact hv.elim | (obtain rfl : _ = gn := hv; exact ⟨_, rfl⟩)
        (repeat' (first | (k_unfold; (try dsimp only)) | walk1 | (dsimp only; walk1) | (leave1; (try dsimp only)) | (refine Held.go ?_; first | ((with_reducible show wpAny _ _ (call (Value.ref _) _) _ _ _); first | ((k_here; (k_dflt refine' ctn_use (read_ok ⟨_, rfl⟩ _ _ _ _ _ _ _ _ _ _ ?hks ?hz ?g0 ?g1) ?k1 ?k2 ?k3 ?k4 ?k5 ?kK ?kd ?ku ?kp ?_); (((case k1 => k_asm); (case k2 => k_asm); (case k3 => k_asm); (case k4 => k_asm); (case k5 => k_asm); (case kK => first | exact rfl | assumption); (case kd => first | exact room2 (by assumption) rfl | ktr_room); (case ku => first | exact unit2 (by assumption) rfl | ktr_units))); (case hks => kba_ints); (case hz => first | assumption | omega); (case g0 => first | assumption | omega); (case g1 => first | assumption | omega); (case kp => trivial); (intro v9 new9 h9 tk9 R9 F9 N9 l9); (refine Or.elim R9 ?ra ?rb <;> clear R9 <;> intro R9); (case' ra => (obtain ⟨q9, q9', e9⟩ := R9); (subst q9 q9'); (try dsimp only); (try simp only [List.nil_append] at N9); clear l9; (try k_fold)); (case' rb => (obtain ⟨D9, arr9, n9, ps9, q9, q9', p9, e9, z9⟩ := R9); (subst q9 q9'); (try dsimp only); (try simp only [List.singleton_append, List.cons_append, List.nil_append] at N9); (replace l9 := fun p hp => l9 p hp _ (List.mem_singleton.mpr rfl)); (k_lt l9); (try k_fold)))) | ((k_here; (k_dflt refine' ctv_use (rmost_ok ⟨_, rfl⟩ _ _ _ _ _ _ _ ?hks ?hz) ?k1 ?k2 ?k3 ?k4 ?k5 ?kK ?kd ?ku ?kp ?_); (((case k1 => k_asm); (case k2 => k_asm); (case k3 => k_asm); (case k4 => k_asm); (case k5 => k_asm); (case kK => first | exact rfl | assumption); (case kd => first | exact room2 (by assumption) rfl | ktr_room); (case ku => first | exact unit2 (by assumption) rfl | ktr_units))); (case hks => kba_ints); (case hz => first | assumption | omega); (case kp => trivial); (((intro t9 h9 tk9 F9 N9); (try dsimp only); (try k_fold)))))))))
        refine LCg.CompEnd.intro F N _ (fun p hp => hp) off (Or.inr ⟨_, .tail _ (.head _), rfl, _, rfl⟩) ⟨rfl, ?_⟩
        rw [hfg]
        exact hInv.append (.cons _ _ .nil)
    case fin =>
      intro ys hInv D h tk F N off
      have hlp := hps.length
      rw [Array.length_toList] at hlp
      rw [hlp, List.take_length] at hInv
      replace N : News law_i_c.g law_i_c.L h ((D, listOf ys.toArray ys.length) :: _) := N
      have hfz : (figs ps).length ≤ 20 := Nat.le_trans (List.length_filterMap_le _ _) (by omega)
      have hyz : ys.length ≤ 20 := by rw [hInv.length]; exact hfz
      (try dsimp only)
      (repeat' (first | (k_unfold; (try dsimp only)) | walk1 | (dsimp only; walk1) | (leave1; (try dsimp only)) | (refine Held.go ?_; first | ((with_reducible show wpAny _ _ (call (Value.ref _) _) _ _ _); first | ((k_here; (k_dflt refine' ctn_use (read_ok ⟨_, rfl⟩ _ _ _ _ _ _ _ _ _ _ ?hks ?hz ?g0 ?g1) ?k1 ?k2 ?k3 ?k4 ?k5 ?kK ?kd ?ku ?kp ?_); (((case k1 => k_asm); (case k2 => k_asm); (case k3 => k_asm); (case k4 => k_asm); (case k5 => k_asm); (case kK => first | exact rfl | assumption); (case kd => first | exact room2 (by assumption) rfl | ktr_room); (case ku => first | exact unit2 (by assumption) rfl | ktr_units))); (case hks => kba_ints); (case hz => first | assumption | omega); (case g0 => first | assumption | omega); (case g1 => first | assumption | omega); (case kp => trivial); (intro v9 new9 h9 tk9 R9 F9 N9 l9); (refine Or.elim R9 ?ra ?rb <;> clear R9 <;> intro R9); (case' ra => (obtain ⟨q9, q9', e9⟩ := R9); (subst q9 q9'); (try dsimp only); (try simp only [List.nil_append] at N9); clear l9; (try k_fold)); (case' rb => (obtain ⟨D9, arr9, n9, ps9, q9, q9', p9, e9, z9⟩ := R9); (subst q9 q9'); (try dsimp only); (try simp only [List.singleton_append, List.cons_append, List.nil_append] at N9); (replace l9 := fun p hp => l9 p hp _ (List.mem_singleton.mpr rfl)); (k_lt l9); (try k_fold)))) | ((k_here; (k_dflt refine' ctv_use (rmost_ok ⟨_, rfl⟩ _ _ _ _ _ _ _ ?hks ?hz) ?k1 ?k2 ?k3 ?k4 ?k5 ?kK ?kd ?ku ?kp ?_); (((case k1 => k_asm); (case k2 => k_asm); (case k3 => k_asm); (case k4 => k_asm); (case k5 => k_asm); (case kK => first | exact rfl | assumption); (case kd => first | exact room2 (by assumption) rfl | ktr_room); (case ku => first | exact unit2 (by assumption) rfl | ktr_units))); (case hks => kba_ints); (case hz => first | assumption | omega); (case kp => trivial); (((intro t9 h9 tk9 F9 N9); (try dsimp only); (try k_fold)))))))))
      · (rename mostL law_i_c.k1 0 ≠ _ => hne); (rename _ ∈ [0] ++ figs ps => ha); (rename ∀ a, a ∈ [0] ++ figs ps → a ≤ _ => hb)
        exact absurd (Int.le_antisymm (hb _ hm1) (hm2 _ ha)) hne
      · (rename Fr _ _ _ _ => F9); (rename News _ _ _ _ => N9)
        exact cont _ _ _ (fr_named F9 (by kst_all)) (keepN N9 (by k_mem) keepN0)
  · exact cont _ _ _ (fr_named (by assumption) (by kst_all)) (by assumption)
theorem law_i (r : Rw) (w : World) (mean : ExcName → Option Value) (mg mb : Str → Option Value) (g : Heap) (L la : Addr) (lcd : Value) (u : Str → Option Value) (s : Shared) (Q : Flow → Shared → Prop) (rest : List Stmt) (H : LawAt w mean mg mb g)
    (P : Nat) (cv : List Value) (k : Nat) (lat : Int) (t₁ t₄ t₅ t₇ : Tok) (tb rb ob : Array UInt8) (rs : List Int) (hrb : KBw.bInts rb = rs) (hz : rs.length ≤ 20)
    (hmost : ∀ ps, readR 10 rs false [] = some ps → mostL rs 0 ∈ [0] ++ figs ps ∧ ∀ x ∈ [0] ++ figs ps, x ≤ mostL rs 0)
    (F : Fr g L s.heap (kstB u [(Str.ofString "is_latin1", .int lat t₁), (Str.ofString "text", .bytes tb t₄), (Str.ofString "captures", .ref P), (Str.ofString "rewrite", .bytes rb t₅), (Str.ofString "out", .bytes ob t₇)])) (N : News g L s.heap [(P, listOf cv.toArray k)])
    (cont : ∀ (u : Str → Option Value) (h : Heap) (tk : Nat), Fr g L h (kstB u [(Str.ofString "is_latin1", .int lat t₁), (Str.ofString "text", .bytes tb t₄), (Str.ofString "captures", .ref P), (Str.ofString "out", .bytes ob t₇)]) → News g L h [(P, listOf cv.toArray k)] → wpAny (lawM w) (callerA.deeper (lawEnv L la lcd)) (execs rest (lawEnv L la lcd)) Q (fun _ _ => False) { s with heap := h, toks := tk }) :
    wpAny (lawM w) (callerA.deeper (lawEnv L la lcd)) (execs (lawStmt 11 :: lawStmt 12 :: rest) (lawEnv L la lcd)) Q (fun _ _ => False) s := by
  exact pick_all (ne := lx_some) (by with_unfolding_all rfl) law_i_t1 { lx0 with w := w, mean := mean, mg := mg, mb := mb, g := g, L := L, la := la, lcd := lcd, u := u, s := s, Q := Q, rest := rest, n1 := P, v1 := cv, n2 := k, i1 := lat, t1 := t₁, t2 := t₄, t3 := t₅, t4 := t₇, b1 := tb, b2 := rb, b3 := ob, k1 := rs } H hrb hz hmost F N cont
-- part M7
def dblL (ks : List Int) : List Int := ks.flatMap fun o => if o = 92 then [92, 92] else [o]
theorem dblL_snoc (ks : List Int) (o : Int) : dblL (ks ++ [o]) = dblL ks ++ (if o = 92 then [92, 92] else [o]) := by simp [dblL]
theorem dblL_length : ∀ ks : List Int, (dblL ks).length ≤ 2 * ks.length
  | [] => Nat.le_refl _
  | o :: r => by
    have h := dblL_length r
    unfold dblL at h ⊢
    rw [List.flatMap_cons, List.length_append, List.length_cons]
    have : (if o = 92 then [(92 : Int), 92] else [o]).length ≤ 2 := by split <;> simp
    omega
def law_j_P (c : Lx) : Prop := ∀ (H : LawAt c.w c.mean c.mg c.mb c.g) (hcap : IntsAre c.v1 c.k1) (hcl : c.k1.length ≤ 100) (htb : KBw.bInts c.b1 = c.k2) (hz2 : c.k2.length ≤ 8) (hob : KBw.bInts c.b2 = c.k3) (hoz : c.k3.length ≤ 200) (hdbl : rewSem (dblL c.k3) c.k2 c.k1 = some c.k3) (F : Fr c.g c.L c.s.heap (kstB c.u [(Str.ofString "is_latin1", .int c.i1 c.t1), (Str.ofString "text", .bytes c.b1 c.t2), (Str.ofString "captures", .ref c.n1), (Str.ofString "out", .bytes c.b2 c.t3)])) (N : News c.g c.L c.s.heap [(c.n1, listOf c.v1.toArray c.n2)]) (cont : ∀ (u : Str → Option Value) (h : Heap) (tk : Nat), Fr c.g c.L h (kstB u [(Str.ofString "is_latin1", .int c.i1 c.t1), (Str.ofString "out", .bytes c.b2 c.t3)]) → News c.g c.L h [] → wpAny (lawM c.w) (callerA.deeper (lawEnv c.L c.la c.lcd)) (execs c.rest (lawEnv c.L c.la c.lcd)) c.Q (fun _ _ => False) { c.s with heap := h, toks := tk }) , wpAny (lawM c.w) (callerA.deeper (lawEnv c.L c.la c.lcd)) (execs (lawStmt 13 :: c.rest) (lawEnv c.L c.la c.lcd)) c.Q (fun _ _ => False) c.s
@[irreducible] noncomputable def law_j_c : Lx := pick lx_some law_j_P
theorem law_j_t1 : law_j_P law_j_c := by
  intro H hcap hcl htb hz2 hob hoz hdbl F N cont
  obtain ⟨B, X, T⟩ := H
  have loops := myLoops
  have calls := myCalls
  dsimp only [kstB] at F
  (((rename Frag.In _ _ => X9); revert X9; dsimp only [lawM]; k_fill; intro X9; (conv in (occs := *) (lawStmt _) => all_goals whnf); (dsimp only [lawEnv]; (conv in (occs := *) lawScope => all_goals whnf))))
  (repeat' (first | (k_unfold; (try dsimp only)) | walk1 | (dsimp only; walk1) | (leave1; (try dsimp only)) | (refine Held.go ?_; first | ((with_reducible show wpAny _ _ (call (Value.ref _) _) _ _ _); first | ((k_here; (k_dflt refine' ctn0_use (ctn0_mem (lrewr_ok ⟨_, rfl⟩ _ _ _ _ _ _ _ _ _ _ _ _ _ _ _ ?hks ?htx ?hz ?hz2 ?hcap ?hcl ?hout) ?m1) ?k1 ?k2 ?k3 ?k4 ?k5 ?kK ?kd ?ku ?_); (((case k1 => k_asm); (case k2 => k_asm); (case k3 => k_asm); (case k4 => k_asm); (case k5 => k_asm); (case kK => first | exact rfl | assumption); (case kd => first | exact room2 (by assumption) rfl | ktr_room); (case ku => first | exact unit2 (by assumption) rfl | ktr_units))); (case m1 => k_dflt k_mem); (case hks => kba_ints); (case htx => kba_ints); (case hz => first | assumption | omega); (case hz2 => first | assumption | omega); (case hcap => assumption); (case hcl => first | assumption | omega); (case hout => assumption); (intro v9 new9 h9 tk9 R9 F9 N9 l9); (obtain ⟨q9, R9⟩ := R9); (subst q9); (replace R9 := show Told _ _ from R9); (try dsimp only); (try simp only [List.nil_append] at N9); clear l9; (try k_fold)))))))
  refine Held.go ?_
  k_dflt refine' ListComp_B (F₀ := by k_asm) ?a1 ?a2 ?a3 ?a4 ?a5 ?_
  case a1 => rfl
  case a2 => decide
  case a3 => rfl
  case a4 => decide
  case a5 => rfl
  iterate 12 (try (first | walk1 | (dsimp only; walk1)))
  refine CompSrcB.intro rfl (by k_asm) (by k_asm) hob (by omega) ?_
  intro g'
  refine comp_turns (n := _) (fun i ys => Cat ys.toArray (dblL (law_j_c.k3.take i))) ?step ?fin _ 0 [] (Nat.zero_add _) Cat.nil
  case step =>
    rintro i v ys I oI C oC D m₂ h tk E' hin hInv ⟨n, un, hn, hn0, hn1, rfl⟩ hNs hm F N off ne
    have htk : law_j_c.k3.take (i + 1) = law_j_c.k3.take i ++ [n] := by rw [List.take_add_one, hn]; rfl
    have hdn := dblL_snoc (law_j_c.k3.take i) n
    rw [← htk] at hdn
    (repeat' (first | (k_unfold; (try dsimp only)) | walk1 | (dsimp only; walk1) | (leave1; (try dsimp only)) | (refine Held.go ?_; first | ((with_reducible show wpAny _ _ (call (Value.ref _) _) _ _ _); first | ((k_here; (k_dflt refine' ctn0_use (ctn0_mem (lrewr_ok ⟨_, rfl⟩ _ _ _ _ _ _ _ _ _ _ _ _ _ _ _ ?hks ?htx ?hz ?hz2 ?hcap ?hcl ?hout) ?m1) ?k1 ?k2 ?k3 ?k4 ?k5 ?kK ?kd ?ku ?_); (((case k1 => k_asm); (case k2 => k_asm); (case k3 => k_asm); (case k4 => k_asm); (case k5 => k_asm); (case kK => first | exact rfl | assumption); (case kd => first | exact room2 (by assumption) rfl | ktr_room); (case ku => first | exact unit2 (by assumption) rfl | ktr_units))); (case m1 => k_dflt k_mem); (case hks => kba_ints); (case htx => kba_ints); (case hz => first | assumption | omega); (case hz2 => first | assumption | omega); (case hcap => assumption); (case hcl => first | assumption | omega); (case hout => assumption); (intro v9 new9 h9 tk9 R9 F9 N9 l9); (obtain ⟨q9, R9⟩ := R9); (subst q9); (replace R9 := show Told _ _ from R9); (try dsimp only); (try simp only [List.nil_append] at N9); clear l9; (try k_fold)))))))
    · refine LCg.CompEnd.intro F N _ (fun p hp => hp) off trivial ⟨rfl, ?_⟩
      rw [hdn, if_pos (by assumption), ← List.push_toArray]
      exact hInv.push rfl
    · (rename Fr _ _ _ _ => F9); (rename News _ _ _ _ => N9)
      refine LCg.CompEnd.intro F9 (News_tl N9) _ (fun p hp => hp) off trivial ⟨rfl, ?_⟩
      rw [hdn, if_neg (by assumption), ← List.push_toArray]
      exact hInv.push (bl1 hn0 hn1)
  case fin =>
    intro ys hInv D h tk F N off
    rw [List.take_length] at hInv
    obtain ⟨hJ, hJl⟩ := hInv
    have hdz := dblL_length law_j_c.k3
    have hJz : (ys.toArray.toList.flatMap fun v => KBw.bInts (payOf v)).length ≤ 100000 := by rw [hJl]; omega
    have hsem : rewSem (ys.toArray.toList.flatMap fun v => KBw.bInts (payOf v)) law_j_c.k2 law_j_c.k1 = some law_j_c.k3 := by rw [hJl]; exact hdbl
    have hout : ∀ l, rewSem (ys.toArray.toList.flatMap fun v => KBw.bInts (payOf v)) law_j_c.k2 law_j_c.k1 = some l → l.length ≤ 100000 := fun l e => by
      rw [hsem] at e
      rw [← Option.some.inj e]
      omega
    replace N : News law_j_c.g law_j_c.L h [(D, listOf ys.toArray ys.length), _] := N
    (try dsimp only)
    (repeat' (first | (k_unfold; (try dsimp only)) | walk1 | (dsimp only; walk1) | (leave1; (try dsimp only)) | (refine Held.go ?_; first | ((with_reducible show wpAny _ _ (call (Value.ref _) _) _ _ _); first | ((k_here; (k_dflt refine' ctn0_use (ctn0_mem (lrewr_ok ⟨_, rfl⟩ _ _ _ _ _ _ _ _ _ _ _ _ _ _ _ ?hks ?htx ?hz ?hz2 ?hcap ?hcl ?hout) ?m1) ?k1 ?k2 ?k3 ?k4 ?k5 ?kK ?kd ?ku ?_); (((case k1 => k_asm); (case k2 => k_asm); (case k3 => k_asm); (case k4 => k_asm); (case k5 => k_asm); (case kK => first | exact rfl | assumption); (case kd => first | exact room2 (by assumption) rfl | ktr_room); (case ku => first | exact unit2 (by assumption) rfl | ktr_units))); (case m1 => k_dflt k_mem); (case hks => kba_ints); (case htx => kba_ints); (case hz => first | assumption | omega); (case hz2 => first | assumption | omega); (case hcap => assumption); (case hcl => first | assumption | omega); (case hout => assumption); (intro v9 new9 h9 tk9 R9 F9 N9 l9); (obtain ⟨q9, R9⟩ := R9); (subst q9); (replace R9 := show Told _ _ from R9); (try dsimp only); (try simp only [List.nil_append] at N9); clear l9; (try k_fold)))))))
    (rename Told _ _ => R9)
    rw [hsem] at R9
    rcases R9 with ⟨_, e⟩ | ⟨b', t', l', rfl, hb', e⟩
    · exact nomatch e
    obtain rfl := Option.some.inj e
    have hsame : (b'.toList != law_j_c.b2.toList) = false := bne_eq (bInts_inj (hb'.trans hob.symm))
    (repeat' (first | (k_unfold; (try dsimp only)) | walk1 | (dsimp only; walk1) | (leave1; (try dsimp only)) | (refine Held.go ?_; first | ((with_reducible show wpAny _ _ (call (Value.ref _) _) _ _ _); first | ((k_here; (k_dflt refine' ctn0_use (ctn0_mem (lrewr_ok ⟨_, rfl⟩ _ _ _ _ _ _ _ _ _ _ _ _ _ _ _ ?hks ?htx ?hz ?hz2 ?hcap ?hcl ?hout) ?m1) ?k1 ?k2 ?k3 ?k4 ?k5 ?kK ?kd ?ku ?_); (((case k1 => k_asm); (case k2 => k_asm); (case k3 => k_asm); (case k4 => k_asm); (case k5 => k_asm); (case kK => first | exact rfl | assumption); (case kd => first | exact room2 (by assumption) rfl | ktr_room); (case ku => first | exact unit2 (by assumption) rfl | ktr_units))); (case m1 => k_dflt k_mem); (case hks => kba_ints); (case htx => kba_ints); (case hz => first | assumption | omega); (case hz2 => first | assumption | omega); (case hcap => assumption); (case hcl => first | assumption | omega); (case hout => assumption); (intro v9 new9 h9 tk9 R9 F9 N9 l9); (obtain ⟨q9, R9⟩ := R9); (subst q9); (replace R9 := show Told _ _ from R9); (try dsimp only); (try simp only [List.nil_append] at N9); clear l9; (try k_fold)))))))
    (rename Fr _ _ _ _ => F9)
    exact cont _ _ _ (fr_named F9 (by kst_all)) keepN0
theorem law_j (r : Rw) (w : World) (mean : ExcName → Option Value) (mg mb : Str → Option Value) (g : Heap) (L la : Addr) (lcd : Value) (u : Str → Option Value) (s : Shared) (Q : Flow → Shared → Prop) (rest : List Stmt) (H : LawAt w mean mg mb g)
    (P : Nat) (cv : List Value) (k : Nat) (lat : Int) (t₁ t₄ t₇ : Tok) (tb ob : Array UInt8) (caps text os : List Int) (hcap : IntsAre cv caps) (hcl : caps.length ≤ 100) (htb : KBw.bInts tb = text) (hz2 : text.length ≤ 8) (hob : KBw.bInts ob = os) (hoz : os.length ≤ 200)
    (hdbl : rewSem (dblL os) text caps = some os)
    (F : Fr g L s.heap (kstB u [(Str.ofString "is_latin1", .int lat t₁), (Str.ofString "text", .bytes tb t₄), (Str.ofString "captures", .ref P), (Str.ofString "out", .bytes ob t₇)])) (N : News g L s.heap [(P, listOf cv.toArray k)])
    (cont : ∀ (u : Str → Option Value) (h : Heap) (tk : Nat), Fr g L h (kstB u [(Str.ofString "is_latin1", .int lat t₁), (Str.ofString "out", .bytes ob t₇)]) → News g L h [] → wpAny (lawM w) (callerA.deeper (lawEnv L la lcd)) (execs rest (lawEnv L la lcd)) Q (fun _ _ => False) { s with heap := h, toks := tk }) :
    wpAny (lawM w) (callerA.deeper (lawEnv L la lcd)) (execs (lawStmt 13 :: rest) (lawEnv L la lcd)) Q (fun _ _ => False) s := by
  exact pick_all (ne := lx_some) (by with_unfolding_all rfl) law_j_t1 { lx0 with w := w, mean := mean, mg := mg, mb := mb, g := g, L := L, la := la, lcd := lcd, u := u, s := s, Q := Q, rest := rest, n1 := P, v1 := cv, n2 := k, i1 := lat, t1 := t₁, t2 := t₄, t3 := t₇, b1 := tb, b2 := ob, k1 := caps, k2 := text, k3 := os } H hcap hcl htb hz2 hob hoz hdbl F N cont
-- part M8
def law_k_P (c : Lx) : Prop := ∀ (H : LawAt c.w c.mean c.mg c.mb c.g) (hob : KBw.bInts c.b1 = c.k1) (hoz : c.k1.length ≤ 200) (hS : ∀ j : Nat, j < c.k1.length → SignCase (c.i1 == 1) c.k1 j ((quoteL (c.k1.take j)).length : Int)) (F : Fr c.g c.L c.s.heap (kstB c.u [(Str.ofString "is_latin1", .int c.i1 c.t1), (Str.ofString "out", .bytes c.b1 c.t2)])) (N : News c.g c.L c.s.heap []) (contA : ∀ (u : Str → Option Value) (h : Heap) (tk : Nat) (D D' T : Addr) (vs vs' : List Value) (n n' : Nat) (t₈ : Tok), (runesL (c.i1 == 1) c.k1).2 < 0 → IntsAre vs (runesL (c.i1 == 1) c.k1).1 → IntsAre vs' (runesL (c.i1 == 1) c.k1).1 → Fr c.g c.L h (kstB u [(Str.ofString "is_latin1", .int c.i1 c.t1), (Str.ofString "out", .bytes c.b1 c.t2), (Str.ofString "runes", .ref D), (Str.ofString "wrong", .int (runesL (c.i1 == 1) c.k1).2 t₈), (Str.ofString "told", .ref T)]) → News c.g c.L h [tup T [.ref D', .none], (D', listOf vs'.toArray n'), (D, listOf vs.toArray n)] → wpAny (lawM c.w) (callerA.deeper (lawEnv c.L c.la c.lcd)) (execs c.rest (lawEnv c.L c.la c.lcd)) c.Q (fun _ _ => False) { c.s with heap := h, toks := tk }) (contB : ∀ (u : Str → Option Value) (h : Heap) (tk : Nat) (D D' T T' : Addr) (vs vs' : List Value) (n n' : Nat) (t₈ : Tok) (j : Nat) (b : Array UInt8) (t t' t'' : Tok), (runesL (c.i1 == 1) c.k1).2 = j → IntsAre vs (runesL (c.i1 == 1) c.k1).1 → IntsAre vs' (runesL (c.i1 == 1) c.k1).1 → KBw.bInts b = [c.k1.getD j 0] → Fr c.g c.L h (kstB u [(Str.ofString "is_latin1", .int c.i1 c.t1), (Str.ofString "out", .bytes c.b1 c.t2), (Str.ofString "runes", .ref D), (Str.ofString "wrong", .int (runesL (c.i1 == 1) c.k1).2 t₈), (Str.ofString "told", .ref T)]) → News c.g c.L h [tup T [.ref D', .ref T'], tup T' [.str (Str.ofString "bad utf-8") t, .bytes b t', .int ((quoteL (c.k1.take j)).length : Int) t''], (D', listOf vs'.toArray n'), (D, listOf vs.toArray n)] → wpAny (lawM c.w) (callerA.deeper (lawEnv c.L c.la c.lcd)) (execs c.rest (lawEnv c.L c.la c.lcd)) c.Q (fun _ _ => False) { c.s with heap := h, toks := tk }) , wpAny (lawM c.w) (callerA.deeper (lawEnv c.L c.la c.lcd)) (execs (lawStmt 14 :: lawStmt 15 :: c.rest) (lawEnv c.L c.la c.lcd)) c.Q (fun _ _ => False) c.s
@[irreducible] noncomputable def law_k_c : Lx := pick lx_some law_k_P
theorem law_k_t1 : law_k_P law_k_c := by
  intro H hob hoz hS F N contA contB
  obtain ⟨B, X, T⟩ := H
  have loops := myLoops
  have calls := myCalls
  dsimp only [kstB] at F
  (((rename Frag.In _ _ => X9); revert X9; dsimp only [lawM]; k_fill; intro X9; (conv in (occs := *) (lawStmt _) => all_goals whnf); (dsimp only [lawEnv]; (conv in (occs := *) lawScope => all_goals whnf))))
  (repeat' (first | (k_unfold; (try dsimp only)) | walk1 | (dsimp only; walk1) | (leave1; (try dsimp only)) | (refine Held.go ?_; first | ((with_reducible show wpAny _ _ (call (Value.ref _) _) _ _ _); first | ((k_here; (k_dflt refine' ctn_use (runes_ok ⟨_, rfl⟩ _ _ _ _ _ _ _ _ _ ?hks ?hz) ?k1 ?k2 ?k3 ?k4 ?k5 ?kK ?kd ?ku ?kp ?_); (((case k1 => k_asm); (case k2 => k_asm); (case k3 => k_asm); (case k4 => k_asm); (case k5 => k_asm); (case kK => first | exact rfl | assumption); (case kd => first | exact room2 (by assumption) rfl | ktr_room); (case ku => first | exact unit2 (by assumption) rfl | ktr_units))); (case hks => kba_ints); (case hz => omega); (case kp => trivial); (intro v9 new9 h9 tk9 R9 F9 N9 l9); (obtain ⟨T9, D9, vs9, n9, t9, q9, q9', I9⟩ := R9); (subst q9 q9'); (try dsimp only); (try simp only [List.cons_append, List.nil_append] at N9); clear l9; (try k_fold))) | ((k_here; (k_dflt refine' ctn0_use (quoted_ok ⟨_, rfl⟩ _ _ _ _ _ _ _ _ _ ?hks ?hz ?hS) ?k1 ?k2 ?k3 ?k4 ?k5 ?kK ?kd ?ku ?_); (((case k1 => k_asm); (case k2 => k_asm); (case k3 => k_asm); (case k4 => k_asm); (case k5 => k_asm); (case kK => first | exact rfl | assumption); (case kd => first | exact room2 (by assumption) rfl | ktr_room); (case ku => first | exact unit2 (by assumption) rfl | ktr_units))); (case hks => kba_ints); (case hz => omega); (case hS => assumption); (intro v9 new9 h9 tk9 R9 F9 N9 l9); clear l9; (refine Or.elim R9 ?ra ?rb <;> clear R9 <;> intro R9); (case' ra => ((obtain ⟨w9, T9, D9, vs9, n9, q9, q9', I9⟩ := R9); (subst q9 q9'); (try dsimp only); (try simp only [List.cons_append, List.nil_append] at N9); (try k_fold))); (case' rb => ((obtain ⟨j9, w9, T9, D9, vs9, n9, T9', t9, b9, t9', t9'', q9, q9', I9, e9⟩ := R9); (subst q9 q9'); (try dsimp only); (try simp only [List.cons_append, List.nil_append] at N9); (try k_fold)))))))))
  all_goals ((rename Fr _ _ _ _ => F9); (rename News _ _ _ _ => N9))
  · refine contB _ _ _ _ _ _ _ _ _ _ _ _ _ _ _ _ _ (by assumption) ?_ ?_ (by assumption) (fr_named F9 (by kst_all)) (keepN N9 (by k_mem) (keepN N9 (by k_mem) (keepN N9 (by k_mem) (keepN N9 (by k_mem) keepN0)))) <;> assumption
  · refine contA _ _ _ _ _ _ _ _ _ _ _ (by assumption) ?_ ?_ (fr_named F9 (by kst_all)) (keepN N9 (by k_mem) (keepN N9 (by k_mem) (keepN N9 (by k_mem) keepN0))) <;> assumption
theorem law_k (r : Rw) (w : World) (mean : ExcName → Option Value) (mg mb : Str → Option Value) (g : Heap) (L la : Addr) (lcd : Value) (u : Str → Option Value) (s : Shared) (Q : Flow → Shared → Prop) (rest : List Stmt) (H : LawAt w mean mg mb g)
    (lat : Int) (t₁ t₇ : Tok) (ob : Array UInt8) (os : List Int) (hob : KBw.bInts ob = os) (hoz : os.length ≤ 200) (hS : ∀ j : Nat, j < os.length → SignCase (lat == 1) os j ((quoteL (os.take j)).length : Int))
    (F : Fr g L s.heap (kstB u [(Str.ofString "is_latin1", .int lat t₁), (Str.ofString "out", .bytes ob t₇)])) (N : News g L s.heap [])
    (contA : ∀ (u : Str → Option Value) (h : Heap) (tk : Nat) (D D' T : Addr) (vs vs' : List Value) (n n' : Nat) (t₈ : Tok), (runesL (lat == 1) os).2 < 0 → IntsAre vs (runesL (lat == 1) os).1 → IntsAre vs' (runesL (lat == 1) os).1 → Fr g L h (kstB u [(Str.ofString "is_latin1", .int lat t₁), (Str.ofString "out", .bytes ob t₇), (Str.ofString "runes", .ref D), (Str.ofString "wrong", .int (runesL (lat == 1) os).2 t₈), (Str.ofString "told", .ref T)]) → News g L h [tup T [.ref D', .none], (D', listOf vs'.toArray n'), (D, listOf vs.toArray n)] → wpAny (lawM w) (callerA.deeper (lawEnv L la lcd)) (execs rest (lawEnv L la lcd)) Q (fun _ _ => False) { s with heap := h, toks := tk })
    (contB : ∀ (u : Str → Option Value) (h : Heap) (tk : Nat) (D D' T T' : Addr) (vs vs' : List Value) (n n' : Nat) (t₈ : Tok) (j : Nat) (b : Array UInt8) (t t' t'' : Tok), (runesL (lat == 1) os).2 = j → IntsAre vs (runesL (lat == 1) os).1 → IntsAre vs' (runesL (lat == 1) os).1 → KBw.bInts b = [os.getD j 0] → Fr g L h (kstB u [(Str.ofString "is_latin1", .int lat t₁), (Str.ofString "out", .bytes ob t₇), (Str.ofString "runes", .ref D), (Str.ofString "wrong", .int (runesL (lat == 1) os).2 t₈), (Str.ofString "told", .ref T)]) → News g L h [tup T [.ref D', .ref T'], tup T' [.str (Str.ofString "bad utf-8") t, .bytes b t', .int ((quoteL (os.take j)).length : Int) t''], (D', listOf vs'.toArray n'), (D, listOf vs.toArray n)] → wpAny (lawM w) (callerA.deeper (lawEnv L la lcd)) (execs rest (lawEnv L la lcd)) Q (fun _ _ => False) { s with heap := h, toks := tk }) :
    wpAny (lawM w) (callerA.deeper (lawEnv L la lcd)) (execs (lawStmt 14 :: lawStmt 15 :: rest) (lawEnv L la lcd)) Q (fun _ _ => False) s := by
  exact pick_all (ne := lx_some) (by with_unfolding_all rfl) law_k_t1 { lx0 with w := w, mean := mean, mg := mg, mb := mb, g := g, L := L, la := la, lcd := lcd, u := u, s := s, Q := Q, rest := rest, i1 := lat, t1 := t₁, t2 := t₇, b1 := ob, k1 := os } H hob hoz hS F N contA contB
-- part M9
theorem ctn_mem1 {w : World} {mean : ExcName → Option Value} {mg mb : Str → Option Value} {f : Addr} {d u : Nat} {news : Led} {vs : List Value} {pre : Prop} {Ret : Value → Led → Prop} {p : Addr × Obj}
    (H : CtN w mean mg mb f d u (p :: news) vs pre Ret) (hp : p ∈ news) : CtN w mean mg mb f d u news vs pre Ret := by
  intro _ _ _ _ _ _ _ _ _ _ _ _ _ _ _ _ _ B F X N T hk hd hu hpre hret
  refine H _ _ _ _ _ _ _ _ _ _ _ _ _ _ _ _ _ B F X (fun z hz => ?_) T hk hd hu hpre (fun v new h' tk' hR F' N' l => hret v new h' tk' hR F' (fun z hz => N' z ?_) fun z hz => l z (.tail _ hz))
  · rcases List.mem_cons.mp hz with rfl | hz
    · exact N _ hp
    · exact N _ hz
  · rcases List.mem_append.mp hz with hz | hz
    · exact List.mem_append_left _ hz
    · exact List.mem_append_right _ (.tail _ hz)
def encB (lat : Bool) (rs : List Int) : List Int := if lat = true then rs else rs.flatMap enc
theorem oor_any (r : Rw) (w : World) (mean : ExcName → Option Value) (mg mb : Str → Option Value) (rest : Led) (rl : Addr) (vs : List Value) (n : Nat) (lat : Bool) (rs : List Int) (hi : IntsAre vs rs) (hz : rs.length ≤ 20000) (hb : ∀ x ∈ rs, 0 ≤ x ∧ x < if lat = true then 256 else 1114112) :
    CtN w mean mg mb 161 8 80 ((rl, listOf vs.toArray n) :: rest) [.ref rl, .bool lat] True (fun v new => new = [] ∧ ∃ b' t', v = .bytes b' t' ∧ KBw.bInts b' = encB lat rs) := by
  cases lat with
  | true => exact oor_lat r w mean mg mb rest rl vs n rs hi (by omega) hb
  | false => exact oor_utf r w mean mg mb rest rl vs n rs hi hz hb
open PySem.Spec PyProof.V in
theorem eq_told {prog : Program} {w : World} {A : Around} {E : Value → Shared → Prop} {s : Shared} {h₀ : Heap} {L : Addr} {news : Led} {T U D D' : Addr} {vs vs' : List Value} {n n' : Nat} {rs : List Int} {Q : Value → Shared → Prop} (N : News h₀ L s.heap news)
    (hT : tup T [.ref D', .none] ∈ news) (hU : tup U [.ref D, .none] ∈ news) (hD' : (D', listOf vs'.toArray n') ∈ news) (hD : (D, listOf vs.toArray n) ∈ news) (hI : IntsAre vs rs) (hI' : IntsAre vs' rs) (hu : A.units + 64 < cLine) (h : Q (.bool true) s) :
    wpAny (model prog w) A (compareOp .Eq (.ref T) (.ref U)) Q E s := by
  have hs : SeqAt.shaped (.tuple [.list (rs.map PyData.int), .none]) = true := by
    simp [SeqAt.shaped, PyData.canLay0, PyData.canLayAll0, PyData.depth, PyData.depthAll, ke_canLayAll0, ke_depthAll]
  have he : PyData.eqv (.tuple [.list (rs.map PyData.int), .none]) (.tuple [.list (rs.map PyData.int), .none]) = true := by
    simp [PyData.eqv, PyData.eqvAll, ked_eqvAll]
  refine eq_dataH (reads_tuple_at (N _ hT).1 rfl rfl (ReadsAll.cons (reads_newData ⟨_, (N _ hD').1, rfl, _, rfl⟩ (ke_carried hI')) (ReadsAll.cons Reads.none ReadsAll.nil)))
    (reads_tuple_at (N _ hU).1 rfl rfl (ReadsAll.cons (reads_newData ⟨_, (N _ hD).1, rfl, _, rfl⟩ (ke_carried hI)) (ReadsAll.cons Reads.none ReadsAll.nil))) hs hs hu ?_
  rw [he]
  exact h
local macro_rules | `(tactic| walk_at "compareOp Eq ref ref") => `(tactic| ((with_reducible rename MyLoops => loops9); refine held ?_))
def law_l_P (c : Lx) : Prop := ∀ (H : LawAt c.w c.mean c.mg c.mb c.g) (hob : KBw.bInts c.b1 = c.k1) (hoz : c.k1.length ≤ 200) (hwr : c.i2 < 0) (hrz : c.k2.length ≤ 200) (hI : IntsAre c.v1 c.k2) (hI' : IntsAre c.v2 c.k2) (hrb : ∀ x ∈ c.k2, 0 ≤ x ∧ x < if (c.i1 == 1) = true then 256 else 1114112) (henc : encB (c.i1 == 1) c.k2 = c.k1) (F : Fr c.g c.L c.s.heap (kstB c.u [(Str.ofString "is_latin1", .int c.i1 c.t1), (Str.ofString "out", .bytes c.b1 c.t2), (Str.ofString "runes", .ref c.a1), (Str.ofString "wrong", .int c.i2 c.t3), (Str.ofString "told", .ref c.a3)])) (N : News c.g c.L c.s.heap [tup c.a3 [.ref c.a2, .none], (c.a2, listOf c.v2.toArray c.n2), (c.a1, listOf c.v1.toArray c.n1)]) (hQ : ∀ h tk, (∀ x o, c.g.get? x = some o → h.get? x = some o) → c.Q (.ret (.bool true)) { c.s with heap := h, toks := tk }) , wpAny (lawM c.w) (callerA.deeper (lawEnv c.L c.la c.lcd)) (execs (lawStmt 16 :: c.rest) (lawEnv c.L c.la c.lcd)) c.Q (fun _ _ => False) c.s
@[irreducible] noncomputable def law_l_c : Lx := pick lx_some law_l_P
theorem law_l_t1 : law_l_P law_l_c := by
  intro H hob hoz hwr hrz hI hI' hrb henc F N hQ
  obtain ⟨B, X, Tq⟩ := H
  have loops := myLoops
  have calls := myCalls
  dsimp only [kstB] at F
  (((rename Frag.In _ _ => X9); revert X9; dsimp only [lawM]; k_fill; intro X9; (conv in (occs := *) (lawStmt _) => all_goals whnf); (dsimp only [lawEnv]; (conv in (occs := *) lawScope => all_goals whnf))))
  (repeat' (first | (k_unfold; (try dsimp only)) | walk1 | (dsimp only; walk1) | (leave1; (try dsimp only)) | (refine Held.go ?_; first | ((with_reducible show wpAny _ _ (call (Value.ref _) _) _ _ _); first | ((k_here; (k_dflt refine' ctn_use (ctn_mem1 (oor_any ⟨_, rfl⟩ _ _ _ _ _ _ _ _ _ _ ?hi ?hz ?hb) ?m1) ?k1 ?k2 ?k3 ?k4 ?k5 ?kK ?kd ?ku ?kp ?_); (((case k1 => k_asm); (case k2 => k_asm); (case k3 => k_asm); (case k4 => k_asm); (case k5 => k_asm); (case kK => first | exact rfl | assumption); (case kd => first | exact room2 (by assumption) rfl | ktr_room); (case ku => first | exact unit2 (by assumption) rfl | ktr_units))); (case m1 => k_dflt k_mem); (case hi => assumption); (case hz => first | assumption | omega); (case hb => assumption); (case kp => trivial); (intro v9 new9 h9 tk9 R9 F9 N9 l9); (obtain ⟨q9, b9, t9, q9', e9⟩ := R9); (subst q9 q9'); (try dsimp only); (try simp only [List.nil_append] at N9); clear l9; (try k_fold)))))))
  refine Held.go ?_
  (rename News _ _ _ _ => N9)
  refine eq_told N9 (by k_mem) (by k_mem) (by k_mem) (by k_mem) hI hI' (by units_room) ?_
  (try dsimp only)
  (repeat' (first | (k_unfold; (try dsimp only)) | walk1 | (dsimp only; walk1) | (leave1; (try dsimp only)) | (refine Held.go ?_; first | ((with_reducible show wpAny _ _ (call (Value.ref _) _) _ _ _); first | ((k_here; (k_dflt refine' ctn_use (ctn_mem1 (oor_any ⟨_, rfl⟩ _ _ _ _ _ _ _ _ _ _ ?hi ?hz ?hb) ?m1) ?k1 ?k2 ?k3 ?k4 ?k5 ?kK ?kd ?ku ?kp ?_); (((case k1 => k_asm); (case k2 => k_asm); (case k3 => k_asm); (case k4 => k_asm); (case k5 => k_asm); (case kK => first | exact rfl | assumption); (case kd => first | exact room2 (by assumption) rfl | ktr_room); (case ku => first | exact unit2 (by assumption) rfl | ktr_units))); (case m1 => k_dflt k_mem); (case hi => assumption); (case hz => first | assumption | omega); (case hb => assumption); (case kp => trivial); (intro v9 new9 h9 tk9 R9 F9 N9 l9); (obtain ⟨q9, b9, t9, q9', e9⟩ := R9); (subst q9 q9'); (try dsimp only); (try simp only [List.nil_append] at N9); clear l9; (try k_fold)))))))
  (rename KBw.bInts _ = encB _ _ => e9)
  rw [bInts_inj ((e9.trans henc).trans hob.symm), beq_self_eq_true]
  (rename Fr _ _ _ _ => F8); exact hQ _ _ F8.keep
theorem law_l (r : Rw) (w : World) (mean : ExcName → Option Value) (mg mb : Str → Option Value) (g : Heap) (L la : Addr) (lcd : Value) (u : Str → Option Value) (s : Shared) (Q : Flow → Shared → Prop) (rest : List Stmt) (H : LawAt w mean mg mb g)
    (lat wr : Int) (t₁ t₇ t₈ : Tok) (ob : Array UInt8) (os : List Int) (hob : KBw.bInts ob = os) (hoz : os.length ≤ 200) (hwr : wr < 0) (D D' T : Addr) (vs vs' : List Value) (n n' : Nat) (rs : List Int) (hrz : rs.length ≤ 200) (hI : IntsAre vs rs) (hI' : IntsAre vs' rs)
    (hrb : ∀ x ∈ rs, 0 ≤ x ∧ x < if (lat == 1) = true then 256 else 1114112) (henc : encB (lat == 1) rs = os)
    (F : Fr g L s.heap (kstB u [(Str.ofString "is_latin1", .int lat t₁), (Str.ofString "out", .bytes ob t₇), (Str.ofString "runes", .ref D), (Str.ofString "wrong", .int wr t₈), (Str.ofString "told", .ref T)])) (N : News g L s.heap [tup T [.ref D', .none], (D', listOf vs'.toArray n'), (D, listOf vs.toArray n)])
    (hQ : ∀ h tk, (∀ x o, g.get? x = some o → h.get? x = some o) → Q (.ret (.bool true)) { s with heap := h, toks := tk }) :
    wpAny (lawM w) (callerA.deeper (lawEnv L la lcd)) (execs (lawStmt 16 :: rest) (lawEnv L la lcd)) Q (fun _ _ => False) s := by
  exact pick_all (ne := lx_some) (by with_unfolding_all rfl) law_l_t1 { lx0 with w := w, mean := mean, mg := mg, mb := mb, g := g, L := L, la := la, lcd := lcd, u := u, s := s, Q := Q, rest := rest, i1 := lat, i2 := wr, t1 := t₁, t2 := t₇, t3 := t₈, b1 := ob, k1 := os, a1 := D, a2 := D', a3 := T, v1 := vs, v2 := vs', n1 := n, n2 := n', k2 := rs } H hob hoz hwr hrz hI hI' hrb henc F N hQ
-- part M10
open PySem.Spec PyProof.V PySem.SeqAt in
theorem eqAt_bytes {A : Around} {s : Shared} {b c : Array UInt8} {t u : Tok} (h : b.toList = c.toList) : EqAt A s (.bytes b t) (.bytes c u) true := fun prog w E Q hq => by
  unfold eqBool
  refine wpAny_holding ?_
  refine wpAny_ite_split (fun hab => ?_) (fun hab => ?_)
  · exact wpAny_bind (wpAny_rule (wpAny_pure hq))
  · refine wpAny_bind (richCompare_gives (op := .Eq) (T := "bytes") rfl rfl FB.slot_bytes_eq FB.entry_bytes_eq (FB.args_bytes_eq_2 _ _) (gives_bytes_eq b c t u) (fun x => nomatch x) (wpAny_truthy_bool ?_))
    rw [h, beq_self_eq_true]
    exact hq
open PySem.Spec PyProof.V PySem.SeqAt in
theorem eq_told2 {prog : Program} {w : World} {A : Around} {E : Value → Shared → Prop} {s : Shared} {h₀ : Heap} {L : Addr} {news : Led} {T U D D' T2 U2 : Addr} {vs vs' : List Value} {n n' : Nat} {rs : List Int} {Q : Value → Shared → Prop} {x : Str} {b c : Array UInt8} {i j : Int} {t₁ t₂ t₃ t₄ t₅ t₆ : Tok} (N : News h₀ L s.heap news)
    (hT : tup T [.ref D', .ref T2] ∈ news) (hU : tup U [.ref D, .ref U2] ∈ news) (hT2 : tup T2 [.str x t₁, .bytes b t₂, .int i t₃] ∈ news) (hU2 : tup U2 [.str x t₄, .bytes c t₅, .int j t₆] ∈ news)
    (hD' : (D', listOf vs'.toArray n') ∈ news) (hD : (D, listOf vs.toArray n) ∈ news) (hI : IntsAre vs rs) (hI' : IntsAre vs' rs) (hbc : b.toList = c.toList) (hij : i = j) (hu : A.units + 64 < cLine) (h : Q (.bool true) s) :
    wpAny (model prog w) A (compareOp .Eq (.ref T) (.ref U)) Q E s := by
  subst hij
  have inner : EqAt A.in1 s (.ref T2) (.ref U2) true := by
    by_cases hne : T2 = U2
    · subst hne; exact EqAt.same _
    refine EqAt.of_refs hne ?_
    refine RcAt.tuples (items := #[.str x t₁, .bytes b t₂, .int i t₃]) (items2 := #[.str x t₄, .bytes c t₅, .int i t₆]) (e := fun _ => true) ⟨_, (N _ hT2).1, rfl, _, rfl⟩ ⟨_, (N _ hU2).1, rfl, _, rfl⟩ (by show A.units + 1 < cLine; omega) fun k h1 h2 => ?_
    match k, h1, h2 with
    | 0, _, _ => exact (beq_self_eq_true x) ▸ EqAt.str_str x t₁ x t₄
    | 1, _, _ => exact eqAt_bytes hbc
    | 2, _, _ => exact (beq_self_eq_true i) ▸ EqAt.int_int i t₃ i t₆
    | k + 3, h1, _ => exact absurd h1 (by show ¬ k + 3 < 3; omega)
  have lists : EqAt A.in1 s (.ref D') (.ref D) true := by
    have he : PyData.eqv (.list (rs.map PyData.int)) (.list (rs.map PyData.int)) = true := by
      simp [PyData.eqv, ked_eqvAll]
    rw [← he]
    exact eqAt_reads _ _ _ _ _ _ _ _ (reads_newData ⟨_, (N _ hD').1, rfl, _, rfl⟩ (ke_carried hI')) (reads_newData ⟨_, (N _ hD).1, rfl, _, rfl⟩ (ke_carried hI)) (by simp [PyData.canLay0, ke_canLayAll0]) (by simp [PyData.canLay0, ke_canLayAll0]) (by
      simp [PyData.depth, ke_depthAll]
      show A.units + 1 + 1 < cLine
      omega)
  refine RcAt.tuples (items := #[.ref D', .ref T2]) (items2 := #[.ref D, .ref U2]) (e := fun _ => true) ⟨_, (N _ hT).1, rfl, _, rfl⟩ ⟨_, (N _ hU).1, rfl, _, rfl⟩ (by omega) (fun k h1 h2 => ?_) prog w E Q h
  match k, h1, h2 with
  | 0, _, _ => exact lists
  | 1, _, _ => exact inner
  | k + 2, h1, _ => exact absurd h1 (by show ¬ k + 2 < 2; omega)
-- part M11
def signOf (o : Int) : Int := if o = 0 then 3 else if 128 ≤ o ∨ isWord o = true then 0 else 1
def law_m_P (c : Lx) : Prop := ∀ (H : LawAt c.w c.mean c.mg c.mb c.g) (hob : KBw.bInts c.b1 = c.k1) (hoz : c.k1.length ≤ 200) (hwr : c.i2 = c.n1) (hj : c.n1 < c.k1.length) (hI : IntsAre c.v1 c.k2) (hI' : IntsAre c.v2 c.k2) (hb : KBw.bInts c.b2 = [c.k1.getD c.n1 0]) (hsum : c.i2 + ((c.k1.take c.n1).map signOf).sum = ((quoteL (c.k1.take c.n1)).length : Int)) (F : Fr c.g c.L c.s.heap (kstB c.u [(Str.ofString "is_latin1", .int c.i1 c.t1), (Str.ofString "out", .bytes c.b1 c.t2), (Str.ofString "runes", .ref c.a1), (Str.ofString "wrong", .int c.i2 c.t3), (Str.ofString "told", .ref c.a3)])) (N : News c.g c.L c.s.heap [tup c.a3 [.ref c.a2, .ref c.a4], tup c.a4 [.str (Str.ofString "bad utf-8") c.t4, .bytes c.b2 c.t5, .int ((quoteL (c.k1.take c.n1)).length : Int) c.t6], (c.a2, listOf c.v2.toArray c.n3), (c.a1, listOf c.v1.toArray c.n2)]) (hQ : ∀ h tk, (∀ x o, c.g.get? x = some o → h.get? x = some o) → c.Q (.ret (.bool true)) { c.s with heap := h, toks := tk }) , wpAny (lawM c.w) (callerA.deeper (lawEnv c.L c.la c.lcd)) (execs [lawStmt 16, lawStmt 17, lawStmt 18] (lawEnv c.L c.la c.lcd)) c.Q (fun _ _ => False) c.s
@[irreducible] noncomputable def law_m_c : Lx := pick lx_some law_m_P
theorem law_m_t1 : law_m_P law_m_c := by
  intro H hob hoz hwr hj hI hI' hb hsum F N hQ
  obtain ⟨B, X, Tq⟩ := H
  have loops := myLoops
  have calls := myCalls
  dsimp only [kstB] at F
  (((rename Frag.In _ _ => X9); revert X9; dsimp only [lawM]; k_fill; intro X9; (conv in (occs := *) (lawStmt _) => all_goals whnf); (dsimp only [lawEnv]; (conv in (occs := *) lawScope => all_goals whnf))))
  (repeat' (first | (k_unfold; (try dsimp only)) | walk1 | (dsimp only; walk1) | (leave1; (try dsimp only)) | (refine Held.go ?_; first | ((with_reducible show wpAny _ _ (call (Value.ref _) _) _ _ _); first | ((k_here; (k_dflt refine' ctv_use (isword_ok ⟨_, rfl⟩ _ _ _ _ _ _) ?k1 ?k2 ?k3 ?k4 ?k5 ?kK ?kd ?ku ?kp ?_); (((case k1 => k_asm); (case k2 => k_asm); (case k3 => k_asm); (case k4 => k_asm); (case k5 => k_asm); (case kK => first | exact rfl | assumption); (case kd => first | exact room2 (by assumption) rfl | ktr_room); (case ku => first | exact unit2 (by assumption) rfl | ktr_units))); (case kp => trivial); (((intro t9 h9 tk9 F9 N9); (try dsimp only); (try k_fold)))))))))
  refine Held.go ?_
  k_dflt refine' ListComp_B (F₀ := by k_asm) ?a1 ?a2 ?a3 ?a4 ?a5 ?_
  case a1 => rfl
  case a2 => decide
  case a3 => rfl
  case a4 => decide
  case a5 => rfl
  iterate 14 (try (first | walk1 | (dsimp only; walk1)))
  (rename KBw.bInts (KBy.picked _ _ _) = _ => hB)
  have hclip : List.take (clipAt law_m_c.k1.length law_m_c.i2) law_m_c.k1 = law_m_c.k1.take law_m_c.n1 := by
    rw [hwr, clipAt_nat, Nat.min_eq_left (Nat.le_of_lt hj)]
  rw [hclip] at hB
  refine CompSrcB.intro rfl (by k_asm) (by k_asm) hB (by rw [List.length_take]; omega) ?_
  intro g'
  generalize hqs : law_m_c.k1.take law_m_c.n1 = qs at *
  have hqz : qs.length ≤ 200 := by rw [← hqs, List.length_take]; omega
  refine comp_turns (n := _) (fun i ys => IntsAre ys ((qs.take i).map signOf)) ?step ?fin _ 0 [] (Nat.zero_add _) .nil
  case step =>
    rintro i v ys I oI C oC D1 m₂ h tk E' hin hInv ⟨o, un, hn, hn0, hn1, rfl⟩ hNs hm F N off ne
    have htk : (qs.take (i + 1)).map signOf = (qs.take i).map signOf ++ [signOf o] := by rw [List.take_add_one, hn, List.map_append]; rfl
    (repeat' (first | (k_unfold; (try dsimp only)) | walk1 | (dsimp only; walk1) | (leave1; (try dsimp only)) | (refine Held.go ?_; first | ((with_reducible show wpAny _ _ (call (Value.ref _) _) _ _ _); first | ((k_here; (k_dflt refine' ctv_use (isword_ok ⟨_, rfl⟩ _ _ _ _ _ _) ?k1 ?k2 ?k3 ?k4 ?k5 ?kK ?kd ?ku ?kp ?_); (((case k1 => k_asm); (case k2 => k_asm); (case k3 => k_asm); (case k4 => k_asm); (case k5 => k_asm); (case kK => first | exact rfl | assumption); (case kd => first | exact room2 (by assumption) rfl | ktr_room); (case ku => first | exact unit2 (by assumption) rfl | ktr_units))); (case kp => trivial); (((intro t9 h9 tk9 F9 N9); (try dsimp only); (try k_fold)))))))))
    all_goals first
      | (refine LCg.CompEnd.intro F N _ (fun p hp => hp) off trivial ⟨rfl, ?_⟩; rw [htk]; refine hInv.append ?_; unfold signOf)
      | ((rename Fr _ _ _ _ => F9); (rename News _ _ _ _ => N9); refine LCg.CompEnd.intro F9 N9 _ (fun p hp => hp) off trivial ⟨rfl, ?_⟩; rw [htk]; refine hInv.append ?_; unfold signOf)
    all_goals first
      | (rw [if_pos (by assumption)]; exact .cons _ _ .nil)
      | (rw [if_neg (by omega), if_pos (Or.inl (by omega))]; exact .cons _ _ .nil)
      | (rw [if_neg (by omega), if_pos (Or.inr (by assumption))]; exact .cons _ _ .nil)
      | (rw [if_neg (by omega), if_neg (fun e => e.elim (fun e => by omega) (fun e => by simp_all))]; exact .cons _ _ .nil)
  case fin =>
    intro ys hInv D1 h tk F N off
    rw [List.take_length] at hInv
    have hyz : ys.length ≤ 200 := by rw [hInv.length, List.length_map]; exact hqz
    replace N : News law_m_c.g law_m_c.L h ((D1, listOf ys.toArray ys.length) :: _) := N
    (try dsimp only)
    (repeat' (first | (k_unfold; (try dsimp only)) | walk1 | (dsimp only; walk1) | (leave1; (try dsimp only)) | (refine Held.go ?_; first | ((with_reducible show wpAny _ _ (call (Value.ref _) _) _ _ _); first | ((k_here; (k_dflt refine' ctv_use (isword_ok ⟨_, rfl⟩ _ _ _ _ _ _) ?k1 ?k2 ?k3 ?k4 ?k5 ?kK ?kd ?ku ?kp ?_); (((case k1 => k_asm); (case k2 => k_asm); (case k3 => k_asm); (case k4 => k_asm); (case k5 => k_asm); (case kK => first | exact rfl | assumption); (case kd => first | exact room2 (by assumption) rfl | ktr_room); (case ku => first | exact unit2 (by assumption) rfl | ktr_units))); (case kp => trivial); (((intro t9 h9 tk9 F9 N9); (try dsimp only); (try k_fold)))))))))
    refine Held.go ?_
    (rename News _ _ _ _ => N9); (rename KBw.bInts (KBy.picked law_m_c.b1 (some law_m_c.i2) _) = _ => hK)
    refine eq_told2 N9 (by k_mem) (by k_mem) (by k_mem) (by k_mem) (by k_mem) (by k_mem) hI hI' ?hbc ?hij (by units_room) ?_
    case hbc =>
      refine bInts_inj (hb.trans (Eq.trans ?_ hK.symm))
      have e1 : clipAt law_m_c.k1.length (law_m_c.i2 + 1) = law_m_c.n1 + 1 := by rw [hwr, show ((law_m_c.n1 : Int) + 1) = ((law_m_c.n1 + 1 : Nat) : Int) from rfl, clipAt_nat, Nat.min_eq_left hj]
      have e2 : clipAt law_m_c.k1.length law_m_c.i2 = law_m_c.n1 := by rw [hwr, clipAt_nat, Nat.min_eq_left (Nat.le_of_lt hj)]
      rw [e1, e2, Nat.add_sub_cancel_left, List.take_one, List.head?_drop, List.getD_eq_getElem?_getD, List.getElem?_eq_getElem hj]
      rfl
    case hij => exact hsum.symm
    (rename Fr _ _ _ _ => F8); exact hQ _ _ F8.keep
theorem law_m (r : Rw) (w : World) (mean : ExcName → Option Value) (mg mb : Str → Option Value) (g : Heap) (L la : Addr) (lcd : Value) (u : Str → Option Value) (s : Shared) (Q : Flow → Shared → Prop) (H : LawAt w mean mg mb g)
    (lat wr : Int) (t₁ t₇ t₈ : Tok) (ob : Array UInt8) (os : List Int) (hob : KBw.bInts ob = os) (hoz : os.length ≤ 200) (j : Nat) (hwr : wr = j) (hj : j < os.length) (D D' T T2 : Addr) (vs vs' : List Value) (n n' : Nat) (rs : List Int) (hI : IntsAre vs rs) (hI' : IntsAre vs' rs)
    (b : Array UInt8) (t t' t'' : Tok) (hb : KBw.bInts b = [os.getD j 0]) (hsum : wr + ((os.take j).map signOf).sum = ((quoteL (os.take j)).length : Int))
    (F : Fr g L s.heap (kstB u [(Str.ofString "is_latin1", .int lat t₁), (Str.ofString "out", .bytes ob t₇), (Str.ofString "runes", .ref D), (Str.ofString "wrong", .int wr t₈), (Str.ofString "told", .ref T)])) (N : News g L s.heap [tup T [.ref D', .ref T2], tup T2 [.str (Str.ofString "bad utf-8") t, .bytes b t', .int ((quoteL (os.take j)).length : Int) t''], (D', listOf vs'.toArray n'), (D, listOf vs.toArray n)])
    (hQ : ∀ h tk, (∀ x o, g.get? x = some o → h.get? x = some o) → Q (.ret (.bool true)) { s with heap := h, toks := tk }) :
    wpAny (lawM w) (callerA.deeper (lawEnv L la lcd)) (execs [lawStmt 16, lawStmt 17, lawStmt 18] (lawEnv L la lcd)) Q (fun _ _ => False) s := by
  exact pick_all (ne := lx_some) (by with_unfolding_all rfl) law_m_t1 { lx0 with w := w, mean := mean, mg := mg, mb := mb, g := g, L := L, la := la, lcd := lcd, u := u, s := s, Q := Q, i1 := lat, i2 := wr, t1 := t₁, t2 := t₇, t3 := t₈, b1 := ob, k1 := os, n1 := j, a1 := D, a2 := D', a3 := T, a4 := T2, v1 := vs, v2 := vs', n2 := n, n3 := n', k2 := rs, b2 := b, t4 := t, t5 := t', t6 := t'' } H hob hoz hwr hj hI hI' hb hsum F N hQ
end Walk
-- part Y1
theorem readR_acc (g : Int) : ∀ (ks : List Int) (bh : Bool) (acc : List Pc), readR g ks bh acc = (readR g ks bh []).map (acc ++ ·)
  | [], bh, acc => by
    unfold readR
    split <;> simp
  | o :: r, bh, acc => by
    unfold readR
    split
    · split
      · rw [readR_acc g r false (acc ++ _), readR_acc g r false ([] ++ _), Option.map_map]
        congr 1
        funext l
        simp
      · rfl
    · split
      · rw [readR_acc g r false (acc ++ _), readR_acc g r false ([] ++ _), Option.map_map]
        congr 1
        funext l
        simp
      · exact readR_acc g r true acc
theorem allP_flush (text caps acc : List Int) : allP text caps (flush acc) = some acc := by
  unfold flush
  split
  · rename_i h; rw [h]; rfl
  · simp [allP, pickP]
theorem allP_append (text caps : List Int) : ∀ ps qs : List Pc, allP text caps (ps ++ qs) = (allP text caps ps).bind fun l => (allP text caps qs).map (l ++ ·)
  | [], qs => by simp [allP]
  | p :: r, qs => by
    rw [List.cons_append]
    simp only [allP]
    rw [allP_append text caps r qs]
    cases pickP text caps p with
    | none => rfl
    | some a =>
      cases allP text caps r with
      | none => rfl
      | some l =>
        cases allP text caps qs with
        | none => rfl
        | some z => simp
theorem rew_read_acc (text caps : List Int) (g : Int) (h0 : 0 ≤ g) (h10 : g ≤ 10) (hc : (caps.length : Int) = 2 * g) : ∀ ks acc : List Int,
    (runP ks acc).bind (allP text caps) = (readR g ks false []).map fun ps => acc ++ outL text caps ps
  | [], acc => by
    show allP text caps (flush acc) = some (acc ++ [])
    rw [allP_flush, List.append_nil]
  | [o], acc => by
    unfold runP readR
    by_cases ho : o = 92
    · simp [ho, readR]
    · rw [if_neg ho, if_neg (by simp), if_pos (Or.inr ho)]
      show allP text caps (flush (acc ++ [o])) = some (acc ++ [o])
      rw [allP_flush]
  | o :: c :: r, acc => by
    unfold runP
    by_cases ho : o = 92
    · rw [if_pos ho]
      have hr : readR g (o :: c :: r) false [] = readR g (c :: r) true [] := by
        conv => lhs; unfold readR
        rw [if_neg (by simp), if_neg (by simp [ho])]
      rw [hr]
      unfold readR
      have ih := rew_read_acc text caps g h0 h10 hc r []
      by_cases hc92 : c = 92
      · rw [if_pos (Or.inl hc92), if_neg (by simp [hc92]), if_pos (Or.inl rfl), readR_acc, Option.map_map]
        subst hc92
        cases hp : runP r [] with
        | none =>
          rw [hp] at ih
          cases hq : readR g r false [] with
          | none => rfl
          | some qs => rw [hq] at ih; exact nomatch ih
        | some ps =>
          rw [hp] at ih
          show allP text caps (flush acc ++ pcOf 92 :: ps) = _
          have ih' : allP text caps ps = _ := ih
          rw [allP_append, allP_flush, Option.bind_some, show pcOf 92 = .inl [92] from rfl]
          simp only [allP, pickP, Option.bind_some]
          rw [ih']
          cases readR g r false [] with
          | none => rfl
          | some qs => simp [outL, onePc]
      · by_cases hf : 48 ≤ c ∧ c < 48 + min g 10
        · have hfig : isFig c = true := by simp [isFig]; omega
          rw [if_pos (Or.inr hfig), if_pos ⟨rfl, hc92⟩, if_pos hf, readR_acc, Option.map_map]
          cases hp : runP r [] with
          | none =>
            rw [hp] at ih
            cases hq : readR g r false [] with
            | none => rfl
            | some qs => rw [hq] at ih; exact nomatch ih
          | some ps =>
            rw [hp] at ih
            show allP text caps (flush acc ++ pcOf c :: ps) = _
            have ih' : allP text caps ps = _ := ih
            have hpc : pcOf c = .inr (c - 48) := if_neg hc92
            rw [allP_append, allP_flush, Option.bind_some, hpc]
            simp only [allP, pickP]
            rw [if_neg (by omega), ih']
            by_cases hk : 0 ≤ caps.getD (2 * (c - 48)).toNat 0
            · rw [if_pos hk]
              cases readR g r false [] with
              | none => rfl
              | some qs => simp [outL, one_a hk]
            · rw [if_neg hk]
              cases readR g r false [] with
              | none => rfl
              | some qs => simp [outL, one_b hk]
        · by_cases hfig : isFig c = true
          · rw [if_pos (Or.inr hfig), if_pos ⟨rfl, hc92⟩, if_neg hf]
            have hc48 : 48 ≤ c ∧ c ≤ 57 := by simpa [isFig] using hfig
            have hpc : pcOf c = .inr (c - 48) := if_neg hc92
            have hno : pickP text caps (.inr (c - 48)) = none := if_pos (by omega)
            cases hp : runP r [] with
            | none => rfl
            | some ps =>
              show allP text caps (flush acc ++ pcOf c :: ps) = none
              rw [hpc]
              exact allP_none text caps hno
          · rw [if_neg (fun e => e.elim hc92 hfig), if_pos ⟨rfl, hc92⟩, if_neg hf]
            rfl
    · rw [if_neg ho, rew_read_acc text caps g h0 h10 hc (c :: r) (acc ++ [o])]
      have hr : readR g (o :: c :: r) false [] = readR g (c :: r) false ([] ++ [.inl [o]]) := by
        conv => lhs; unfold readR
        rw [if_neg (by simp), if_pos (Or.inr ho)]
      rw [hr, readR_acc g (c :: r) false ([] ++ _), Option.map_map]
      congr 1
      funext ps
      simp [outL, onePc]
theorem rew_read {text caps ks : List Int} {g : Int} (h0 : 0 ≤ g) (h10 : g ≤ 10) (hc : (caps.length : Int) = 2 * g) : rewSem ks text caps = (readR g ks false []).map (outL text caps) := by
  rw [rewSem, rew_read_acc text caps g h0 h10 hc]
  simp
-- part Y2
theorem readR_mem (g : Int) : ∀ (ks : List Int) (bh : Bool) (acc ps : List Pc), readR g ks bh acc = some ps → (∀ p ∈ ps, p ∈ acc ∨ (∃ o, p = .inl [o]) ∨ ∃ k, p = .inr k ∧ 0 ≤ k ∧ k < min g 10) ∧ ps.length ≤ acc.length + ks.length
  | [], bh, acc, ps, e => by
    unfold readR at e
    split at e
    · cases e
    · cases e
      exact ⟨fun p hp => .inl hp, Nat.le_add_right _ _⟩
  | o :: r, bh, acc, ps, e => by
    unfold readR at e
    split at e
    · split at e
      · obtain ⟨h1, h2⟩ := readR_mem g r false _ ps e
        refine ⟨fun p hp => ?_, by rw [List.length_append, List.length_singleton] at h2; rw [List.length_cons]; omega⟩
        rcases h1 p hp with h | h
        · rcases List.mem_append.mp h with h | h
          · exact .inl h
          · exact .inr (.inr ⟨o - 48, List.mem_singleton.mp h, by omega, by omega⟩)
        · exact .inr h
      · cases e
    · split at e
      · obtain ⟨h1, h2⟩ := readR_mem g r false _ ps e
        refine ⟨fun p hp => ?_, by rw [List.length_append, List.length_singleton] at h2; rw [List.length_cons]; omega⟩
        rcases h1 p hp with h | h
        · rcases List.mem_append.mp h with h | h
          · exact .inl h
          · exact .inr (.inl ⟨o, List.mem_singleton.mp h⟩)
        · exact .inr h
      · obtain ⟨h1, h2⟩ := readR_mem g r true _ ps e
        exact ⟨h1, by rw [List.length_cons]; omega⟩
theorem segC_length (ks : List Int) (x y : Int) : (segC ks x y).length ≤ ks.length := by
  unfold segC
  rw [List.length_take, List.length_drop]
  omega
theorem read_facts {g : Int} {ks : List Int} {ps : List Pc} {text caps : List Int} (h0 : 0 ≤ g) (h10 : g ≤ 10) (hc : (caps.length : Int) = 2 * g) (ht : text.length ≤ 8) (e : readR g ks false [] = some ps) :
    (∀ k, .inr k ∈ ps → 0 ≤ k ∧ 2 * k + 1 < (caps.length : Int)) ∧ (∀ p ∈ ps, (onePc text caps p).length ≤ 8) ∧ ps.length ≤ ks.length := by
  obtain ⟨h1, h2⟩ := readR_mem g ks false [] ps e
  refine ⟨fun k hk => ?_, fun p hp => ?_, by simpa using h2⟩
  · rcases h1 _ hk with h | ⟨o, h⟩ | ⟨j, h, a, b⟩
    · cases h
    · cases h
    · obtain rfl : k = j := by injection h
      omega
  · rcases h1 p hp with h | ⟨o, rfl⟩ | ⟨j, rfl, a, b⟩
    · cases h
    · exact Nat.le_of_ble_eq_true rfl
    · by_cases hk : 0 ≤ caps.getD (2 * j).toNat 0
      · rw [one_a hk]; exact Nat.le_trans (segC_length _ _ _) ht
      · rw [one_b hk]; exact Nat.zero_le _
theorem rew_out {g : Int} {ks text caps : List Int} (h0 : 0 ≤ g) (h10 : g ≤ 10) (hc : (caps.length : Int) = 2 * g) (ht : text.length ≤ 8) (hk : ks.length ≤ 1000) : ∀ l, rewSem ks text caps = some l → l.length ≤ 100000 := by
  intro l e
  rw [rew_read h0 h10 hc] at e
  cases hr : readR g ks false [] with
  | none => rw [hr] at e; cases e
  | some ps =>
    rw [hr] at e
    obtain ⟨_, h2, h3⟩ := read_facts h0 h10 hc ht hr
    have := outL_length h2
    obtain rfl : outL text caps ps = l := Option.some.inj e
    omega
theorem foldl_max : ∀ (l : List Int) (m : Int), l.foldl max m ∈ m :: l ∧ ∀ x ∈ m :: l, x ≤ l.foldl max m
  | [], m => ⟨.head _, fun x hx => by rw [List.mem_singleton.mp hx]; exact Int.le_refl _⟩
  | a :: r, m => by
    obtain ⟨h1, h2⟩ := foldl_max r (max m a)
    rw [List.foldl_cons]
    have hm := h2 (max m a) (.head _)
    refine ⟨?_, fun x hx => ?_⟩
    · rcases List.mem_cons.mp h1 with h | h
      · rw [h]
        by_cases hma : m ≤ a
        · rw [Int.max_eq_right hma]; exact .tail _ (.head _)
        · rw [Int.max_eq_left (by omega)]; exact .head _
      · exact .tail _ (.tail _ h)
    · rcases List.mem_cons.mp hx with rfl | hx
      · omega
      · rcases List.mem_cons.mp hx with rfl | hx
        · omega
        · exact h2 x (.tail _ hx)
theorem most_read : ∀ (ks : List Int) (m : Int) (ps : List Pc), readR 10 ks false [] = some ps → mostL ks m = (figs ps).foldl max m
  | [], m, ps, e => by
    cases e
    rfl
  | [o], m, ps, e => by
    unfold readR at e
    rw [if_neg (by simp)] at e
    split at e
    · cases e; rfl
    · cases e
  | o :: c :: r, m, ps, e => by
    unfold mostL
    by_cases ho : o = 92
    · rw [if_pos ho]
      have hr : readR 10 (o :: c :: r) false [] = readR 10 (c :: r) true [] := by
        conv => lhs; unfold readR
        rw [if_neg (by simp), if_neg (by simp [ho])]
      rw [hr] at e
      unfold readR at e
      by_cases hc92 : c = 92
      · rw [if_neg (by simp [hc92]), if_pos (Or.inl rfl), readR_acc] at e
        cases hq : readR 10 r false [] with
        | none => rw [hq] at e; cases e
        | some qs =>
          rw [hq] at e
          obtain rfl : [] ++ [(.inl [c] : Pc)] ++ qs = ps := Option.some.inj e
          rw [most_read r _ qs hq, if_neg (by simp [isFig, hc92])]
          rfl
      · rw [if_pos ⟨rfl, hc92⟩] at e
        by_cases hf : 48 ≤ c ∧ c < 48 + min 10 10
        · rw [if_pos hf, readR_acc] at e
          cases hq : readR 10 r false [] with
          | none => rw [hq] at e; cases e
          | some qs =>
            rw [hq] at e
            obtain rfl : [] ++ [(.inr (c - 48) : Pc)] ++ qs = ps := Option.some.inj e
            rw [most_read r _ qs hq, if_pos (by simp [isFig]; omega)]
            rfl
        · rw [if_neg hf] at e
          cases e
    · rw [if_neg ho]
      have hr : readR 10 (o :: c :: r) false [] = readR 10 (c :: r) false ([] ++ [.inl [o]]) := by
        conv => lhs; unfold readR
        rw [if_neg (by simp), if_pos (Or.inr ho)]
      rw [hr, readR_acc] at e
      cases hq : readR 10 (c :: r) false [] with
      | none => rw [hq] at e; cases e
      | some qs =>
        rw [hq] at e
        obtain rfl : [] ++ [(.inl [o] : Pc)] ++ qs = ps := Option.some.inj e
        rw [most_read (c :: r) m qs hq]
        rfl
theorem hmost_all (rs : List Int) : ∀ ps, readR 10 rs false [] = some ps → mostL rs 0 ∈ [0] ++ figs ps ∧ ∀ x ∈ [0] ++ figs ps, x ≤ mostL rs 0 := by
  intro ps e
  rw [most_read rs 0 ps e]
  exact foldl_max (figs ps) 0
theorem readR_dbl (g : Int) : ∀ os : List Int, readR g (dblL os) false [] = some (os.map fun o => .inl [o])
  | [] => rfl
  | o :: r => by
    have ih := readR_dbl g r
    by_cases ho : o = 92
    · have hd : dblL (o :: r) = 92 :: 92 :: dblL r := by simp [dblL, ho]
      rw [hd]
      unfold readR
      rw [if_neg (by simp), if_neg (by simp)]
      unfold readR
      rw [if_neg (by simp), if_pos (Or.inl rfl), readR_acc, ih, ho]
      rfl
    · have hd : dblL (o :: r) = o :: dblL r := by simp [dblL, ho]
      rw [hd]
      unfold readR
      rw [if_neg (by simp), if_pos (Or.inr ho), readR_acc, ih]
      rfl
theorem hdbl_all {g : Int} {os text caps : List Int} (h0 : 0 ≤ g) (h10 : g ≤ 10) (hc : (caps.length : Int) = 2 * g) : rewSem (dblL os) text caps = some os := by
  rw [rew_read h0 h10 hc, readR_dbl]
  show some _ = some _
  congr 1
  rw [outL, List.flatMap_map]
  show os.flatMap (fun o => [o]) = os
  induction os with
  | nil => rfl
  | cons o r ih => rw [List.flatMap_cons, ih]; rfl
-- part Y3
theorem quoteOne_length (o : Int) : ((quoteOne o).length : Int) = 1 + signOf o := by
  unfold quoteOne signOf
  split
  · rfl
  · split <;> rfl
theorem quoteL_signs : ∀ ks : List Int, ((quoteL ks).length : Int) = ks.length + (ks.map signOf).sum
  | [] => rfl
  | o :: r => by
    have h1 := quoteOne_length o
    have h2 := quoteL_signs r
    unfold quoteL at h2 ⊢
    rw [List.flatMap_cons, List.length_append, List.length_cons, List.map_cons, List.sum_cons]
    omega
theorem hsum_all {os : List Int} {j : Nat} {wr : Int} (hw : wr = j) (hj : j < os.length) : wr + ((os.take j).map signOf).sum = ((quoteL (os.take j)).length : Int) := by
  rw [quoteL_signs, List.length_take, Nat.min_eq_left (Nat.le_of_lt hj), hw]
theorem runesR_in (lat : Bool) (ks : List Int) : ∀ (n : Nat) (i : Int) (acc : List Int), (runesR lat ks n i acc).2 < (ks.length : Int)
  | 0, i, acc => by show (-1 : Int) < _; omega
  | n + 1, i, acc => by
    unfold runesR
    split
    · split
      · assumption
      · exact runesR_in lat ks n _ _
    · show (-1 : Int) < _; omega
theorem runesL_in {lat : Bool} {ks : List Int} {j : Nat} (h : (runesL lat ks).2 = j) : j < ks.length := by
  have := runesR_in lat ks (ks.length + 1) 0 []
  rw [show runesR lat ks (ks.length + 1) 0 [] = runesL lat ks from rfl, h] at this
  omega
-- part Y4
theorem getD_drop (ks : List Int) (j k : Nat) : (ks.drop j).getD k 0 = ks.getD (j + k) 0 := by
  rw [List.getD_eq_getElem?_getD, List.getD_eq_getElem?_getD, List.getElem?_drop]
theorem seg_drop (ks : List Int) (j : Nat) (a b : Int) (ha : 0 ≤ a) (hb : 0 ≤ b) : seg ks (j + a) (j + b) = seg (ks.drop j) a b := by
  unfold seg
  rw [show ((j : Int) + a).toNat = j + a.toNat by omega, show ((j : Int) + b).toNat = j + b.toNat by omega, List.take_drop, List.drop_drop]
theorem rowHit_drop (ks : List Int) (j : Nat) (f : Row5) (h : 0 ≤ f.2.2.2.2) : rowHit ks j f = rowHit (ks.drop j) 0 f := by
  unfold rowHit
  have e1 : ks.getD (j : Int).toNat 0 = (ks.drop j).getD (0 : Int).toNat 0 := by rw [getD_drop]; rfl
  have e2 : seg ks (j + 1) (j + f.2.2.2.2) = seg (ks.drop j) (0 + 1) (0 + f.2.2.2.2) := by rw [Int.zero_add, Int.zero_add]; exact seg_drop ks j 1 _ (by decide) h
  rw [e1, e2]
theorem formAt_drop (ks : List Int) (j : Nat) : ∀ fs : List Row5, (∀ f ∈ fs, 1 ≤ f.2.2.2.2 ∧ f.2.2.2.2 ≤ 4) → formAt ks j fs = formAt (ks.drop j) 0 fs
  | [], _ => rfl
  | f :: r, h => by
    unfold formAt
    rw [rowHit_drop ks j f (by have := h f (.head _); omega), formAt_drop ks j r fun g hg => h g (.tail _ hg)]
theorem manyAt_drop (lat : Bool) (ks : List Int) (j : Nat) : manyAt lat ks j = manyAt lat (ks.drop j) 0 := by
  unfold manyAt
  rw [formAt_drop ks j formTab formTab_in]
theorem runeV_drop (ks : List Int) (j : Nat) (m : Int) (hm : 0 ≤ m) : runeV ks j m = runeV (ks.drop j) 0 m := by
  unfold runeV
  have e1 : ks.getD (j : Int).toNat 0 = (ks.drop j).getD (0 : Int).toNat 0 := by rw [getD_drop]; rfl
  have e2 : seg ks (j + 1) (j + m) = seg (ks.drop j) (0 + 1) (0 + m) := by rw [Int.zero_add, Int.zero_add]; exact seg_drop ks j 1 _ (by decide) hm
  rw [e1, e2]
theorem fLen_in (o : Int) : 0 ≤ fLen o ∧ fLen o ≤ 4 := by have := flen_cases o; omega
theorem runeAt_drop (ks : List Int) (j : Nat) (hj : j ≤ ks.length) : runeAt ks j = runeAt (ks.drop j) 0 := by
  unfold runeAt
  have e1 : ks.getD (j : Int).toNat 0 = (ks.drop j).getD (0 : Int).toNat 0 := by rw [getD_drop]; rfl
  have e2 : seg ks (j + 1) (j + fLen ((ks.drop j).getD (0 : Int).toNat 0)) = seg (ks.drop j) (0 + 1) (0 + fLen ((ks.drop j).getD (0 : Int).toNat 0)) := by
    rw [Int.zero_add, Int.zero_add]; exact seg_drop ks j 1 _ (by decide) (fLen_in _).1
  rw [e1, e2]
  have e3 : ((ks.length : Int) < j + fLen ((ks.drop j).getD (0 : Int).toNat 0)) = (((ks.drop j).length : Int) < 0 + fLen ((ks.drop j).getD (0 : Int).toNat 0)) := by
    rw [List.length_drop]
    apply propext
    omega
  simp only [e3]
theorem quoteL_app (a b : List Int) : quoteL (a ++ b) = quoteL a ++ quoteL b := by simp [quoteL]
theorem quoteL_drop (ks : List Int) (j : Nat) : (quoteL ks).drop (quoteL (ks.take j)).length = quoteL (ks.drop j) := by
  conv => lhs; rw [← List.take_append_drop j ks]
  rw [quoteL_app, List.take_append_drop, List.drop_left]
-- part Y5
theorem len4 (r : List Int) : r = [] ∨ (∃ a, r = [a]) ∨ (∃ a b, r = [a, b]) ∨ ∃ a b c t, r = a :: b :: c :: t := by
  match r with
  | [] => exact .inl rfl
  | [a] => exact .inr (.inl ⟨a, rfl⟩)
  | [a, b] => exact .inr (.inr (.inl ⟨a, b, rfl⟩))
  | a :: b :: c :: t => exact .inr (.inr (.inr ⟨a, b, c, t, rfl⟩))
/-- an octet of a rune's rest -/
abbrev rst (x : Int) : Prop := 128 ≤ x ∧ x ≤ 191
/-- the table's answer by the first octets -/
def formF (o a b c : Int) : Int :=
  if o < 0 then 0 else if o < 128 then 1 else if o < 194 then 0 else if o < 224 then (if rst a then 2 else 0)
  else if o < 240 then (if (rst a ∧ rst b) ∧ (o = 224 → 160 ≤ a) then 3 else 0)
  else if o < 245 then (if (rst a ∧ rst b ∧ rst c) ∧ (o = 240 → 144 ≤ a) ∧ (o = 244 → a ≤ 143) then 4 else 0) else 0
theorem form_step {ks : List Int} {f : Row5} {r : List Row5} {x : Int} (P : Prop) [Decidable P] (hP : rowHit ks 0 f = true ↔ P) (h : formAt ks 0 r = x) : formAt ks 0 (f :: r) = if P then f.2.2.2.2 else x := by
  unfold formAt
  rw [h]
  by_cases hp : P
  · rw [if_pos hp, if_pos (hP.mpr hp)]
  · rw [if_neg hp, if_neg fun e => hp (hP.mp e)]
theorem hit1 (o : Int) (r : List Int) (x y z w : Int) : rowHit (o :: r) 0 (x, y, z, w, 1) = true ↔ (x ≤ o ∧ o ≤ y) ∧ True := by
  simp [rowHit, seg]
theorem hit2 (o : Int) (r : List Int) (x y z w : Int) (h : 128 ≤ z) : rowHit (o :: r) 0 (x, y, z, w, 2) = true ↔ (x ≤ o ∧ o ≤ y) ∧ z ≤ r.getD 0 0 ∧ r.getD 0 0 ≤ w := by
  rcases len4 r with rfl | ⟨a, rfl⟩ | ⟨a, b, rfl⟩ | ⟨a, b, c, t, rfl⟩ <;> simp [rowHit, seg]
  omega
theorem hit3 (o : Int) (r : List Int) (x y z w : Int) (h : 128 ≤ z) : rowHit (o :: r) 0 (x, y, z, w, 3) = true ↔ (x ≤ o ∧ o ≤ y) ∧ (z ≤ r.getD 0 0 ∧ r.getD 0 0 ≤ w) ∧ rst (r.getD 1 0) := by
  rcases len4 r with rfl | ⟨a, rfl⟩ | ⟨a, b, rfl⟩ | ⟨a, b, c, t, rfl⟩ <;> simp [rowHit, seg, rst, and_assoc]
theorem hit4 (o : Int) (r : List Int) (x y z w : Int) (h : 128 ≤ z) : rowHit (o :: r) 0 (x, y, z, w, 4) = true ↔ (x ≤ o ∧ o ≤ y) ∧ (z ≤ r.getD 0 0 ∧ r.getD 0 0 ≤ w) ∧ rst (r.getD 1 0) ∧ rst (r.getD 2 0) := by
  rcases len4 r with rfl | ⟨a, rfl⟩ | ⟨a, b, rfl⟩ | ⟨a, b, c, t, rfl⟩ <;> simp [rowHit, seg, rst, and_assoc]
section
variable {o x y lo hi : Int} {Q : Prop} {α : Type} {u v : α} [Decidable Q]
theorem lo_no (h : o < x) (hx : x ≤ lo) : (if (lo ≤ o ∧ o ≤ y) ∧ Q then u else v) = v := if_neg fun e => absurd (Int.lt_of_lt_of_le h (Int.le_trans hx e.1.1)) (Int.lt_irrefl _)
theorem hi_no (h : ¬ o < x) (hx : hi < x) : (if (y ≤ o ∧ o ≤ hi) ∧ Q then u else v) = v := if_neg fun e => absurd (Int.lt_of_le_of_lt e.1.2 hx) h
theorem at_yes (h : ¬ o < lo) (h' : o < x) (hx : x ≤ hi + 1) : (if (lo ≤ o ∧ o ≤ hi) ∧ Q then u else v) = if Q then u else v := by
  have e : ((lo ≤ o ∧ o ≤ hi) ∧ Q) ↔ Q := ⟨fun e => e.2, fun e => ⟨⟨Int.not_lt.mp h, Int.lt_add_one_iff.mp (Int.lt_of_lt_of_le h' hx)⟩, e⟩⟩
  by_cases hq : Q
  · rw [if_pos hq, if_pos (e.mpr hq)]
  · rw [if_neg hq, if_neg fun q => hq (e.mp q)]
theorem if_same {P Q : Prop} [Decidable P] [Decidable Q] (e : P ↔ Q) : (if P then u else v) = if Q then u else v := by
  by_cases hq : Q
  · rw [if_pos hq, if_pos (e.mpr hq)]
  · rw [if_neg hq, if_neg fun q => hq (e.mp q)]
end
theorem formF_eq (o : Int) (r : List Int) : formAt (o :: r) 0 formTab = formF o (r.getD 0 0) (r.getD 1 0) (r.getD 2 0) := by
  generalize ha : r.getD 0 0 = a
  generalize hb : r.getD 1 0 = b
  generalize hc : r.getD 2 0 = c
  unfold formTab
  have h0 : formAt (o :: r) 0 [] = 0 := rfl
  rw [form_step _ (hit1 o r _ _ _ _) (form_step _ (hit2 o r _ _ _ _ (by decide)) (form_step _ (hit3 o r _ _ _ _ (by decide)) (form_step _ (hit3 o r _ _ _ _ (by decide)) (form_step _ (hit4 o r _ _ _ _ (by decide)) (form_step _ (hit4 o r _ _ _ _ (by decide)) (form_step _ (hit4 o r _ _ _ _ (by decide)) h0))))))]
  rw [ha, hb, hc]
  dsimp only
  unfold formF
  by_cases g0 : o < 0
  · rw [if_pos g0, lo_no g0 (by decide), lo_no g0 (by decide), lo_no g0 (by decide), lo_no g0 (by decide), lo_no g0 (by decide), lo_no g0 (by decide), lo_no g0 (by decide)]
  rw [if_neg g0]
  by_cases g1 : o < 128
  · rw [if_pos g1, at_yes g0 g1 (by decide)]; rfl
  rw [if_neg g1, hi_no g1 (by decide)]
  by_cases g2 : o < 194
  · rw [if_pos g2, lo_no g2 (by decide), lo_no g2 (by decide), lo_no g2 (by decide), lo_no g2 (by decide), lo_no g2 (by decide), lo_no g2 (by decide)]
  rw [if_neg g2]
  by_cases g3 : o < 224
  · rw [if_pos g3, at_yes g2 g3 (by decide), lo_no g3 (by decide), lo_no g3 (by decide), lo_no g3 (by decide), lo_no g3 (by decide), lo_no g3 (by decide)]
  rw [if_neg g3, hi_no g3 (by decide)]
  by_cases g4 : o < 240
  · rw [if_pos g4]
    by_cases g : o < 225
    · rw [at_yes g3 g (by decide), lo_no g (by decide), lo_no g (by decide), lo_no g (by decide), lo_no g (by decide)]
      have e : o = 224 := by omega
      exact if_same ⟨fun h => ⟨⟨⟨Int.le_trans (by decide) h.1.1, h.1.2⟩, h.2⟩, fun _ => h.1.1⟩, fun h => ⟨⟨h.2 e, h.1.1.2⟩, h.1.2⟩⟩
    · rw [hi_no g (by decide), at_yes g g4 (by decide), lo_no g4 (by decide), lo_no g4 (by decide), lo_no g4 (by decide)]
      exact if_same ⟨fun h => ⟨h, fun e => absurd (by omega : o < 225) g⟩, fun h => h.1⟩
  rw [if_neg g4, hi_no g4 (by decide), hi_no g4 (by decide)]
  by_cases g5 : o < 245
  · rw [if_pos g5]
    by_cases g : o < 241
    · rw [at_yes g4 g (by decide), lo_no g (by decide), lo_no g (by decide)]
      have e : o = 240 := by omega
      exact if_same ⟨fun h => ⟨⟨⟨Int.le_trans (by decide) h.1.1, h.1.2⟩, h.2⟩, fun _ => h.1.1, fun e' => absurd (e.symm.trans e') (by decide)⟩, fun h => ⟨⟨h.2.1 e, h.1.1.2⟩, h.1.2⟩⟩
    rw [hi_no g (by decide)]
    by_cases g6 : o < 244
    · rw [at_yes g g6 (by decide), lo_no g6 (by decide)]
      exact if_same ⟨fun h => ⟨h, fun e => absurd (by omega : o < 241) g, fun e => absurd (by omega : o ≠ 244) (fun q => q e)⟩, fun h => h.1⟩
    · rw [hi_no g6 (by decide), at_yes g6 g5 (by decide)]
      have e : o = 244 := by omega
      exact if_same ⟨fun h => ⟨⟨⟨h.1.1, Int.le_trans h.1.2 (by decide)⟩, h.2⟩, fun e' => absurd (e.symm.trans e') (by decide), fun _ => h.1.2⟩, fun h => ⟨⟨h.1.1.1, h.2.2 e⟩, h.1.2⟩⟩
  · rw [if_neg g5, hi_no g5 (by decide), hi_no g5 (by decide), hi_no g5 (by decide)]
/-- a rest's octet joined to the rune -/
theorem dm {x a : Int} (h : rst a) : (x * 64 + a - 128) / 64 = x ∧ 128 + (x * 64 + a - 128) % 64 = a := by omega
def v2 (o a : Int) : Int := (o - 192) * 64 + a - 128
def v3 (o a b : Int) : Int := ((o - 224) * 64 + a - 128) * 64 + b - 128
def v4 (o a b c : Int) : Int := (((o - 240) * 64 + a - 128) * 64 + b - 128) * 64 + c - 128
theorem contRune_some {x : Int} {l : List Int} {acc : Int} (h : 128 ≤ x ∧ x < 192) : contRune acc (x :: l) = contRune (acc * 64 + x - 128) l := if_pos h
theorem contRune_no {x : Int} {l : List Int} {acc : Int} (h : ¬ (128 ≤ x ∧ x < 192)) : contRune acc (x :: l) = none := if_neg h
theorem rst_lt {x : Int} (h : rst x) : 128 ≤ x ∧ x < 192 := ⟨h.1, Int.lt_of_le_of_lt h.2 (by decide)⟩
theorem rst_no {x : Int} (h : ¬ rst x) : ¬ (128 ≤ x ∧ x < 192) := fun e => h ⟨e.1, Int.lt_add_one_iff.mp e.2⟩
theorem rune1 {o : Int} (r : List Int) (h : o < 128) : runeAt (o :: r) 0 = (o, 1) := by
  have hf : fLen o = 1 := if_pos h
  exact if_pos hf
/-- what the reader finds, by the first octets -/
def runeF (o a b c : Int) : Int × Int :=
  if o < 128 then (o, 1) else if o < 192 then (65533, 1) else if o < 224 then (if rst a ∧ 128 ≤ v2 o a then (v2 o a, 2) else (65533, 1))
  else if o < 240 then (if rst a ∧ rst b ∧ 2048 ≤ v3 o a b then (v3 o a b, 3) else (65533, 1))
  else if o < 248 then (if rst a ∧ rst b ∧ rst c ∧ 65536 ≤ v4 o a b c ∧ v4 o a b c ≤ 1114111 then (v4 o a b c, 4) else (65533, 1)) else (65533, 1)
theorem rune_k {o : Int} {r : List Int} {m l : Int} (hf : fLen o = m) (h1 : m ≠ 1) (h0 : m ≠ 0) (hl : rLead m = l) {k : Nat} (hk : (0 + m).toNat = k + 1) :
    runeAt (o :: r) 0 = if (r.length : Int) + 1 < m then (65533, 1) else match contRune (o - l) (r.take k) with
      | none => (65533, 1)
      | some v => if v > 1114111 then (65533, 1) else if rLen v ≠ m then (65533, 1) else (v, m) := by
  subst hl
  have hs : seg (o :: r) (0 + 1) (0 + m) = r.take k := by
    unfold seg
    rw [hk]
    rfl
  unfold runeAt
  show (if fLen o = 1 then _ else if fLen o = 0 then _ else if ((r.length + 1 : Nat) : Int) < 0 + fLen o then _ else match contRune (o - rLead (fLen o)) (seg (o :: r) (0 + 1) (0 + fLen o)) with
    | none => _
    | some r => if r > 1114111 then _ else if rLen r ≠ fLen o then _ else (r, fLen o)) = _
  rw [hf, hs, if_neg h1, if_neg h0, Int.zero_add]
  rfl
theorem len_ge (a : Int) (r : List Int) (k m : Int) (h : (r.length : Int) + k < m) (h2 : m ≤ k) : False := by omega
theorem rLen2 {v : Int} (h : v < 2048) : rLen v = 2 ↔ 128 ≤ v := by
  unfold rLen
  by_cases g : v < 128
  · rw [if_pos g]; exact ⟨fun e => absurd e (by decide), fun e => absurd g (Int.not_lt.mpr e)⟩
  · rw [if_neg g, if_pos h]; exact ⟨fun _ => Int.not_lt.mp g, fun _ => rfl⟩
theorem rLen3 {v : Int} (h : v < 65536) : rLen v = 3 ↔ 2048 ≤ v := by
  unfold rLen
  by_cases g : v < 2048
  · refine ⟨fun e => ?_, fun e => absurd g (Int.not_lt.mpr e)⟩
    rw [if_pos g] at e
    split at e <;> exact absurd e (by decide)
  · rw [if_neg (fun q => g (Int.lt_trans q (by decide))), if_neg g, if_pos h]; exact ⟨fun _ => Int.not_lt.mp g, fun _ => rfl⟩
theorem rLen4 {v : Int} : rLen v = 4 ↔ 65536 ≤ v := by
  unfold rLen
  by_cases g : v < 65536
  · refine ⟨fun e => ?_, fun e => absurd g (Int.not_lt.mpr e)⟩
    rw [if_pos g] at e
    repeat' split at e
    all_goals exact absurd e (by decide)
  · rw [if_neg (fun q => g (Int.lt_trans q (by decide))), if_neg (fun q => g (Int.lt_trans q (by decide))), if_neg g]; exact ⟨fun _ => Int.not_lt.mp g, fun _ => rfl⟩
theorem tail2 {v : Int} {P : Prop} [Decidable P] (hP : P) (h : v < 2048) : (if v > 1114111 then ((65533, 1) : Int × Int) else if rLen v ≠ 2 then (65533, 1) else (v, 2)) = if P ∧ 128 ≤ v then (v, 2) else (65533, 1) := by
  rw [if_neg (fun e => absurd (Int.lt_trans h (Int.lt_trans (by decide : (2048 : Int) < 1114111) e)) (Int.lt_irrefl _))]
  by_cases g : 128 ≤ v
  · rw [if_neg (fun e => e ((rLen2 h).mpr g)), if_pos ⟨hP, g⟩]
  · rw [if_pos (fun e => g ((rLen2 h).mp e)), if_neg (fun e => g e.2)]
theorem tail3 {v : Int} {P R : Prop} [Decidable P] [Decidable R] (hP : P) (hR : R) (h : v < 65536) : (if v > 1114111 then ((65533, 1) : Int × Int) else if rLen v ≠ 3 then (65533, 1) else (v, 3)) = if P ∧ R ∧ 2048 ≤ v then (v, 3) else (65533, 1) := by
  rw [if_neg (fun e => absurd (Int.lt_trans h (Int.lt_trans (by decide : (65536 : Int) < 1114111) e)) (Int.lt_irrefl _))]
  by_cases g : 2048 ≤ v
  · rw [if_neg (fun e => e ((rLen3 h).mpr g)), if_pos ⟨hP, hR, g⟩]
  · rw [if_pos (fun e => g ((rLen3 h).mp e)), if_neg (fun e => g e.2.2)]
theorem tail4 {v : Int} {P R S : Prop} [Decidable P] [Decidable R] [Decidable S] (hP : P) (hR : R) (hS : S) : (if v > 1114111 then ((65533, 1) : Int × Int) else if rLen v ≠ 4 then (65533, 1) else (v, 4)) = if P ∧ R ∧ S ∧ 65536 ≤ v ∧ v ≤ 1114111 then (v, 4) else (65533, 1) := by
  by_cases q : v > 1114111
  · rw [if_pos q, if_neg (fun e => absurd e.2.2.2.2 (Int.not_le.mpr q))]
  rw [if_neg q]
  by_cases g : 65536 ≤ v
  · rw [if_neg (fun e => e (rLen4.mpr g)), if_pos ⟨hP, hR, hS, g, Int.not_lt.mp q⟩]
  · rw [if_pos (fun e => g (rLen4.mp e)), if_neg (fun e => g e.2.2.2.1)]
theorem v2_lt {o a : Int} (h : o < 224) (ha : rst a) : v2 o a < 2048 := by unfold v2; omega
theorem v3_lt {o a b : Int} (h : o < 240) (ha : rst a) (hb : rst b) : v3 o a b < 65536 := by unfold v3; omega
theorem runeF_eq (o : Int) (r : List Int) : runeAt (o :: r) 0 = runeF o (r.getD 0 0) (r.getD 1 0) (r.getD 2 0) := by
  unfold runeF
  by_cases g1 : o < 128
  · rw [if_pos g1]; exact rune1 r g1
  rw [if_neg g1]
  by_cases g2 : o < 192
  · have hf : fLen o = 0 := by unfold fLen; rw [if_neg g1, if_pos g2]
    rw [if_pos g2]
    unfold runeAt
    simp [hf]
  rw [if_neg g2]
  by_cases g3 : o < 224
  · have hf : fLen o = 2 := by unfold fLen; rw [if_neg g1, if_neg g2, if_neg (fun e => absurd (Int.lt_of_lt_of_le g3 (Int.le_trans (by decide) e)) (Int.lt_irrefl _)), if_pos g3]
    rw [if_pos g3, rune_k (k := 1) hf (by decide) (by decide) rfl rfl]
    match r with
    | [] => rfl
    | a :: r =>
      rw [if_neg (by rw [List.length_cons]; omega)]
      show (match contRune (o - 192) [a] with | none => _ | some v => _) = if rst a ∧ 128 ≤ v2 o a then (v2 o a, 2) else _
      by_cases ha : rst a
      · rw [contRune_some (rst_lt ha)]
        exact tail2 ha (v2_lt g3 ha)
      · rw [contRune_no (rst_no ha), if_neg (fun e => ha e.1)]
  rw [if_neg g3]
  by_cases g4 : o < 240
  · have hf : fLen o = 3 := by unfold fLen; rw [if_neg g1, if_neg g2, if_neg (fun e => absurd (Int.lt_of_lt_of_le g4 (Int.le_trans (by decide) e)) (Int.lt_irrefl _)), if_neg g3, if_pos g4]
    rw [if_pos g4, rune_k (k := 2) hf (by decide) (by decide) rfl rfl]
    match r with
    | [] => rfl
    | [a] => exact (if_pos (show ((1 : Nat) : Int) + 1 < 3 from by decide)).trans (if_neg fun e => absurd (show (128 : Int) ≤ 0 from e.2.1.1) (by decide)).symm
    | a :: b :: r =>
      rw [if_neg (by rw [List.length_cons, List.length_cons]; omega)]
      show (match contRune (o - 224) [a, b] with | none => _ | some v => _) = if rst a ∧ rst b ∧ 2048 ≤ v3 o a b then (v3 o a b, 3) else _
      by_cases ha : rst a
      · rw [contRune_some (rst_lt ha)]
        by_cases hb : rst b
        · rw [contRune_some (rst_lt hb)]
          exact tail3 ha hb (v3_lt g4 ha hb)
        · rw [contRune_no (rst_no hb), if_neg (fun e => hb e.2.1)]
      · rw [contRune_no (rst_no ha), if_neg (fun e => ha e.1)]
  rw [if_neg g4]
  by_cases g5 : o < 248
  · have hf : fLen o = 4 := by unfold fLen; rw [if_neg g1, if_neg g2, if_neg (fun e => absurd (Int.lt_of_lt_of_le g5 e) (Int.lt_irrefl _)), if_neg g3, if_neg g4]
    rw [if_pos g5, rune_k (k := 3) hf (by decide) (by decide) rfl rfl]
    match r with
    | [] => rfl
    | [a] => exact (if_pos (show ((1 : Nat) : Int) + 1 < 4 from by decide)).trans (if_neg fun e => absurd (show (128 : Int) ≤ 0 from e.2.1.1) (by decide)).symm
    | [a, b] => exact (if_pos (show ((2 : Nat) : Int) + 1 < 4 from by decide)).trans (if_neg fun e => absurd (show (128 : Int) ≤ 0 from e.2.2.1.1) (by decide)).symm
    | a :: b :: c :: r =>
      rw [if_neg (by rw [List.length_cons, List.length_cons, List.length_cons]; omega)]
      show (match contRune (o - 240) [a, b, c] with | none => _ | some v => _) = if rst a ∧ rst b ∧ rst c ∧ 65536 ≤ v4 o a b c ∧ v4 o a b c ≤ 1114111 then (v4 o a b c, 4) else _
      by_cases ha : rst a
      · rw [contRune_some (rst_lt ha)]
        by_cases hb : rst b
        · rw [contRune_some (rst_lt hb)]
          by_cases hc : rst c
          · rw [contRune_some (rst_lt hc)]
            exact tail4 ha hb hc
          · rw [contRune_no (rst_no hc), if_neg (fun e => hc e.2.2.1)]
        · rw [contRune_no (rst_no hb), if_neg (fun e => hb e.2.1)]
      · rw [contRune_no (rst_no ha), if_neg (fun e => ha e.1)]
  rw [if_neg g5]
  have hf : fLen o = 0 := by unfold fLen; rw [if_neg g1, if_neg g2, if_pos (Int.not_lt.mp g5)]
  unfold runeAt
  simp [hf]
/-- the rune at the head, by its length -/
def vF (o a b c m : Int) : Int := if m = 1 then o else if m = 2 then v2 o a else if m = 3 then v3 o a b else v4 o a b c
theorem tab_if {P Q : Prop} [Decidable P] [Decidable Q] {o a b c v m : Int} (e : P ↔ Q) (hm : m ≠ 0) (hv : vF o a b c m = v) :
    (if P then (v, m) else ((65533, 1) : Int × Int)) = if (if Q then m else 0) = 0 then (65533, 1) else (vF o a b c (if Q then m else 0), if Q then m else 0) := by
  by_cases hq : Q
  · rw [if_pos (e.mpr hq), if_pos hq, if_neg hm, hv]
  · rw [if_neg (fun p => hq (e.mp p)), if_neg hq, if_pos rfl]
theorem v3_ge {o a b : Int} (h : 224 ≤ o) (ha : rst a) (hb : rst b) (h4 : o = 224 → 160 ≤ a) : 2048 ≤ v3 o a b := by
  unfold v3
  by_cases q : o = 224
  · have := h4 q; omega
  · omega
theorem v4_in {o a b c : Int} (h : 240 ≤ o ∧ o < 245) (ha : rst a) (hb : rst b) (hc : rst c) (h4 : (o = 240 → 144 ≤ a) ∧ (o = 244 → a ≤ 143)) : 65536 ≤ v4 o a b c ∧ v4 o a b c < 1114112 := by
  unfold v4
  refine ⟨?_, ?_⟩
  · by_cases q : o = 240
    · have := h4.1 q; omega
    · omega
  · by_cases q : o = 244
    · have := h4.2 q; omega
    · omega
/-- the table and the reader answer alike -/
theorem tableF {o : Int} (a b c : Int) (h0 : 0 ≤ o) : runeF o a b c = if formF o a b c = 0 then (65533, 1) else (vF o a b c (formF o a b c), formF o a b c) := by
  unfold runeF formF
  rw [if_neg (Int.not_lt.mpr h0)]
  by_cases g1 : o < 128
  · rw [if_pos g1, if_pos g1]; rfl
  rw [if_neg g1, if_neg g1]
  by_cases g2 : o < 192
  · rw [if_pos g2, if_pos (Int.lt_trans g2 (by decide))]; rfl
  rw [if_neg g2]
  by_cases g3 : o < 224
  · rw [if_pos g3]
    by_cases g : o < 194
    · rw [if_pos g, if_neg (fun e => by have := e.1; have := e.2; unfold v2 at this; omega)]; rfl
    · rw [if_neg g, if_pos g3]
      exact tab_if ⟨fun e => e.1, fun e => ⟨e, by unfold v2; omega⟩⟩ (by decide) rfl
  have g2' : ¬ o < 194 := fun e => g3 (Int.lt_trans e (by decide))
  rw [if_neg g3, if_neg g2', if_neg g3]
  by_cases g4 : o < 240
  · rw [if_pos g4, if_pos g4]
    exact tab_if ⟨fun e => ⟨⟨e.1, e.2.1⟩, fun q => by have := e.2.1; have := e.2.2; unfold v3 at this; omega⟩, fun e => ⟨e.1.1, e.1.2, v3_ge (Int.not_lt.mp g3) e.1.1 e.1.2 e.2⟩⟩ (by decide) rfl
  rw [if_neg g4, if_neg g4]
  by_cases g5 : o < 248
  · rw [if_pos g5]
    by_cases g : o < 245
    · rw [if_pos g]
      exact tab_if ⟨fun e => ⟨⟨e.1, e.2.1, e.2.2.1⟩, fun q => by have := e.2.1; have := e.2.2.1; have := e.2.2.2.1; unfold v4 at this; omega, fun q => by have := e.2.1; have := e.2.2.1; have := e.2.2.2.2; unfold v4 at this; omega⟩, fun e => have q := v4_in ⟨Int.not_lt.mp g4, g⟩ e.1.1 e.1.2.1 e.1.2.2 e.2; ⟨e.1.1, e.1.2.1, e.1.2.2, q.1, Int.lt_add_one_iff.mp q.2⟩⟩ (by decide) rfl
    · rw [if_neg g, if_neg (fun e => by have := e.1; have := e.2.1; have := e.2.2.1; have := e.2.2.2.2; unfold v4 at this; omega)]; rfl
  · have g : ¬ o < 245 := fun e => g5 (Int.lt_trans e (by decide))
    rw [if_neg g5, if_neg g]; rfl
theorem manyF {o : Int} {r : List Int} : manyAt false (o :: r) 0 = formF o (r.getD 0 0) (r.getD 1 0) (r.getD 2 0) := formF_eq o r
theorem runeV1 (o : Int) (r : List Int) : runeV (o :: r) 0 1 = o := by
  simp [runeV, seg, offM]
theorem form_ways (o a b c : Int) : formF o a b c = 0 ∨ (formF o a b c = 1 ∧ 0 ≤ o ∧ o < 128) ∨ (formF o a b c = 2 ∧ (194 ≤ o ∧ o < 224) ∧ rst a) ∨
    (formF o a b c = 3 ∧ (224 ≤ o ∧ o < 240) ∧ rst a ∧ rst b ∧ (o = 224 → 160 ≤ a)) ∨ (formF o a b c = 4 ∧ (240 ≤ o ∧ o < 245) ∧ rst a ∧ rst b ∧ rst c ∧ (o = 240 → 144 ≤ a) ∧ (o = 244 → a ≤ 143)) := by
  unfold formF
  by_cases g0 : o < 0
  · rw [if_pos g0]; exact .inl rfl
  rw [if_neg g0]
  by_cases g1 : o < 128
  · rw [if_pos g1]; exact .inr (.inl ⟨rfl, Int.not_lt.mp g0, g1⟩)
  rw [if_neg g1]
  by_cases g2 : o < 194
  · rw [if_pos g2]; exact .inl rfl
  rw [if_neg g2]
  by_cases g3 : o < 224
  · rw [if_pos g3]
    by_cases h : rst a
    · rw [if_pos h]; exact .inr (.inr (.inl ⟨rfl, ⟨Int.not_lt.mp g2, g3⟩, h⟩))
    · rw [if_neg h]; exact .inl rfl
  rw [if_neg g3]
  by_cases g4 : o < 240
  · rw [if_pos g4]
    split
    · rename_i h; exact .inr (.inr (.inr (.inl ⟨rfl, ⟨Int.not_lt.mp g3, g4⟩, h.1.1, h.1.2, h.2⟩)))
    · exact .inl rfl
  rw [if_neg g4]
  by_cases g5 : o < 245
  · rw [if_pos g5]
    split
    · rename_i h; exact .inr (.inr (.inr (.inr ⟨rfl, ⟨Int.not_lt.mp g4, g5⟩, h.1.1, h.1.2.1, h.1.2.2, h.2⟩)))
    · exact .inl rfl
  · rw [if_neg g5]; exact .inl rfl
theorem form_one {o a b c : Int} (h : 0 ≤ o) (h1 : o < 128) : formF o a b c = 1 := (if_neg (Int.not_lt.mpr h)).trans (if_pos h1)
theorem formF_in (o a b c : Int) : 0 ≤ formF o a b c ∧ formF o a b c ≤ 4 := by
  rcases form_ways o a b c with h | ⟨h, _⟩ | ⟨h, _⟩ | ⟨h, _⟩ | ⟨h, _⟩ <;> rw [h] <;> decide
/-- the ways of a form, with the octets that bear it -/
theorem form_cases {o m : Int} {r : List Int} (hm : formF o (r.getD 0 0) (r.getD 1 0) (r.getD 2 0) = m) (h : m ≠ 0) :
    (m = 1 ∧ 0 ≤ o ∧ o < 128) ∨ (∃ a t, r = a :: t ∧ m = 2 ∧ (194 ≤ o ∧ o < 224) ∧ rst a) ∨ (∃ a b t, r = a :: b :: t ∧ m = 3 ∧ (224 ≤ o ∧ o < 240) ∧ rst a ∧ rst b ∧ (o = 224 → 160 ≤ a)) ∨
    (∃ a b c t, r = a :: b :: c :: t ∧ m = 4 ∧ (240 ≤ o ∧ o < 245) ∧ rst a ∧ rst b ∧ rst c ∧ (o = 240 → 144 ≤ a) ∧ (o = 244 → a ≤ 143)) := by
  have hw := form_ways o (r.getD 0 0) (r.getD 1 0) (r.getD 2 0)
  rw [hm] at hw
  rcases hw with h1 | h1 | h1 | h1 | h1
  · exact absurd h1 h
  · exact .inl h1
  · match r with
    | [] => exact absurd (show (128 : Int) ≤ 0 from h1.2.2.1) (by decide)
    | a :: r => exact .inr (.inl ⟨a, r, rfl, h1⟩)
  · match r with
    | [] => exact absurd (show (128 : Int) ≤ 0 from h1.2.2.1.1) (by decide)
    | [a] => exact absurd (show (128 : Int) ≤ 0 from h1.2.2.2.1.1) (by decide)
    | a :: b :: r => exact .inr (.inr (.inl ⟨a, b, r, rfl, h1⟩))
  · match r with
    | [] => exact absurd (show (128 : Int) ≤ 0 from h1.2.2.1.1) (by decide)
    | [a] => exact absurd (show (128 : Int) ≤ 0 from h1.2.2.2.1.1) (by decide)
    | [a, b] => exact absurd (show (128 : Int) ≤ 0 from h1.2.2.2.2.1.1) (by decide)
    | a :: b :: c :: r => exact .inr (.inr (.inr ⟨a, b, c, r, rfl, h1⟩))
theorem runeVF {o m : Int} {r : List Int} (hm : formF o (r.getD 0 0) (r.getD 1 0) (r.getD 2 0) = m) (h : m ≠ 0) : runeV (o :: r) 0 m = vF o (r.getD 0 0) (r.getD 1 0) (r.getD 2 0) m := by
  rcases form_cases hm h with ⟨rfl, _⟩ | ⟨a, t, rfl, rfl, _⟩ | ⟨a, b, t, rfl, rfl, _⟩ | ⟨a, b, c, t, rfl, rfl, _⟩
  · exact runeV1 o r
  · rfl
  · rfl
  · rfl
theorem ad (k x : Int) : k + (x - k) = x := by omega
/-- the octets that a rune stood for -/
theorem enc_back {o m : Int} {r : List Int} (hm : formF o (r.getD 0 0) (r.getD 1 0) (r.getD 2 0) = m) (h : m ≠ 0) : enc (vF o (r.getD 0 0) (r.getD 1 0) (r.getD 2 0) m) = (o :: r).take m.toNat ∧ (0 ≤ vF o (r.getD 0 0) (r.getD 1 0) (r.getD 2 0) m ∧ vF o (r.getD 0 0) (r.getD 1 0) (r.getD 2 0) m < 1114112) ∧ m ≤ ((o :: r).length : Int) := by
  rcases form_cases hm h with ⟨rfl, h1, h2⟩ | ⟨a, t, rfl, rfl, ho, ha⟩ | ⟨a, b, t, rfl, rfl, ho, ha, hb, h4⟩ | ⟨a, b, c, t, rfl, rfl, ho, ha, hb, hc, h4⟩
  · exact ⟨if_pos h2, ⟨h1, Int.lt_trans h2 (by decide)⟩, by rw [List.length_cons]; omega⟩
  · have hv : 128 ≤ v2 o a ∧ v2 o a < 2048 := ⟨by unfold v2; omega, v2_lt ho.2 ha⟩
    refine ⟨?_, ⟨Int.le_trans (by decide) hv.1, Int.lt_trans hv.2 (by decide)⟩, by rw [List.length_cons, List.length_cons]; omega⟩
    show enc (v2 o a) = [o, a]
    unfold enc
    rw [if_neg (Int.not_lt.mpr hv.1), if_pos hv.2]
    unfold v2
    rw [(dm ha).1, (dm ha).2, ad]
  · have hv : 2048 ≤ v3 o a b ∧ v3 o a b < 65536 := ⟨v3_ge ho.1 ha hb h4, v3_lt ho.2 ha hb⟩
    refine ⟨?_, ⟨Int.le_trans (by decide) hv.1, Int.lt_trans hv.2 (by decide)⟩, by rw [List.length_cons, List.length_cons, List.length_cons]; omega⟩
    show enc (v3 o a b) = [o, a, b]
    unfold enc
    rw [if_neg (fun e => absurd (Int.lt_of_lt_of_le e (Int.le_trans (by decide) hv.1)) (Int.lt_irrefl _)), if_neg (Int.not_lt.mpr hv.1), if_pos hv.2]
    unfold v3
    rw [(dm hb).1, (dm hb).2, (dm ha).1, (dm ha).2, ad]
  · have hv := v4_in ho ha hb hc h4
    refine ⟨?_, ⟨Int.le_trans (by decide) hv.1, hv.2⟩, by rw [List.length_cons, List.length_cons, List.length_cons, List.length_cons]; omega⟩
    show enc (v4 o a b c) = [o, a, b, c]
    unfold enc
    rw [if_neg (fun e => absurd (Int.lt_of_lt_of_le e (Int.le_trans (by decide) hv.1)) (Int.lt_irrefl _)), if_neg (fun e => absurd (Int.lt_of_lt_of_le e (Int.le_trans (by decide) hv.1)) (Int.lt_irrefl _)), if_neg (Int.not_lt.mpr hv.1)]
    unfold v4
    rw [(dm hc).1, (dm hc).2, (dm hb).1, (dm hb).2, (dm ha).1, (dm ha).2, ad]
/-- how the octets behind a sign look once they are quoted -/
theorem quote_cons (x : Int) (r : List Int) : (x < 128 → (quoteL (x :: r)).getD 0 0 < 128) ∧ (128 ≤ x → quoteL (x :: r) = x :: quoteL r) := by
  unfold quoteL
  rw [List.flatMap_cons]
  unfold quoteOne
  refine ⟨fun h => ?_, fun h => ?_⟩
  · split
    · exact (by decide : (92 : Int) < 128)
    · split
      · exact h
      · exact (by decide : (92 : Int) < 128)
  · rw [if_neg (by omega), if_pos (Or.inl h)]
    rfl
theorem quote_look (r : List Int) : (r.getD 0 0 < 128 ∧ (quoteL r).getD 0 0 < 128) ∨ (128 ≤ r.getD 0 0 ∧ (quoteL r).getD 0 0 = r.getD 0 0 ∧
    ((r.getD 1 0 < 128 ∧ (quoteL r).getD 1 0 < 128) ∨ (128 ≤ r.getD 1 0 ∧ (quoteL r).getD 1 0 = r.getD 1 0 ∧
    ((r.getD 2 0 < 128 ∧ (quoteL r).getD 2 0 < 128) ∨ (128 ≤ r.getD 2 0 ∧ (quoteL r).getD 2 0 = r.getD 2 0))))) := by
  have look : ∀ r : List Int, (r.getD 0 0 < 128 ∧ (quoteL r).getD 0 0 < 128) ∨ (128 ≤ r.getD 0 0 ∧ (quoteL r).getD 0 0 = r.getD 0 0 ∧ ∃ x t, r = x :: t ∧ quoteL r = x :: quoteL t)
    | [] => .inl ⟨by decide, by decide⟩
    | x :: t => by
      obtain ⟨h1, h2⟩ := quote_cons x t
      by_cases hx : x < 128
      · exact .inl ⟨hx, h1 hx⟩
      · exact .inr ⟨Int.not_lt.mp hx, by rw [h2 (Int.not_lt.mp hx)]; rfl, x, t, rfl, h2 (Int.not_lt.mp hx)⟩
  rcases look r with h | ⟨h1, h2, x, t, rfl, e⟩
  · exact .inl h
  refine .inr ⟨h1, h2, ?_⟩
  rw [e]
  show (t.getD 0 0 < 128 ∧ (quoteL t).getD 0 0 < 128) ∨ (128 ≤ t.getD 0 0 ∧ (quoteL t).getD 0 0 = t.getD 0 0 ∧ ((t.getD 1 0 < 128 ∧ (quoteL t).getD 1 0 < 128) ∨ (128 ≤ t.getD 1 0 ∧ (quoteL t).getD 1 0 = t.getD 1 0)))
  rcases look t with h | ⟨h1, h2, y, t', rfl, e⟩
  · exact .inl h
  refine .inr ⟨h1, h2, ?_⟩
  rw [e]
  show (t'.getD 0 0 < 128 ∧ (quoteL t').getD 0 0 < 128) ∨ (128 ≤ t'.getD 0 0 ∧ (quoteL t').getD 0 0 = t'.getD 0 0)
  rcases look t' with h | ⟨h1, h2, _⟩
  · exact .inl h
  · exact .inr ⟨h1, h2⟩
section
variable {P Q R : Prop} {α : Type} {u v : α} [Decidable P] [Decidable Q] [Decidable R]
theorem nf1 (h : ¬ P) : (if P ∧ Q then u else v) = v := if_neg fun e => h e.1
theorem nf2 (h : ¬ Q) : (if P ∧ Q ∧ R then u else v) = v := if_neg fun e => h e.2.1
theorem nf3 {S : Prop} [Decidable S] (h : ¬ R) : (if P ∧ Q ∧ R ∧ S then u else v) = v := if_neg fun e => h e.2.2.1
end
theorem lo_rst {x : Int} (h : x < 128) : ¬ rst x := fun e => absurd h (Int.not_lt.mpr e.1)
theorem rune_quote (o : Int) (r : List Int) : runeF o ((quoteL r).getD 0 0) ((quoteL r).getD 1 0) ((quoteL r).getD 2 0) = runeF o (r.getD 0 0) (r.getD 1 0) (r.getD 2 0) := by
  have h := quote_look r
  generalize r.getD 0 0 = a at *
  generalize r.getD 1 0 = b at *
  generalize r.getD 2 0 = c at *
  generalize (quoteL r).getD 0 0 = a' at *
  generalize (quoteL r).getD 1 0 = b' at *
  generalize (quoteL r).getD 2 0 = c' at *
  unfold runeF
  rcases h with h | ⟨h1, rfl, h | ⟨h2, rfl, h | ⟨h3, rfl⟩⟩⟩
  · have n := lo_rst h.1
    have n' := lo_rst h.2
    rw [nf1 (P := rst a) n, nf1 (P := rst a) n, nf1 (P := rst a) n, nf1 (P := rst a') n', nf1 (P := rst a') n', nf1 (P := rst a') n']
  · have n := lo_rst h.1
    have n' := lo_rst h.2
    rw [nf2 (Q := rst b) n, nf2 (Q := rst b) n, nf2 (Q := rst b') n', nf2 (Q := rst b') n']
  · have n := lo_rst h.1
    have n' := lo_rst h.2
    rw [nf3 (R := rst c) n, nf3 (R := rst c') n']
  · rfl
theorem getD_at {qs t : List Int} {x : Int} {i : Nat} (h : qs.drop i = x :: t) : qs.getD i 0 = x ∧ i < qs.length ∧ qs.drop (i + 1) = t := by
  have e := getD_drop qs i 0
  rw [h] at e
  have hl := congrArg List.length h
  rw [List.length_drop, List.length_cons] at hl
  exact ⟨e.symm, by omega, by rw [← List.drop_drop, h]; rfl⟩
theorem sign_low {lat : Bool} {qs t : List Int} {x : Int} {i : Nat} (h : qs.drop i = x :: t) (hx : x < 128) : signAt lat qs i = (x, 1) ∧ ¬ badAt lat qs i := by
  obtain ⟨h1, h2, _⟩ := getD_at h
  have hr : runeAt qs i = (x, 1) := by rw [runeAt_drop qs i (Nat.le_of_lt h2), h, rune1 t hx]
  refine ⟨?_, fun hb => ?_⟩
  · unfold signAt
    split
    · rw [Int.toNat_natCast, h1]
    · exact hr
  · have hb2 := hb.2
    rw [hr] at hb2
    injection hb2 with e
    omega
theorem many_low {lat : Bool} {ks r : List Int} {o : Int} {j : Nat} (h : ks.drop j = o :: r) (h0 : 0 ≤ o) (h1 : o < 128) : manyAt lat ks j = 1 := by
  rw [manyAt_drop, h]
  cases lat
  · rw [manyF]; exact form_one h0 h1
  · rfl
theorem v_one {ks r : List Int} {o : Int} {j : Nat} (h : ks.drop j = o :: r) : runeV ks j 1 = o := by
  rw [runeV_drop ks j 1 (by decide), h, runeV1]
theorem take_q {ks r : List Int} {o : Int} {j : Nat} (h : ks.drop j = o :: r) : quoteL (ks.take (j + 1)) = quoteL (ks.take j) ++ quoteOne o := by
  have e : ks.take (j + 1) = ks.take j ++ [o] := by rw [List.take_add_one, ← List.head?_drop, h]; rfl
  rw [e, quoteL_app]
  simp [quoteL]
theorem word_low {o : Int} (h : isWord o = true) : o < 128 ∧ 0 < o ∧ o ≠ 92 := by
  simp [isWord] at h
  omega
theorem quote_hi (h : List Int) (hh : ∀ x ∈ h, 128 ≤ x) : quoteL h = h := by
  induction h with
  | nil => rfl
  | cons o r ih =>
    rw [(quote_cons o r).2 (hh o (.head _)), ih fun x hx => hh x (.tail _ hx)]
theorem form_high {o m : Int} {r : List Int} (hm : formF o (r.getD 0 0) (r.getD 1 0) (r.getD 2 0) = m) (h : m ≠ 0) (ho : 128 ≤ o) : (∀ x ∈ (o :: r).take m.toNat, 128 ≤ x) ∧ 128 ≤ vF o (r.getD 0 0) (r.getD 1 0) (r.getD 2 0) m := by
  rcases form_cases hm h with ⟨rfl, _, h2⟩ | ⟨a, t, rfl, rfl, h1, ha⟩ | ⟨a, b, t, rfl, rfl, h1, ha, hb, h4⟩ | ⟨a, b, c, t, rfl, rfl, h1, ha, hb, hc, h4⟩
  · exact absurd h2 (Int.not_lt.mpr ho)
  · refine ⟨fun x hx => ?_, by show 128 ≤ v2 o a; unfold v2; omega⟩
    rcases List.mem_cons.mp hx with rfl | hx
    · exact ho
    · rw [List.mem_singleton.mp hx]; exact ha.1
  · refine ⟨fun x hx => ?_, Int.le_trans (by decide) (v3_ge h1.1 ha hb h4)⟩
    rcases List.mem_cons.mp hx with rfl | hx
    · exact ho
    · rcases List.mem_cons.mp hx with rfl | hx
      · exact ha.1
      · rw [List.mem_singleton.mp hx]; exact hb.1
  · refine ⟨fun x hx => ?_, Int.le_trans (by decide) (v4_in h1 ha hb hc h4).1⟩
    rcases List.mem_cons.mp hx with rfl | hx
    · exact ho
    · rcases List.mem_cons.mp hx with rfl | hx
      · exact ha.1
      · rcases List.mem_cons.mp hx with rfl | hx
        · exact hb.1
        · rw [List.mem_singleton.mp hx]; exact hc.1
theorem signs {lat : Bool} {ks : List Int} (hk : ∀ o ∈ ks, 0 ≤ o) (j : Nat) (hj : j < ks.length) : SignCase lat ks j ((quoteL (ks.take j)).length : Int) := by
  obtain ⟨o, r, hd⟩ : ∃ o r, ks.drop j = o :: r := by
    cases hd : ks.drop j with
    | nil => have := congrArg List.length hd; rw [List.length_drop, List.length_nil] at this; omega
    | cons o r => exact ⟨o, r, rfl⟩
  have ho : 0 ≤ o := hk o (List.mem_of_mem_drop (by rw [hd]; exact .head _))
  have hq : (quoteL ks).drop (quoteL (ks.take j)).length = quoteOne o ++ quoteL r := by
    rw [quoteL_drop, hd]
    unfold quoteL
    rw [List.flatMap_cons]
  have ht := congrArg List.length (take_q hd)
  rw [List.length_append] at ht
  generalize hi : (quoteL (ks.take j)).length = i at *
  have hv := v_one hd
  by_cases h0 : o = 0
  · subst h0
    have hm := many_low (lat := lat) hd (by decide) (by decide)
    rw [show quoteOne 0 = [92, 120, 48, 48] from rfl] at hq ht
    obtain ⟨_, b1, hq1⟩ := getD_at hq
    obtain ⟨_, b2, hq2⟩ := getD_at hq1
    obtain ⟨g3, b3, hq3⟩ := getD_at hq2
    obtain ⟨g4, b4, hq4⟩ := getD_at hq3
    obtain ⟨s1, n1⟩ := sign_low (lat := lat) hq (by decide)
    obtain ⟨s2, n2⟩ := sign_low (lat := lat) hq1 (by decide)
    exact .zero hm hv (by omega) s1 n1 s2 n2 g3 g4 (by rw [ht]; rfl)
  · by_cases hp : 128 ≤ o ∨ isWord o = true
    · have hone : quoteOne o = [o] := by unfold quoteOne; rw [if_neg h0, if_pos hp]
      rw [hone] at hq ht
      rw [List.length_singleton] at ht
      obtain ⟨g1, b1, hq1⟩ := getD_at hq
      by_cases hl : lat = true
      · subst hl
        refine .plain Int.one_ne_zero (by omega) (by rw [show manyAt true ks j = 1 from rfl, hv, show signAt true (quoteL ks) i = ((quoteL ks).getD (i : Int).toNat 0, 1) from rfl, Int.toNat_natCast, g1]) (fun hb => nomatch hb.1) ?_ ?_ (by rw [show manyAt true ks j = 1 from rfl, show (1 : Int).toNat = 1 from rfl]; omega)
        · rw [show manyAt true ks j = 1 from rfl, hv]
          rcases hp with hp | hp
          · omega
          · exact (word_low hp).2.2
        · rw [show manyAt true ks j = 1 from rfl, hv]
          exact fun hlt => hp.elim (fun h => by omega) id
      · obtain rfl : lat = false := Bool.eq_false_iff.mpr hl
        have hR : runeAt (quoteL ks) i = runeAt (o :: quoteL r) 0 := by rw [runeAt_drop _ i (Nat.le_of_lt b1), hq]; rfl
        rw [runeF_eq, rune_quote, tableF _ _ _ ho] at hR
        have hm : manyAt false ks j = formF o (r.getD 0 0) (r.getD 1 0) (r.getD 2 0) := by rw [manyAt_drop, hd, manyF]
        generalize hmm : formF o (r.getD 0 0) (r.getD 1 0) (r.getD 2 0) = m at *
        by_cases hm0 : m = 0
        · rw [if_pos hm0] at hR
          refine .bad (hm.trans hm0) (by omega) ⟨rfl, hR⟩ ?_
          have e := seg_drop (quoteL ks) i 0 1 (by decide) (by decide)
          rw [Int.add_zero, hq] at e
          rw [e]
          have g2 := (getD_at hd).1
          rw [g2]
          rfl
        · rw [if_neg hm0] at hR
          have hV : runeV ks j m = vF o (r.getD 0 0) (r.getD 1 0) (r.getD 2 0) m := by
            have := formF_in o (r.getD 0 0) (r.getD 1 0) (r.getD 2 0)
            rw [runeV_drop ks j m (by omega), hd, runeVF hmm hm0]
          have hin := formF_in o (r.getD 0 0) (r.getD 1 0) (r.getD 2 0)
          rw [hmm] at hin
          have hb := enc_back hmm hm0
          have hne : runeAt (quoteL ks) i ≠ (65533, 1) := by
            intro e
            rw [hR] at e
            injection e with e1 e2
            subst e2
            have e1' : o = 65533 := e1
            rcases form_cases hmm (by decide) with ⟨_, _, h⟩ | ⟨_, _, _, h, _⟩ | ⟨_, _, _, _, h, _⟩ | ⟨_, _, _, _, _, h, _⟩
            · omega
            · exact absurd h (by decide)
            · exact absurd h (by decide)
            · exact absurd h (by decide)
          have hc : vF o (r.getD 0 0) (r.getD 1 0) (r.getD 2 0) m ≠ 92 ∧ (vF o (r.getD 0 0) (r.getD 1 0) (r.getD 2 0) m < 128 → isWord (vF o (r.getD 0 0) (r.getD 1 0) (r.getD 2 0) m) = true) := by
            rcases hp with hp | hp
            · have := (form_high hmm hm0 hp).2
              omega
            · have hw := word_low hp
              have hm1 : m = 1 := by rw [← hmm]; exact form_one ho (by omega)
              subst hm1
              exact ⟨hw.2.2, fun _ => hp⟩
          refine .plain (by rw [hm]; exact hm0) (by omega) (by rw [hm, hV]; exact hR) (fun hb => hne hb.2) (by rw [hm, hV]; exact hc.1) (by rw [hm, hV]; exact hc.2) ?_
          rw [hm]
          by_cases hh : 128 ≤ o
          · have hhi := (form_high hmm hm0 hh).1
            rw [← hd] at hhi
            have ht2 : ks.take (j + m.toNat) = ks.take j ++ (ks.drop j).take m.toNat := by rw [List.take_add]
            rw [ht2, quoteL_app, List.length_append, hi, quote_hi _ hhi, hd, List.length_take]
            omega
          · have hm1 : m = 1 := by rw [← hmm]; exact form_one ho (by omega)
            subst hm1
            rw [show (1 : Int).toNat = 1 from rfl]
            omega
    · have hm := many_low (lat := lat) hd (by omega) (by omega)
      have hone : quoteOne o = [92, o] := by unfold quoteOne; rw [if_neg h0, if_neg hp]
      rw [hone] at hq ht
      obtain ⟨_, b1, hq1⟩ := getD_at hq
      obtain ⟨_, b2, hq2⟩ := getD_at hq1
      obtain ⟨s1, n1⟩ := sign_low (lat := lat) hq (by decide)
      obtain ⟨s2, n2⟩ := sign_low (lat := lat) hq1 (by omega)
      have hw : ¬ isWord o = true := fun h => hp (Or.inr h)
      simp [isWord] at hw
      exact .quoted o hm hv (by omega) s1 n1 s2 n2 ho (by omega) (by omega) (by omega) (by omega) (by rw [ht]; rfl)
theorem runes_enc {lat : Bool} {ks : List Int} (hk : ∀ o ∈ ks, 0 ≤ o) : ∀ (n j : Nat) (acc : List Int), (runesR lat ks n j acc).2 < 0 → j ≤ ks.length → (ks.length : Int) - j < n → encB lat (runesR lat ks n j acc).1 = encB lat acc ++ ks.drop j
  | 0, j, acc, _, h, h' => by omega
  | n + 1, j, acc, hr, h, h' => by
    unfold runesR at hr ⊢
    by_cases hj : (j : Int) < ks.length
    · rw [if_pos hj] at hr ⊢
      by_cases hm : manyAt lat ks j = 0
      · rw [if_pos hm] at hr
        exact absurd hr (by show ¬ (j : Int) < 0; omega)
      · rw [if_neg hm] at hr ⊢
        have h4 := manyAt_in lat ks j
        obtain ⟨o, r, hd⟩ : ∃ o r, ks.drop j = o :: r := by
          cases hd : ks.drop j with
          | nil => have := congrArg List.length hd; rw [List.length_drop, List.length_nil] at this; omega
          | cons o r => exact ⟨o, r, rfl⟩
        have key : encB lat [runeV ks j (manyAt lat ks j)] = (ks.drop j).take (manyAt lat ks j).toNat ∧ manyAt lat ks j ≤ ((ks.drop j).length : Int) := by
          cases lat with
          | true =>
            refine ⟨?_, by rw [hd, show manyAt true ks j = 1 from rfl, List.length_cons]; omega⟩
            rw [show manyAt true ks j = 1 from rfl, v_one hd, hd]; rfl
          | false =>
            have hm2 : manyAt false ks j = formF o (r.getD 0 0) (r.getD 1 0) (r.getD 2 0) := by rw [manyAt_drop, hd, manyF]
            rw [hm2] at hm h4 ⊢
            generalize hmm : formF o (r.getD 0 0) (r.getD 1 0) (r.getD 2 0) = m at *
            obtain ⟨e1, _, e2⟩ := enc_back hmm hm
            rw [runeV_drop ks j m h4.1, hd, runeVF hmm hm]
            exact ⟨by rw [← e1]; exact List.append_nil _, e2⟩
        have hz : j + (manyAt lat ks j).toNat ≤ ks.length := by have := key.2; rw [List.length_drop] at this; omega
        have ej : (j : Int) + manyAt lat ks j = ((j + (manyAt lat ks j).toNat : Nat) : Int) := by omega
        rw [ej] at hr ⊢
        rw [runes_enc hk n _ _ hr hz (by omega)]
        have ea : encB lat (acc ++ [runeV ks j (manyAt lat ks j)]) = encB lat acc ++ encB lat [runeV ks j (manyAt lat ks j)] := by
          unfold encB
          split
          · rfl
          · rw [List.flatMap_append]
        rw [ea, key.1, List.append_assoc, ← List.drop_drop, List.take_append_drop]
    · rw [if_neg hj]
      show encB lat acc = _
      rw [List.drop_eq_nil_of_le (by omega), List.append_nil]
theorem henc_all {lat : Bool} {ks : List Int} (hk : ∀ o ∈ ks, 0 ≤ o) (h : (runesL lat ks).2 < 0) : encB lat (runesL lat ks).1 = ks := by
  have := runes_enc hk (ks.length + 1) 0 [] h (Nat.zero_le _) (by omega)
  rw [show runesR lat ks (ks.length + 1) ((0 : Nat) : Int) [] = runesL lat ks from rfl] at this
  rw [this]
  cases lat <;> rfl
theorem runes_in {lat : Bool} {ks : List Int} (hk : ∀ o ∈ ks, 0 ≤ o ∧ o < 256) : ∀ (n j : Nat) (acc : List Int), (∀ x ∈ acc, 0 ≤ x ∧ x < if lat = true then 256 else 1114112) → acc.length ≤ j → (∀ x ∈ (runesR lat ks n j acc).1, 0 ≤ x ∧ x < if lat = true then 256 else 1114112) ∧ (runesR lat ks n j acc).1.length ≤ acc.length + n
  | 0, j, acc, h, hl => ⟨h, Nat.le_refl _⟩
  | n + 1, j, acc, h, hl => by
    unfold runesR
    by_cases hj : (j : Int) < ks.length
    · rw [if_pos hj]
      by_cases hm : manyAt lat ks j = 0
      · rw [if_pos hm]; exact ⟨h, Nat.le_add_right _ _⟩
      · rw [if_neg hm]
        have h4 := manyAt_in lat ks j
        obtain ⟨o, r, hd⟩ : ∃ o r, ks.drop j = o :: r := by
          cases hd : ks.drop j with
          | nil => have := congrArg List.length hd; rw [List.length_drop, List.length_nil] at this; omega
          | cons o r => exact ⟨o, r, rfl⟩
        have ho := hk o (List.mem_of_mem_drop (by rw [hd]; exact .head _))
        have ej : (j : Int) + manyAt lat ks j = ((j + (manyAt lat ks j).toNat : Nat) : Int) := by omega
        rw [ej]
        have hacc : ∀ x ∈ acc ++ [runeV ks j (manyAt lat ks j)], 0 ≤ x ∧ x < if lat = true then 256 else 1114112 := by
          intro x hx
          rcases List.mem_append.mp hx with hx | hx
          · exact h x hx
          rw [List.mem_singleton.mp hx]
          cases lat with
          | true => rw [show manyAt true ks j = 1 from rfl, v_one hd]; exact ho
          | false =>
            have hm2 : manyAt false ks j = formF o (r.getD 0 0) (r.getD 1 0) (r.getD 2 0) := by rw [manyAt_drop, hd, manyF]
            rw [hm2] at hm h4 ⊢
            generalize hmm : formF o (r.getD 0 0) (r.getD 1 0) (r.getD 2 0) = m at *
            obtain ⟨_, e1, _⟩ := enc_back hmm hm
            rw [runeV_drop ks j m h4.1, hd, runeVF hmm hm]
            exact e1
        obtain ⟨i1, i2⟩ := runes_in hk n (j + (manyAt lat ks j).toNat) (acc ++ [runeV ks j (manyAt lat ks j)]) hacc (by rw [List.length_append, List.length_singleton]; omega)
        exact ⟨i1, by rw [List.length_append, List.length_singleton] at i2; omega⟩
    · rw [if_neg hj]; exact ⟨h, Nat.le_add_right _ _⟩
theorem hrb_all {lat : Bool} {ks : List Int} (hk : ∀ o ∈ ks, 0 ≤ o ∧ o < 256) : (∀ x ∈ (runesL lat ks).1, 0 ≤ x ∧ x < if lat = true then 256 else 1114112) ∧ (runesL lat ks).1.length ≤ ks.length + 1 := by
  obtain ⟨h1, h2⟩ := runes_in (lat := lat) hk (ks.length + 1) 0 [] (fun _ h => nomatch h) (Nat.le_refl _)
  exact ⟨h1, by rw [List.length_nil, Nat.zero_add] at h2; exact h2⟩
-- part Z1
theorem rw_length (cs : List Int) (h : cs.length ≤ 10) : (rwL (cs.drop 4)).length ≤ 12 := by
  have := rwL_length (cs.drop 4)
  rw [List.length_drop] at this
  omega
theorem bInts_oct {b : Array UInt8} {ks : List Int} (h : KBw.bInts b = ks) : ∀ o ∈ ks, 0 ≤ o ∧ o < 256 := by
  subst h
  exact fun o h => KBw.ints_in h
theorem law_end (r : Rw) (w : World) (mean : ExcName → Option Value) (mg mb : Str → Option Value) (g : Heap) (L la : Addr) (lcd : Value) (u : Str → Option Value) (s : Shared) (Q : Flow → Shared → Prop) (H : LawAt w mean mg mb g)
    (P : Nat) (cv : List Value) (k : Nat) (lat grp : Int) (h0 : 0 ≤ grp) (h6 : grp ≤ 6) (t₁ t₄ t₅ t₇ : Tok) (tb rb ob : Array UInt8) (rs caps text os : List Int) (hrb : KBw.bInts rb = rs) (hz : rs.length ≤ 20) (hcap : IntsAre cv caps) (hcl : (caps.length : Int) = 2 * grp)
    (htb : KBw.bInts tb = text) (hz2 : text.length ≤ 8) (hob : KBw.bInts ob = os) (hoz : os.length ≤ 160)
    (F : Fr g L s.heap (kstB u [(Str.ofString "is_latin1", .int lat t₁), (Str.ofString "text", .bytes tb t₄), (Str.ofString "captures", .ref P), (Str.ofString "rewrite", .bytes rb t₅), (Str.ofString "out", .bytes ob t₇)])) (N : News g L s.heap [(P, listOf cv.toArray k)])
    (hQ : ∀ h tk, (∀ b o, g.get? b = some o → h.get? b = some o) → Q (.ret (.bool true)) { s with heap := h, toks := tk }) :
    wpAny (lawM w) (callerA.deeper (lawEnv L la lcd)) (execs [lawStmt 11, lawStmt 12, lawStmt 13, lawStmt 14, lawStmt 15, lawStmt 16, lawStmt 17, lawStmt 18] (lawEnv L la lcd)) Q (fun _ _ => False) s := by
  have hk := bInts_oct hob
  have hk0 : ∀ o ∈ os, 0 ≤ o := fun o h => (hk o h).1
  refine law_i r w mean mg mb g L la lcd u s Q _ H P cv k lat t₁ t₄ t₅ t₇ tb rb ob rs hrb hz (hmost_all rs) F N fun u1 h1 tk1 F1 N1 => ?_
  refine law_j r w mean mg mb g L la lcd u1 _ Q _ H P cv k lat t₁ t₄ t₇ tb ob caps text os hcap (by omega) htb hz2 hob (by omega) (hdbl_all h0 (by omega) hcl) F1 N1 fun u2 h2 tk2 F2 N2 => ?_
  refine law_k r w mean mg mb g L la lcd u2 _ Q _ H lat t₁ t₇ ob os hob (by omega) (fun j hj => signs hk0 j hj) F2 N2 (fun u3 h3 tk3 D D' T vs vs' n n' t₈ hw hI hI' F3 N3 => ?_) fun u3 h3 tk3 D D' T T' vs vs' n n' t₈ j b t t' t'' hw hI hI' hb F3 N3 => ?_
  · have hr := hrb_all (lat := lat == 1) hk
    exact law_l r w mean mg mb g L la lcd u3 _ Q _ H lat _ t₁ t₇ t₈ ob os hob (by omega) hw D D' T vs vs' n n' _ (by omega) hI hI' hr.1 (henc_all hk0 hw) F3 N3 fun h tk hk => hQ h tk hk
  · have hj := runesL_in hw
    exact law_m r w mean mg mb g L la lcd u3 _ Q H lat _ t₁ t₇ t₈ ob os hob (by omega) j hw hj D D' T T' vs vs' n n' _ hI hI' b t t' t'' hb (hsum_all hw hj) F3 N3 fun h tk hk => hQ h tk hk
theorem told_none {v : Value} (h : Told v none) : v = .none := by
  rcases h with ⟨h, _⟩ | ⟨_, _, _, _, _, h⟩
  · exact h
  · cases h
theorem told_some {v : Value} {l : List Int} (h : Told v (some l)) : ∃ b t, v = .bytes b t ∧ KBw.bInts b = l := by
  rcases h with ⟨_, h⟩ | ⟨b, t, l', h1, h2, h3⟩
  · cases h
  · cases h3
    exact ⟨b, t, h1, h2⟩
theorem law_mid (r : Rw) (w : World) (mean : ExcName → Option Value) (mg mb : Str → Option Value) (g : Heap) (L la : Addr) (lcd : Value) (u : Str → Option Value) (s : Shared) (Q : Flow → Shared → Prop) (H : LawAt w mean mg mb g)
    (P : Nat) (cv : List Value) (k : Nat) (caps text rs : List Int) (hcap : IntsAre cv caps) (lat grp : Int) (hg0 : 0 ≤ grp) (hg6 : grp ≤ 6) (hcl : (caps.length : Int) = 2 * grp) (t₁ t₂ t₄ t₅ : Tok) (tb rb : Array UInt8) (htb : KBw.bInts tb = text) (hrb : KBw.bInts rb = rs) (hz : rs.length ≤ 20) (hz2 : text.length ≤ 8)
    (F : Fr g L s.heap (kstB u [(Str.ofString "is_latin1", .int lat t₁), (Str.ofString "groups", .int grp t₂), (Str.ofString "text", .bytes tb t₄), (Str.ofString "captures", .ref P), (Str.ofString "rewrite", .bytes rb t₅)])) (N : News g L s.heap [(P, listOf cv.toArray k)])
    (hQ : ∀ h tk, (∀ b o, g.get? b = some o → h.get? b = some o) → Q (.ret (.bool true)) { s with heap := h, toks := tk }) :
    wpAny (lawM w) (callerA.deeper (lawEnv L la lcd)) (execs [lawStmt 8, lawStmt 9, lawStmt 10, lawStmt 11, lawStmt 12, lawStmt 13, lawStmt 14, lawStmt 15, lawStmt 16, lawStmt 17, lawStmt 18] (lawEnv L la lcd)) Q (fun _ _ => False) s := by
  have hr := rew_read (ks := rs) (text := text) hg0 (by omega) hcl
  refine law_g r w mean mg mb g L la lcd u s Q _ H P cv k caps text rs hcap (by omega) lat grp hg0 hg6 t₁ t₂ t₄ t₅ tb rb htb hrb hz hz2 (rew_out hg0 (by omega) hcl hz2 (by omega)) F N (fun u1 h1 tk1 v e T1 F1 N1 => ?_) fun u1 h1 tk1 v D arr n ps e hps hsz T1 lPD F1 N1 => ?_
  · rw [hr, e] at T1
    obtain rfl := told_none T1
    refine law_ha r w mean mg mb g L la lcd u1 _ Q _ H P cv k lat t₁ t₄ t₅ tb rb F1 N1 fun u2 h2 tk2 F2 N2 => ?_
    exact law_end r w mean mg mb g L la lcd u2 _ Q H P cv k lat grp hg0 hg6 t₁ t₄ t₅ t₅ tb rb rb rs caps text rs hrb hz hcap hcl htb hz2 hrb (by omega) F2 N2 fun h tk hk => hQ h tk hk
  · rw [hr, e] at T1
    obtain ⟨vb, t₆, rfl, hvb⟩ := told_some T1
    obtain ⟨hgr, hln, hpz⟩ := read_facts hg0 (by omega) hcl hz2 e
    refine law_hb r w mean mg mb g L la lcd u1 _ Q _ H P D cv k n lPD arr ps hps (by omega) caps text hcap (by omega) lat t₁ t₄ t₅ t₆ tb rb vb htb hz2 hvb hgr hln F1 N1 fun u2 h2 tk2 ob t₇ hob F2 N2 => ?_
    have hoz := outL_length hln
    exact law_end r w mean mg mb g L la lcd u2 _ Q H P cv k lat grp hg0 hg6 t₁ t₄ t₅ t₇ tb rb ob rs caps text _ hrb hz hcap hcl htb hz2 hob (by omega) F2 N2 fun h tk hk => hQ h tk hk
theorem mod_in {x m k : Int} (h : 0 < m) (hk : m = k + 1) : 0 ≤ x % m ∧ x % m ≤ k := ⟨Int.emod_nonneg _ (Int.ne_of_gt h), by have := Int.emod_lt_of_pos x h; omega⟩
theorem cap2 {g : Int} (h : 0 ≤ g) : ((2 * g.toNat : Nat) : Int) = 2 * g := by omega
theorem law_all (r : Rw) (w : World) (mean : ExcName → Option Value) (mg mb : Str → Option Value) (g : Heap) (L la : Addr) (lcd : Value) (u : Str → Option Value) (s : Shared) (Q : Flow → Shared → Prop) (H : LawAt w mean mg mb g)
    (sc : Addr) (F : Fr g L s.heap (kstB u [(Str.ofString "script", .ref sc)])) (N : News g L s.heap []) (vs : List Value) (ns : List Int) (hl : g.IsList sc vs.toArray) (hI : IntsAre vs ns) (hz : ns.length ≤ 63)
    (hQ : ∀ h tk, (∀ b o, g.get? b = some o → h.get? b = some o) → Q (.ret (.bool true)) { s with heap := h, toks := tk }) :
    wpAny (lawM w) (callerA.deeper (lawEnv L la lcd)) (execs lawBody (lawEnv L la lcd)) Q (fun _ _ => False) s := by
  have hcl := cellsL_length ns
  have hci := cellsL_in ns
  have hcd : ∀ k, 0 ≤ (cellsL ns).getD k 0 := fun k => by
    rw [List.getD_eq_getElem?_getD]
    cases h : (cellsL ns)[k]? with
    | none => exact Int.le_refl _
    | some c => exact (hci c (List.mem_of_getElem? h)).1
  rw [show lawBody = [lawStmt 0, lawStmt 1, lawStmt 2, lawStmt 3, lawStmt 4, lawStmt 5, lawStmt 6, lawStmt 7, lawStmt 8, lawStmt 9, lawStmt 10, lawStmt 11, lawStmt 12, lawStmt 13, lawStmt 14, lawStmt 15, lawStmt 16, lawStmt 17, lawStmt 18] from rfl]
  refine law_a r w mean mg mb g L la lcd u s Q _ _ H sc F N vs ns hl hI hz fun u1 h1 tk1 C cvs n1 I1 F1 N1 => ?_
  generalize hcs : cellsL ns = cs at *
  refine law_b r w mean mg mb g L la lcd u1 _ Q _ _ H C cvs n1 cs I1 hcl.2 hcl.1 hcd F1 N1 fun u2 h2 tk2 t₁ t₂ t₃ F2 N2 => ?_
  have hlat : 0 ≤ cs.getD 0 0 := hcd 0
  have hg : 0 ≤ cs.getD 0 0 / 2 % 7 ∧ cs.getD 0 0 / 2 % 7 ≤ 6 := mod_in (by decide) (by decide)
  have hn : 0 ≤ cs.getD 0 0 / 2 / 7 % 9 ∧ cs.getD 0 0 / 2 / 7 % 9 ≤ 8 := mod_in (by decide) (by decide)
  generalize hla : cs.getD 0 0 % 2 = lat at *
  generalize hgr : cs.getD 0 0 / 2 % 7 = grp at *
  generalize hle : cs.getD 0 0 / 2 / 7 % 9 = len at *
  refine law_c r w mean mg mb g L la lcd u2 _ Q _ _ H C cvs n1 cs I1 hcl.2 hcl.1 hcd lat grp len t₁ t₂ t₃ hn.1 hn.2 F2 N2 fun u3 h3 tk3 tb t₄ htb F3 N3 => ?_
  have htz := textL_length (a := cs.getD 1 0) (b := cs.getD 2 0) (len := len) hn.1 hn.2
  refine law_d r w mean mg mb g L la lcd u3 _ Q _ _ H C cvs n1 cs I1 hcl.2 hcl.1 hcd lat grp len t₁ t₂ t₃ t₄ tb hn.1 hn.2 F3 N3 fun u4 h4 tk4 D P ws k I4 lDP lCP lCD F4 N4 => ?_
  refine law_e r w mean mg mb g L la lcd u4 _ Q _ H D P C ws cvs k n1 _ I4 (by rw [digs_length]; rfl) lDP lCP lCD lat grp len t₁ t₂ t₃ t₄ tb hg.1 hg.2 F4 N4 fun u5 h5 tk5 cv k5 I5 F5 N5 => ?_
  refine law_f r w mean mg mb g L la lcd u5 _ Q _ H P C cv cvs k5 n1 cs I1 hcl.2 hcl.1 hcd lCP lat grp t₁ t₂ t₄ tb F5 N5 fun u6 h6 tk6 rb t₅ hrb F6 N6 => ?_
  exact law_mid r w mean mg mb g L la lcd u6 _ Q H P cv k5 _ _ _ I5 lat grp hg.1 hg.2 (by rw [capsL_length]; exact cap2 hg.1) t₁ t₂ t₄ t₅ tb rb htb hrb (Nat.le_trans (rw_length cs hcl.2) (by decide)) (by have := hn.2; omega) F6 N6 fun h tk hk => hQ h tk hk
noncomputable def env0 : Env := { scope := HP.main.scope, locals := mainNs, globals := mainNs, cells := [], code := .ref 13, frame := some 14 }
noncomputable abbrev cd0 : Code := .body (behindTheImports HP) env0
abbrev pos0 : Pos := ⟨0, 0, 0, 0⟩
abbrev posF : Pos := ⟨277, 0, 311, 75⟩
noncomputable abbrev ann0 : Option Value := some (.ref 6)
noncomputable def treeA (P : Params) : BT := .node (boot_o_0 P) (.node (boot_o_1 P) (.node (boot_o_3 P) (.node (boot_o_7 P) .nil .nil) (.node (o_11 P) .nil .nil)) (.node (boot_o_5 P) (.node (boot_o_9 P) .nil .nil) (.node (o_13 P) .nil .nil))) (.node (boot_o_2 P) (.node (boot_o_4 P) (.node (boot_o_8 P) .nil .nil) (.node (a_12 P) .nil .nil)) (.node (boot_o_6 P) (.node (boot_o_10 P) .nil .nil) (.node (o_14 P) .nil .nil)))
noncomputable abbrev stA (w : World) (os : OsState) : SharedT := ⟨treeA w.params, 15, {}, #[], {}, 187, os⟩
noncomputable abbrev stF (w : World) (os : OsState) : SharedT := ⟨treeF w.params, 355, {}, #[], {}, 662, os⟩
/-- the states at five cuts of the top's run -/
noncomputable abbrev rest0 : List Stmt := behindTheImports HP
noncomputable abbrev c1_3 (P : Params) : Obj := ⟨(.type "dict"), none, (.dict #[⟨(PyData.keyHash P (Str.ofString "__name__")), (.str (Str.ofString "__name__") 165), (.str (Str.ofString "recore.base") 194)⟩, ⟨(PyData.keyHash P (Str.ofString "__doc__")), (.str (Str.ofString "__doc__") 166), .none⟩, ⟨(PyData.keyHash P (Str.ofString "__package__")), (.str (Str.ofString "__package__") 167), .none⟩, ⟨(PyData.keyHash P (Str.ofString "__loader__")), (.str (Str.ofString "__loader__") 168), (.builtin "__main__.__loader__#opaque")⟩, ⟨(PyData.keyHash P (Str.ofString "__spec__")), (.str (Str.ofString "__spec__") 169), .none⟩, ⟨(PyData.keyHash P (Str.ofString "__annotations__")), (.str (Str.ofString "__annotations__") 170), (.ref 6)⟩, ⟨(PyData.keyHash P (Str.ofString "__builtins__")), (.str (Str.ofString "__builtins__") 171), (.ref 4)⟩, ⟨(PyData.keyHash P (Str.ofString "__file__")), (.str (Str.ofString "__file__") 173), (.str (Str.ofString "/claim/cut.py") 172)⟩, ⟨(PyData.keyHash P (Str.ofString "__cached__")), (.str (Str.ofString "__cached__") 174), .none⟩, ⟨(PyData.keyHash P (Str.ofString "_wall")), (.str (Str.ofString "_wall") 193), (.ref 21)⟩, ⟨(PyData.keyHash P (Str.ofString "MAX_RUNE")), (.str (Str.ofString "MAX_RUNE") 197), (.int 1114111 196)⟩, ⟨(PyData.keyHash P (Str.ofString "RUNE_ERROR")), (.str (Str.ofString "RUNE_ERROR") 199), (.int 65533 198)⟩, ⟨(PyData.keyHash P (Str.ofString "BAD_ESCAPE")), (.str (Str.ofString "BAD_ESCAPE") 201), (.str (Str.ofString "bad escape") 200)⟩, ⟨(PyData.keyHash P (Str.ofString "TRAILING_BACKSLASH")), (.str (Str.ofString "TRAILING_BACKSLASH") 203), (.str (Str.ofString "trailing backslash") 202)⟩, ⟨(PyData.keyHash P (Str.ofString "BAD_UTF8")), (.str (Str.ofString "BAD_UTF8") 205), (.str (Str.ofString "bad utf-8") 204)⟩, ⟨(PyData.keyHash P (Str.ofString "RecoreError")), (.str (Str.ofString "RecoreError") 235), (.ref 39)⟩, ⟨(PyData.keyHash P (Str.ofString "BadPattern")), (.str (Str.ofString "BadPattern") 266), (.ref 60)⟩] 17), #[]⟩
noncomputable abbrev c1_12 (P : Params) : Obj := ⟨.none, none, (.fields #[(.int 1 0), (.int 0 0), (.ref 20), (.int 10 0), (.int 0 0), (.ref 27), (.int 14 0), (.int 0 0), (.ref 48)]), #[]⟩
noncomputable abbrev c1_39 (P : Params) : Obj := ⟨(.type "type"), none, (.cls (ClassData.mk (Str.ofString "RecoreError") [(.type "Exception")] [(.ref 39), (.type "Exception"), (.type "BaseException"), (.type "object")] 38 (Str.ofString "RecoreError") true [] [(.ref 60)] false none false)), #[(some (.ref 22)), none, (some (.str (Str.ofString "RecoreError") 206)), (some (.str (Str.ofString "RecoreError") 214)), (some (.builtin "Exception.__new__")), (some (.bool true))]⟩
noncomputable def treeC1 (P : Params) : BT := (.node (boot_o_0 P) (.node (boot_o_1 P) (.node (c1_3 P) (.node (boot_o_7 P) (.node (o_15 P) (.node (o_31 P) .nil .nil) (.node (o_47 P) .nil .nil)) (.node (o_23 P) (.node (c1_39 P) .nil .nil) (.node (o_55 P) .nil .nil))) (.node (o_11 P) (.node (o_19 P) (.node (o_35 P) .nil .nil) (.node (o_51 P) .nil .nil)) (.node (o_27 P) (.node (o_43 P) .nil .nil) (.node (o_59 P) .nil .nil)))) (.node (boot_o_5 P) (.node (boot_o_9 P) (.node (o_17 P) (.node (o_33 P) .nil .nil) (.node (o_49 P) .nil .nil)) (.node (o_25 P) (.node (o_41 P) .nil .nil) (.node (o_57 P) .nil .nil))) (.node (o_13 P) (.node (o_21 P) (.node (o_37 P) .nil .nil) (.node (o_53 P) .nil .nil)) (.node (o_29 P) (.node (o_45 P) .nil .nil) (.node (o_61 P) .nil .nil))))) (.node (o_2 P) (.node (boot_o_4 P) (.node (boot_o_8 P) (.node (o_16 P) (.node (o_32 P) .nil .nil) (.node (o_48 P) .nil .nil)) (.node (o_24 P) (.node (o_40 P) .nil .nil) (.node (o_56 P) .nil .nil))) (.node (c1_12 P) (.node (o_20 P) (.node (o_36 P) .nil .nil) (.node (o_52 P) .nil .nil)) (.node (o_28 P) (.node (o_44 P) .nil .nil) (.node (o_60 P) .nil .nil)))) (.node (boot_o_6 P) (.node (boot_o_10 P) (.node (o_18 P) (.node (o_34 P) .nil .nil) (.node (o_50 P) .nil .nil)) (.node (o_26 P) (.node (o_42 P) .nil .nil) (.node (o_58 P) .nil .nil))) (.node (o_14 P) (.node (o_22 P) (.node (o_38 P) .nil .nil) (.node (o_54 P) .nil .nil)) (.node (o_30 P) (.node (o_46 P) .nil .nil) (.node (o_62 P) .nil .nil))))))
noncomputable abbrev stC1 (w : World) (os : OsState) : SharedT := ⟨treeC1 w.params, 63, {}, #[], {}, 267, os⟩
abbrev posC1 : Pos := ⟨14, 0, 19, 26⟩
noncomputable abbrev rest1 : List Stmt := rest0.drop 9
noncomputable abbrev c2_3 (P : Params) : Obj := ⟨(.type "dict"), none, (.dict #[⟨(PyData.keyHash P (Str.ofString "__name__")), (.str (Str.ofString "__name__") 165), (.str (Str.ofString "recore.rewriting") 299)⟩, ⟨(PyData.keyHash P (Str.ofString "__doc__")), (.str (Str.ofString "__doc__") 166), .none⟩, ⟨(PyData.keyHash P (Str.ofString "__package__")), (.str (Str.ofString "__package__") 167), .none⟩, ⟨(PyData.keyHash P (Str.ofString "__loader__")), (.str (Str.ofString "__loader__") 168), (.builtin "__main__.__loader__#opaque")⟩, ⟨(PyData.keyHash P (Str.ofString "__spec__")), (.str (Str.ofString "__spec__") 169), .none⟩, ⟨(PyData.keyHash P (Str.ofString "__annotations__")), (.str (Str.ofString "__annotations__") 170), (.ref 6)⟩, ⟨(PyData.keyHash P (Str.ofString "__builtins__")), (.str (Str.ofString "__builtins__") 171), (.ref 4)⟩, ⟨(PyData.keyHash P (Str.ofString "__file__")), (.str (Str.ofString "__file__") 173), (.str (Str.ofString "/claim/cut.py") 172)⟩, ⟨(PyData.keyHash P (Str.ofString "__cached__")), (.str (Str.ofString "__cached__") 174), .none⟩, ⟨(PyData.keyHash P (Str.ofString "_wall")), (.str (Str.ofString "_wall") 193), (.ref 21)⟩, ⟨(PyData.keyHash P (Str.ofString "MAX_RUNE")), (.str (Str.ofString "MAX_RUNE") 197), (.int 1114111 196)⟩, ⟨(PyData.keyHash P (Str.ofString "RUNE_ERROR")), (.str (Str.ofString "RUNE_ERROR") 199), (.int 65533 198)⟩, ⟨(PyData.keyHash P (Str.ofString "BAD_ESCAPE")), (.str (Str.ofString "BAD_ESCAPE") 201), (.str (Str.ofString "bad escape") 200)⟩, ⟨(PyData.keyHash P (Str.ofString "TRAILING_BACKSLASH")), (.str (Str.ofString "TRAILING_BACKSLASH") 203), (.str (Str.ofString "trailing backslash") 202)⟩, ⟨(PyData.keyHash P (Str.ofString "BAD_UTF8")), (.str (Str.ofString "BAD_UTF8") 205), (.str (Str.ofString "bad utf-8") 204)⟩, ⟨(PyData.keyHash P (Str.ofString "RecoreError")), (.str (Str.ofString "RecoreError") 235), (.ref 39)⟩, ⟨(PyData.keyHash P (Str.ofString "BadPattern")), (.str (Str.ofString "BadPattern") 266), (.ref 60)⟩, ⟨(PyData.keyHash P (Str.ofString "BadRewrite")), (.str (Str.ofString "BadRewrite") 282), (.ref 72)⟩, ⟨(PyData.keyHash P (Str.ofString "BadCall")), (.str (Str.ofString "BadCall") 298), (.ref 84)⟩, ⟨(PyData.keyHash P (Str.ofString "BACKSLASH")), (.str (Str.ofString "BACKSLASH") 302), (.int 92 301)⟩, ⟨(PyData.keyHash P (Str.ofString "rewrite_is_figure")), (.str (Str.ofString "rewrite_is_figure") 309), (.ref 93)⟩] 21), #[]⟩
noncomputable abbrev c2_12 (P : Params) : Obj := ⟨.none, none, (.fields #[(.int 1 0), (.int 0 0), (.ref 20), (.int 10 0), (.int 0 0), (.ref 27), (.int 14 0), (.int 0 0), (.ref 48), (.int 20 0), (.int 0 0), (.ref 68), (.int 22 0), (.int 0 0), (.ref 80), (.int 26 0), (.int 0 0), (.ref 92)]), #[]⟩
noncomputable def treeC2 (P : Params) : BT := (.node (boot_o_0 P) (.node (boot_o_1 P) (.node (c2_3 P) (.node (boot_o_7 P) (.node (o_15 P) (.node (o_31 P) (.node (o_63 P) .nil .nil) .nil) (.node (o_47 P) (.node (o_79 P) .nil .nil) .nil)) (.node (o_23 P) (.node (o_39 P) (.node (o_71 P) .nil .nil) .nil) (.node (o_55 P) (.node (o_87 P) .nil .nil) .nil))) (.node (o_11 P) (.node (o_19 P) (.node (o_35 P) (.node (o_67 P) .nil .nil) .nil) (.node (o_51 P) (.node (o_83 P) .nil .nil) .nil)) (.node (o_27 P) (.node (o_43 P) (.node (o_75 P) .nil .nil) .nil) (.node (o_59 P) (.node (o_91 P) .nil .nil) .nil)))) (.node (boot_o_5 P) (.node (boot_o_9 P) (.node (o_17 P) (.node (o_33 P) (.node (o_65 P) .nil .nil) .nil) (.node (o_49 P) (.node (o_81 P) .nil .nil) .nil)) (.node (o_25 P) (.node (o_41 P) (.node (o_73 P) .nil .nil) .nil) (.node (o_57 P) (.node (o_89 P) .nil .nil) .nil))) (.node (o_13 P) (.node (o_21 P) (.node (o_37 P) (.node (o_69 P) .nil .nil) .nil) (.node (o_53 P) (.node (o_85 P) .nil .nil) .nil)) (.node (o_29 P) (.node (o_45 P) (.node (o_77 P) .nil .nil) .nil) (.node (o_61 P) (.node (o_93 P) .nil .nil) .nil))))) (.node (o_2 P) (.node (boot_o_4 P) (.node (boot_o_8 P) (.node (o_16 P) (.node (o_32 P) (.node (o_64 P) .nil .nil) .nil) (.node (o_48 P) (.node (o_80 P) .nil .nil) .nil)) (.node (o_24 P) (.node (o_40 P) (.node (o_72 P) .nil .nil) .nil) (.node (o_56 P) (.node (o_88 P) .nil .nil) .nil))) (.node (c2_12 P) (.node (o_20 P) (.node (o_36 P) (.node (o_68 P) .nil .nil) .nil) (.node (o_52 P) (.node (o_84 P) .nil .nil) .nil)) (.node (o_28 P) (.node (o_44 P) (.node (o_76 P) .nil .nil) .nil) (.node (o_60 P) (.node (o_92 P) .nil .nil) .nil)))) (.node (boot_o_6 P) (.node (boot_o_10 P) (.node (o_18 P) (.node (o_34 P) (.node (o_66 P) .nil .nil) .nil) (.node (o_50 P) (.node (o_82 P) .nil .nil) .nil)) (.node (o_26 P) (.node (o_42 P) (.node (o_74 P) .nil .nil) .nil) (.node (o_58 P) (.node (o_90 P) .nil .nil) .nil))) (.node (o_14 P) (.node (o_22 P) (.node (o_38 P) (.node (o_70 P) .nil .nil) .nil) (.node (o_54 P) (.node (o_86 P) .nil .nil) .nil)) (.node (o_30 P) (.node (o_46 P) (.node (o_78 P) .nil .nil) .nil) (.node (o_62 P) .nil .nil))))))
noncomputable abbrev stC2 (w : World) (os : OsState) : SharedT := ⟨treeC2 w.params, 94, {}, #[], {}, 310, os⟩
abbrev posC2 : Pos := ⟨26, 0, 27, 28⟩
noncomputable abbrev rest2 : List Stmt := rest1.drop 5
noncomputable abbrev c3_3 (P : Params) : Obj := ⟨(.type "dict"), none, (.dict #[⟨(PyData.keyHash P (Str.ofString "__name__")), (.str (Str.ofString "__name__") 165), (.str (Str.ofString "recore.reader") 402)⟩, ⟨(PyData.keyHash P (Str.ofString "__doc__")), (.str (Str.ofString "__doc__") 166), .none⟩, ⟨(PyData.keyHash P (Str.ofString "__package__")), (.str (Str.ofString "__package__") 167), .none⟩, ⟨(PyData.keyHash P (Str.ofString "__loader__")), (.str (Str.ofString "__loader__") 168), (.builtin "__main__.__loader__#opaque")⟩, ⟨(PyData.keyHash P (Str.ofString "__spec__")), (.str (Str.ofString "__spec__") 169), .none⟩, ⟨(PyData.keyHash P (Str.ofString "__annotations__")), (.str (Str.ofString "__annotations__") 170), (.ref 6)⟩, ⟨(PyData.keyHash P (Str.ofString "__builtins__")), (.str (Str.ofString "__builtins__") 171), (.ref 4)⟩, ⟨(PyData.keyHash P (Str.ofString "__file__")), (.str (Str.ofString "__file__") 173), (.str (Str.ofString "/claim/cut.py") 172)⟩, ⟨(PyData.keyHash P (Str.ofString "__cached__")), (.str (Str.ofString "__cached__") 174), .none⟩, ⟨(PyData.keyHash P (Str.ofString "_wall")), (.str (Str.ofString "_wall") 193), (.ref 21)⟩, ⟨(PyData.keyHash P (Str.ofString "MAX_RUNE")), (.str (Str.ofString "MAX_RUNE") 197), (.int 1114111 196)⟩, ⟨(PyData.keyHash P (Str.ofString "RUNE_ERROR")), (.str (Str.ofString "RUNE_ERROR") 199), (.int 65533 198)⟩, ⟨(PyData.keyHash P (Str.ofString "BAD_ESCAPE")), (.str (Str.ofString "BAD_ESCAPE") 201), (.str (Str.ofString "bad escape") 200)⟩, ⟨(PyData.keyHash P (Str.ofString "TRAILING_BACKSLASH")), (.str (Str.ofString "TRAILING_BACKSLASH") 203), (.str (Str.ofString "trailing backslash") 202)⟩, ⟨(PyData.keyHash P (Str.ofString "BAD_UTF8")), (.str (Str.ofString "BAD_UTF8") 205), (.str (Str.ofString "bad utf-8") 204)⟩, ⟨(PyData.keyHash P (Str.ofString "RecoreError")), (.str (Str.ofString "RecoreError") 235), (.ref 39)⟩, ⟨(PyData.keyHash P (Str.ofString "BadPattern")), (.str (Str.ofString "BadPattern") 266), (.ref 60)⟩, ⟨(PyData.keyHash P (Str.ofString "BadRewrite")), (.str (Str.ofString "BadRewrite") 282), (.ref 72)⟩, ⟨(PyData.keyHash P (Str.ofString "BadCall")), (.str (Str.ofString "BadCall") 298), (.ref 84)⟩, ⟨(PyData.keyHash P (Str.ofString "BACKSLASH")), (.str (Str.ofString "BACKSLASH") 302), (.int 92 301)⟩, ⟨(PyData.keyHash P (Str.ofString "rewrite_is_figure")), (.str (Str.ofString "rewrite_is_figure") 309), (.ref 93)⟩, ⟨(PyData.keyHash P (Str.ofString "rewrite_pieces")), (.str (Str.ofString "rewrite_pieces") 320), (.ref 100)⟩, ⟨(PyData.keyHash P (Str.ofString "rewrite_most")), (.str (Str.ofString "rewrite_most") 329), (.ref 107)⟩, ⟨(PyData.keyHash P (Str.ofString "rewritten")), (.str (Str.ofString "rewritten") 340), (.ref 114)⟩, ⟨(PyData.keyHash P (Str.ofString "quote_meta")), (.str (Str.ofString "quote_meta") 349), (.ref 121)⟩, ⟨(PyData.keyHash P (Str.ofString "rune_length")), (.str (Str.ofString "rune_length") 358), (.ref 128)⟩, ⟨(PyData.keyHash P (Str.ofString "rune_lead")), (.str (Str.ofString "rune_lead") 365), (.ref 135)⟩, ⟨(PyData.keyHash P (Str.ofString "rune_octets")), (.str (Str.ofString "rune_octets") 376), (.ref 142)⟩, ⟨(PyData.keyHash P (Str.ofString "rune_form_length")), (.str (Str.ofString "rune_form_length") 383), (.ref 149)⟩, ⟨(PyData.keyHash P (Str.ofString "rune_at")), (.str (Str.ofString "rune_at") 395), (.ref 156)⟩, ⟨(PyData.keyHash P (Str.ofString "octets_of_runes")), (.str (Str.ofString "octets_of_runes") 401), (.ref 161)⟩, ⟨(PyData.keyHash P (Str.ofString "ESCAPE_LETTERS")), (.str (Str.ofString "ESCAPE_LETTERS") 416), (.ref 168)⟩, ⟨(PyData.keyHash P (Str.ofString "reader_sign")), (.str (Str.ofString "reader_sign") 427), (.ref 175)⟩] 33), #[]⟩
noncomputable abbrev c3_12 (P : Params) : Obj := ⟨.none, none, (.fields #[(.int 1 0), (.int 0 0), (.ref 20), (.int 10 0), (.int 0 0), (.ref 27), (.int 14 0), (.int 0 0), (.ref 48), (.int 20 0), (.int 0 0), (.ref 68), (.int 22 0), (.int 0 0), (.ref 80), (.int 26 0), (.int 0 0), (.ref 92), (.int 28 0), (.int 0 0), (.ref 99), (.int 44 0), (.int 0 0), (.ref 106), (.int 51 0), (.int 0 0), (.ref 113), (.int 61 0), (.int 0 0), (.ref 120), (.int 72 0), (.int 0 0), (.ref 127), (.int 78 0), (.int 0 0), (.ref 134), (.int 80 0), (.int 0 0), (.ref 141), (.int 90 0), (.int 0 0), (.ref 148), (.int 98 0), (.int 0 0), (.ref 155), (.int 113 0), (.int 0 0), (.ref 160), (.int 119 0), (.int 0 0), (.ref 174)]), #[]⟩
noncomputable def treeC3 (P : Params) : BT := (.node (boot_o_0 P) (.node (boot_o_1 P) (.node (c3_3 P) (.node (boot_o_7 P) (.node (o_15 P) (.node (o_31 P) (.node (o_63 P) (.node (o_127 P) .nil .nil) .nil) (.node (o_95 P) (.node (o_159 P) .nil .nil) .nil)) (.node (o_47 P) (.node (o_79 P) (.node (o_143 P) .nil .nil) .nil) (.node (o_111 P) (.node (o_175 P) .nil .nil) .nil))) (.node (o_23 P) (.node (o_39 P) (.node (o_71 P) (.node (o_135 P) .nil .nil) .nil) (.node (o_103 P) (.node (o_167 P) .nil .nil) .nil)) (.node (o_55 P) (.node (o_87 P) (.node (o_151 P) .nil .nil) .nil) (.node (o_119 P) .nil .nil)))) (.node (o_11 P) (.node (o_19 P) (.node (o_35 P) (.node (o_67 P) (.node (o_131 P) .nil .nil) .nil) (.node (o_99 P) (.node (o_163 P) .nil .nil) .nil)) (.node (o_51 P) (.node (o_83 P) (.node (o_147 P) .nil .nil) .nil) (.node (o_115 P) .nil .nil))) (.node (o_27 P) (.node (o_43 P) (.node (o_75 P) (.node (o_139 P) .nil .nil) .nil) (.node (o_107 P) (.node (o_171 P) .nil .nil) .nil)) (.node (o_59 P) (.node (o_91 P) (.node (o_155 P) .nil .nil) .nil) (.node (o_123 P) .nil .nil))))) (.node (boot_o_5 P) (.node (boot_o_9 P) (.node (o_17 P) (.node (o_33 P) (.node (o_65 P) (.node (o_129 P) .nil .nil) .nil) (.node (o_97 P) (.node (o_161 P) .nil .nil) .nil)) (.node (o_49 P) (.node (o_81 P) (.node (o_145 P) .nil .nil) .nil) (.node (o_113 P) .nil .nil))) (.node (o_25 P) (.node (o_41 P) (.node (o_73 P) (.node (o_137 P) .nil .nil) .nil) (.node (o_105 P) (.node (o_169 P) .nil .nil) .nil)) (.node (o_57 P) (.node (o_89 P) (.node (o_153 P) .nil .nil) .nil) (.node (o_121 P) .nil .nil)))) (.node (o_13 P) (.node (o_21 P) (.node (o_37 P) (.node (o_69 P) (.node (o_133 P) .nil .nil) .nil) (.node (o_101 P) (.node (o_165 P) .nil .nil) .nil)) (.node (o_53 P) (.node (o_85 P) (.node (o_149 P) .nil .nil) .nil) (.node (o_117 P) .nil .nil))) (.node (o_29 P) (.node (o_45 P) (.node (o_77 P) (.node (o_141 P) .nil .nil) .nil) (.node (o_109 P) (.node (o_173 P) .nil .nil) .nil)) (.node (o_61 P) (.node (o_93 P) (.node (o_157 P) .nil .nil) .nil) (.node (o_125 P) .nil .nil)))))) (.node (o_2 P) (.node (boot_o_4 P) (.node (boot_o_8 P) (.node (o_16 P) (.node (o_32 P) (.node (o_64 P) (.node (o_128 P) .nil .nil) .nil) (.node (o_96 P) (.node (o_160 P) .nil .nil) .nil)) (.node (o_48 P) (.node (o_80 P) (.node (o_144 P) .nil .nil) .nil) (.node (o_112 P) .nil .nil))) (.node (o_24 P) (.node (o_40 P) (.node (o_72 P) (.node (o_136 P) .nil .nil) .nil) (.node (o_104 P) (.node (o_168 P) .nil .nil) .nil)) (.node (o_56 P) (.node (o_88 P) (.node (o_152 P) .nil .nil) .nil) (.node (o_120 P) .nil .nil)))) (.node (c3_12 P) (.node (o_20 P) (.node (o_36 P) (.node (o_68 P) (.node (o_132 P) .nil .nil) .nil) (.node (o_100 P) (.node (o_164 P) .nil .nil) .nil)) (.node (o_52 P) (.node (o_84 P) (.node (o_148 P) .nil .nil) .nil) (.node (o_116 P) .nil .nil))) (.node (o_28 P) (.node (o_44 P) (.node (o_76 P) (.node (o_140 P) .nil .nil) .nil) (.node (o_108 P) (.node (o_172 P) .nil .nil) .nil)) (.node (o_60 P) (.node (o_92 P) (.node (o_156 P) .nil .nil) .nil) (.node (o_124 P) .nil .nil))))) (.node (boot_o_6 P) (.node (boot_o_10 P) (.node (o_18 P) (.node (o_34 P) (.node (o_66 P) (.node (o_130 P) .nil .nil) .nil) (.node (o_98 P) (.node (o_162 P) .nil .nil) .nil)) (.node (o_50 P) (.node (o_82 P) (.node (o_146 P) .nil .nil) .nil) (.node (o_114 P) .nil .nil))) (.node (o_26 P) (.node (o_42 P) (.node (o_74 P) (.node (o_138 P) .nil .nil) .nil) (.node (o_106 P) (.node (o_170 P) .nil .nil) .nil)) (.node (o_58 P) (.node (o_90 P) (.node (o_154 P) .nil .nil) .nil) (.node (o_122 P) .nil .nil)))) (.node (o_14 P) (.node (o_22 P) (.node (o_38 P) (.node (o_70 P) (.node (o_134 P) .nil .nil) .nil) (.node (o_102 P) (.node (o_166 P) .nil .nil) .nil)) (.node (o_54 P) (.node (o_86 P) (.node (o_150 P) .nil .nil) .nil) (.node (o_118 P) .nil .nil))) (.node (o_30 P) (.node (o_46 P) (.node (o_78 P) (.node (o_142 P) .nil .nil) .nil) (.node (o_110 P) (.node (o_174 P) .nil .nil) .nil)) (.node (o_62 P) (.node (o_94 P) (.node (o_158 P) .nil .nil) .nil) (.node (o_126 P) .nil .nil)))))))
noncomputable abbrev stC3 (w : World) (os : OsState) : SharedT := ⟨treeC3 w.params, 176, {}, #[], {}, 428, os⟩
abbrev posC3 : Pos := ⟨119, 0, 125, 23⟩
noncomputable abbrev rest3 : List Stmt := rest2.drop 14
noncomputable abbrev c4_3 (P : Params) : Obj := ⟨(.type "dict"), none, (.dict #[⟨(PyData.keyHash P (Str.ofString "__name__")), (.str (Str.ofString "__name__") 165), (.str (Str.ofString "recore.reader") 402)⟩, ⟨(PyData.keyHash P (Str.ofString "__doc__")), (.str (Str.ofString "__doc__") 166), .none⟩, ⟨(PyData.keyHash P (Str.ofString "__package__")), (.str (Str.ofString "__package__") 167), .none⟩, ⟨(PyData.keyHash P (Str.ofString "__loader__")), (.str (Str.ofString "__loader__") 168), (.builtin "__main__.__loader__#opaque")⟩, ⟨(PyData.keyHash P (Str.ofString "__spec__")), (.str (Str.ofString "__spec__") 169), .none⟩, ⟨(PyData.keyHash P (Str.ofString "__annotations__")), (.str (Str.ofString "__annotations__") 170), (.ref 6)⟩, ⟨(PyData.keyHash P (Str.ofString "__builtins__")), (.str (Str.ofString "__builtins__") 171), (.ref 4)⟩, ⟨(PyData.keyHash P (Str.ofString "__file__")), (.str (Str.ofString "__file__") 173), (.str (Str.ofString "/claim/cut.py") 172)⟩, ⟨(PyData.keyHash P (Str.ofString "__cached__")), (.str (Str.ofString "__cached__") 174), .none⟩, ⟨(PyData.keyHash P (Str.ofString "_wall")), (.str (Str.ofString "_wall") 193), (.ref 21)⟩, ⟨(PyData.keyHash P (Str.ofString "MAX_RUNE")), (.str (Str.ofString "MAX_RUNE") 197), (.int 1114111 196)⟩, ⟨(PyData.keyHash P (Str.ofString "RUNE_ERROR")), (.str (Str.ofString "RUNE_ERROR") 199), (.int 65533 198)⟩, ⟨(PyData.keyHash P (Str.ofString "BAD_ESCAPE")), (.str (Str.ofString "BAD_ESCAPE") 201), (.str (Str.ofString "bad escape") 200)⟩, ⟨(PyData.keyHash P (Str.ofString "TRAILING_BACKSLASH")), (.str (Str.ofString "TRAILING_BACKSLASH") 203), (.str (Str.ofString "trailing backslash") 202)⟩, ⟨(PyData.keyHash P (Str.ofString "BAD_UTF8")), (.str (Str.ofString "BAD_UTF8") 205), (.str (Str.ofString "bad utf-8") 204)⟩, ⟨(PyData.keyHash P (Str.ofString "RecoreError")), (.str (Str.ofString "RecoreError") 235), (.ref 39)⟩, ⟨(PyData.keyHash P (Str.ofString "BadPattern")), (.str (Str.ofString "BadPattern") 266), (.ref 60)⟩, ⟨(PyData.keyHash P (Str.ofString "BadRewrite")), (.str (Str.ofString "BadRewrite") 282), (.ref 72)⟩, ⟨(PyData.keyHash P (Str.ofString "BadCall")), (.str (Str.ofString "BadCall") 298), (.ref 84)⟩, ⟨(PyData.keyHash P (Str.ofString "BACKSLASH")), (.str (Str.ofString "BACKSLASH") 302), (.int 92 301)⟩, ⟨(PyData.keyHash P (Str.ofString "rewrite_is_figure")), (.str (Str.ofString "rewrite_is_figure") 309), (.ref 93)⟩, ⟨(PyData.keyHash P (Str.ofString "rewrite_pieces")), (.str (Str.ofString "rewrite_pieces") 320), (.ref 100)⟩, ⟨(PyData.keyHash P (Str.ofString "rewrite_most")), (.str (Str.ofString "rewrite_most") 329), (.ref 107)⟩, ⟨(PyData.keyHash P (Str.ofString "rewritten")), (.str (Str.ofString "rewritten") 340), (.ref 114)⟩, ⟨(PyData.keyHash P (Str.ofString "quote_meta")), (.str (Str.ofString "quote_meta") 349), (.ref 121)⟩, ⟨(PyData.keyHash P (Str.ofString "rune_length")), (.str (Str.ofString "rune_length") 358), (.ref 128)⟩, ⟨(PyData.keyHash P (Str.ofString "rune_lead")), (.str (Str.ofString "rune_lead") 365), (.ref 135)⟩, ⟨(PyData.keyHash P (Str.ofString "rune_octets")), (.str (Str.ofString "rune_octets") 376), (.ref 142)⟩, ⟨(PyData.keyHash P (Str.ofString "rune_form_length")), (.str (Str.ofString "rune_form_length") 383), (.ref 149)⟩, ⟨(PyData.keyHash P (Str.ofString "rune_at")), (.str (Str.ofString "rune_at") 395), (.ref 156)⟩, ⟨(PyData.keyHash P (Str.ofString "octets_of_runes")), (.str (Str.ofString "octets_of_runes") 401), (.ref 161)⟩, ⟨(PyData.keyHash P (Str.ofString "ESCAPE_LETTERS")), (.str (Str.ofString "ESCAPE_LETTERS") 416), (.ref 168)⟩, ⟨(PyData.keyHash P (Str.ofString "reader_sign")), (.str (Str.ofString "reader_sign") 427), (.ref 175)⟩, ⟨(PyData.keyHash P (Str.ofString "PatternReader")), (.str (Str.ofString "PatternReader") 505), (.ref 235)⟩] 34), #[]⟩
noncomputable abbrev c4_12 (P : Params) : Obj := ⟨.none, none, (.fields #[(.int 1 0), (.int 0 0), (.ref 20), (.int 10 0), (.int 0 0), (.ref 27), (.int 14 0), (.int 0 0), (.ref 48), (.int 20 0), (.int 0 0), (.ref 68), (.int 22 0), (.int 0 0), (.ref 80), (.int 26 0), (.int 0 0), (.ref 92), (.int 28 0), (.int 0 0), (.ref 99), (.int 44 0), (.int 0 0), (.ref 106), (.int 51 0), (.int 0 0), (.ref 113), (.int 61 0), (.int 0 0), (.ref 120), (.int 72 0), (.int 0 0), (.ref 127), (.int 78 0), (.int 0 0), (.ref 134), (.int 80 0), (.int 0 0), (.ref 141), (.int 90 0), (.int 0 0), (.ref 148), (.int 98 0), (.int 0 0), (.ref 155), (.int 113 0), (.int 0 0), (.ref 160), (.int 119 0), (.int 0 0), (.ref 174), (.int 126 0), (.int 0 0), (.ref 181)]), #[]⟩
noncomputable def treeC4 (P : Params) : BT := (.node (boot_o_0 P) (.node (boot_o_1 P) (.node (c4_3 P) (.node (boot_o_7 P) (.node (o_15 P) (.node (o_31 P) (.node (o_63 P) (.node (o_127 P) .nil .nil) (.node (o_191 P) .nil .nil)) (.node (o_95 P) (.node (o_159 P) .nil .nil) (.node (o_223 P) .nil .nil))) (.node (o_47 P) (.node (o_79 P) (.node (o_143 P) .nil .nil) (.node (o_207 P) .nil .nil)) (.node (o_111 P) (.node (o_175 P) .nil .nil) (.node (o_239 P) .nil .nil)))) (.node (o_23 P) (.node (o_39 P) (.node (o_71 P) (.node (o_135 P) .nil .nil) (.node (o_199 P) .nil .nil)) (.node (o_103 P) (.node (o_167 P) .nil .nil) (.node (o_231 P) .nil .nil))) (.node (o_55 P) (.node (o_87 P) (.node (o_151 P) .nil .nil) (.node (o_215 P) .nil .nil)) (.node (o_119 P) (.node (o_183 P) .nil .nil) .nil)))) (.node (o_11 P) (.node (o_19 P) (.node (o_35 P) (.node (o_67 P) (.node (o_131 P) .nil .nil) (.node (o_195 P) .nil .nil)) (.node (o_99 P) (.node (o_163 P) .nil .nil) (.node (o_227 P) .nil .nil))) (.node (o_51 P) (.node (o_83 P) (.node (o_147 P) .nil .nil) (.node (o_211 P) .nil .nil)) (.node (o_115 P) (.node (o_179 P) .nil .nil) .nil))) (.node (o_27 P) (.node (o_43 P) (.node (o_75 P) (.node (o_139 P) .nil .nil) (.node (o_203 P) .nil .nil)) (.node (o_107 P) (.node (o_171 P) .nil .nil) (.node (o_235 P) .nil .nil))) (.node (o_59 P) (.node (o_91 P) (.node (o_155 P) .nil .nil) (.node (o_219 P) .nil .nil)) (.node (o_123 P) (.node (o_187 P) .nil .nil) .nil))))) (.node (boot_o_5 P) (.node (boot_o_9 P) (.node (o_17 P) (.node (o_33 P) (.node (o_65 P) (.node (o_129 P) .nil .nil) (.node (o_193 P) .nil .nil)) (.node (o_97 P) (.node (o_161 P) .nil .nil) (.node (o_225 P) .nil .nil))) (.node (o_49 P) (.node (o_81 P) (.node (o_145 P) .nil .nil) (.node (o_209 P) .nil .nil)) (.node (o_113 P) (.node (o_177 P) .nil .nil) .nil))) (.node (o_25 P) (.node (o_41 P) (.node (o_73 P) (.node (o_137 P) .nil .nil) (.node (o_201 P) .nil .nil)) (.node (o_105 P) (.node (o_169 P) .nil .nil) (.node (o_233 P) .nil .nil))) (.node (o_57 P) (.node (o_89 P) (.node (o_153 P) .nil .nil) (.node (o_217 P) .nil .nil)) (.node (o_121 P) (.node (o_185 P) .nil .nil) .nil)))) (.node (o_13 P) (.node (o_21 P) (.node (o_37 P) (.node (o_69 P) (.node (o_133 P) .nil .nil) (.node (o_197 P) .nil .nil)) (.node (o_101 P) (.node (o_165 P) .nil .nil) (.node (o_229 P) .nil .nil))) (.node (o_53 P) (.node (o_85 P) (.node (o_149 P) .nil .nil) (.node (o_213 P) .nil .nil)) (.node (o_117 P) (.node (o_181 P) .nil .nil) .nil))) (.node (o_29 P) (.node (o_45 P) (.node (o_77 P) (.node (o_141 P) .nil .nil) (.node (o_205 P) .nil .nil)) (.node (o_109 P) (.node (o_173 P) .nil .nil) (.node (o_237 P) .nil .nil))) (.node (o_61 P) (.node (o_93 P) (.node (o_157 P) .nil .nil) (.node (o_221 P) .nil .nil)) (.node (o_125 P) (.node (o_189 P) .nil .nil) .nil)))))) (.node (o_2 P) (.node (boot_o_4 P) (.node (boot_o_8 P) (.node (o_16 P) (.node (o_32 P) (.node (o_64 P) (.node (o_128 P) .nil .nil) (.node (o_192 P) .nil .nil)) (.node (o_96 P) (.node (o_160 P) .nil .nil) (.node (o_224 P) .nil .nil))) (.node (o_48 P) (.node (o_80 P) (.node (o_144 P) .nil .nil) (.node (o_208 P) .nil .nil)) (.node (o_112 P) (.node (o_176 P) .nil .nil) .nil))) (.node (o_24 P) (.node (o_40 P) (.node (o_72 P) (.node (o_136 P) .nil .nil) (.node (o_200 P) .nil .nil)) (.node (o_104 P) (.node (o_168 P) .nil .nil) (.node (o_232 P) .nil .nil))) (.node (o_56 P) (.node (o_88 P) (.node (o_152 P) .nil .nil) (.node (o_216 P) .nil .nil)) (.node (o_120 P) (.node (o_184 P) .nil .nil) .nil)))) (.node (c4_12 P) (.node (o_20 P) (.node (o_36 P) (.node (o_68 P) (.node (o_132 P) .nil .nil) (.node (o_196 P) .nil .nil)) (.node (o_100 P) (.node (o_164 P) .nil .nil) (.node (o_228 P) .nil .nil))) (.node (o_52 P) (.node (o_84 P) (.node (o_148 P) .nil .nil) (.node (o_212 P) .nil .nil)) (.node (o_116 P) (.node (o_180 P) .nil .nil) .nil))) (.node (o_28 P) (.node (o_44 P) (.node (o_76 P) (.node (o_140 P) .nil .nil) (.node (o_204 P) .nil .nil)) (.node (o_108 P) (.node (o_172 P) .nil .nil) (.node (o_236 P) .nil .nil))) (.node (o_60 P) (.node (o_92 P) (.node (o_156 P) .nil .nil) (.node (o_220 P) .nil .nil)) (.node (o_124 P) (.node (o_188 P) .nil .nil) .nil))))) (.node (boot_o_6 P) (.node (boot_o_10 P) (.node (o_18 P) (.node (o_34 P) (.node (o_66 P) (.node (o_130 P) .nil .nil) (.node (o_194 P) .nil .nil)) (.node (o_98 P) (.node (o_162 P) .nil .nil) (.node (o_226 P) .nil .nil))) (.node (o_50 P) (.node (o_82 P) (.node (o_146 P) .nil .nil) (.node (o_210 P) .nil .nil)) (.node (o_114 P) (.node (o_178 P) .nil .nil) .nil))) (.node (o_26 P) (.node (o_42 P) (.node (o_74 P) (.node (o_138 P) .nil .nil) (.node (o_202 P) .nil .nil)) (.node (o_106 P) (.node (o_170 P) .nil .nil) (.node (o_234 P) .nil .nil))) (.node (o_58 P) (.node (o_90 P) (.node (o_154 P) .nil .nil) (.node (o_218 P) .nil .nil)) (.node (o_122 P) (.node (o_186 P) .nil .nil) .nil)))) (.node (o_14 P) (.node (o_22 P) (.node (o_38 P) (.node (o_70 P) (.node (o_134 P) .nil .nil) (.node (o_198 P) .nil .nil)) (.node (o_102 P) (.node (o_166 P) .nil .nil) (.node (o_230 P) .nil .nil))) (.node (o_54 P) (.node (o_86 P) (.node (o_150 P) .nil .nil) (.node (o_214 P) .nil .nil)) (.node (o_118 P) (.node (o_182 P) .nil .nil) .nil))) (.node (o_30 P) (.node (o_46 P) (.node (o_78 P) (.node (o_142 P) .nil .nil) (.node (o_206 P) .nil .nil)) (.node (o_110 P) (.node (o_174 P) .nil .nil) (.node (o_238 P) .nil .nil))) (.node (o_62 P) (.node (o_94 P) (.node (o_158 P) .nil .nil) (.node (o_222 P) .nil .nil)) (.node (o_126 P) (.node (o_190 P) .nil .nil) .nil)))))))
noncomputable abbrev stC4 (w : World) (os : OsState) : SharedT := ⟨treeC4 w.params, 240, {}, #[], {}, 506, os⟩
abbrev posC4 : Pos := ⟨126, 0, 155, 36⟩
noncomputable abbrev rest4 : List Stmt := rest3.drop 1
noncomputable abbrev c5_3 (P : Params) : Obj := ⟨(.type "dict"), none, (.dict #[⟨(PyData.keyHash P (Str.ofString "__name__")), (.str (Str.ofString "__name__") 165), (.str (Str.ofString "law_sj0126_01") 575)⟩, ⟨(PyData.keyHash P (Str.ofString "__doc__")), (.str (Str.ofString "__doc__") 166), .none⟩, ⟨(PyData.keyHash P (Str.ofString "__package__")), (.str (Str.ofString "__package__") 167), .none⟩, ⟨(PyData.keyHash P (Str.ofString "__loader__")), (.str (Str.ofString "__loader__") 168), (.builtin "__main__.__loader__#opaque")⟩, ⟨(PyData.keyHash P (Str.ofString "__spec__")), (.str (Str.ofString "__spec__") 169), .none⟩, ⟨(PyData.keyHash P (Str.ofString "__annotations__")), (.str (Str.ofString "__annotations__") 170), (.ref 6)⟩, ⟨(PyData.keyHash P (Str.ofString "__builtins__")), (.str (Str.ofString "__builtins__") 171), (.ref 4)⟩, ⟨(PyData.keyHash P (Str.ofString "__file__")), (.str (Str.ofString "__file__") 173), (.str (Str.ofString "/claim/cut.py") 172)⟩, ⟨(PyData.keyHash P (Str.ofString "__cached__")), (.str (Str.ofString "__cached__") 174), .none⟩, ⟨(PyData.keyHash P (Str.ofString "_wall")), (.str (Str.ofString "_wall") 193), (.ref 21)⟩, ⟨(PyData.keyHash P (Str.ofString "MAX_RUNE")), (.str (Str.ofString "MAX_RUNE") 197), (.int 1114111 196)⟩, ⟨(PyData.keyHash P (Str.ofString "RUNE_ERROR")), (.str (Str.ofString "RUNE_ERROR") 199), (.int 65533 198)⟩, ⟨(PyData.keyHash P (Str.ofString "BAD_ESCAPE")), (.str (Str.ofString "BAD_ESCAPE") 201), (.str (Str.ofString "bad escape") 200)⟩, ⟨(PyData.keyHash P (Str.ofString "TRAILING_BACKSLASH")), (.str (Str.ofString "TRAILING_BACKSLASH") 203), (.str (Str.ofString "trailing backslash") 202)⟩, ⟨(PyData.keyHash P (Str.ofString "BAD_UTF8")), (.str (Str.ofString "BAD_UTF8") 205), (.str (Str.ofString "bad utf-8") 204)⟩, ⟨(PyData.keyHash P (Str.ofString "RecoreError")), (.str (Str.ofString "RecoreError") 235), (.ref 39)⟩, ⟨(PyData.keyHash P (Str.ofString "BadPattern")), (.str (Str.ofString "BadPattern") 266), (.ref 60)⟩, ⟨(PyData.keyHash P (Str.ofString "BadRewrite")), (.str (Str.ofString "BadRewrite") 282), (.ref 72)⟩, ⟨(PyData.keyHash P (Str.ofString "BadCall")), (.str (Str.ofString "BadCall") 298), (.ref 84)⟩, ⟨(PyData.keyHash P (Str.ofString "BACKSLASH")), (.str (Str.ofString "BACKSLASH") 302), (.int 92 301)⟩, ⟨(PyData.keyHash P (Str.ofString "rewrite_is_figure")), (.str (Str.ofString "rewrite_is_figure") 309), (.ref 93)⟩, ⟨(PyData.keyHash P (Str.ofString "rewrite_pieces")), (.str (Str.ofString "rewrite_pieces") 320), (.ref 100)⟩, ⟨(PyData.keyHash P (Str.ofString "rewrite_most")), (.str (Str.ofString "rewrite_most") 329), (.ref 107)⟩, ⟨(PyData.keyHash P (Str.ofString "rewritten")), (.str (Str.ofString "rewritten") 340), (.ref 114)⟩, ⟨(PyData.keyHash P (Str.ofString "quote_meta")), (.str (Str.ofString "quote_meta") 349), (.ref 121)⟩, ⟨(PyData.keyHash P (Str.ofString "rune_length")), (.str (Str.ofString "rune_length") 358), (.ref 128)⟩, ⟨(PyData.keyHash P (Str.ofString "rune_lead")), (.str (Str.ofString "rune_lead") 365), (.ref 135)⟩, ⟨(PyData.keyHash P (Str.ofString "rune_octets")), (.str (Str.ofString "rune_octets") 376), (.ref 142)⟩, ⟨(PyData.keyHash P (Str.ofString "rune_form_length")), (.str (Str.ofString "rune_form_length") 383), (.ref 149)⟩, ⟨(PyData.keyHash P (Str.ofString "rune_at")), (.str (Str.ofString "rune_at") 395), (.ref 156)⟩, ⟨(PyData.keyHash P (Str.ofString "octets_of_runes")), (.str (Str.ofString "octets_of_runes") 401), (.ref 161)⟩, ⟨(PyData.keyHash P (Str.ofString "ESCAPE_LETTERS")), (.str (Str.ofString "ESCAPE_LETTERS") 416), (.ref 168)⟩, ⟨(PyData.keyHash P (Str.ofString "reader_sign")), (.str (Str.ofString "reader_sign") 427), (.ref 175)⟩, ⟨(PyData.keyHash P (Str.ofString "PatternReader")), (.str (Str.ofString "PatternReader") 505), (.ref 235)⟩, ⟨(PyData.keyHash P (Str.ofString "reader_hex")), (.str (Str.ofString "reader_hex") 512), (.ref 246)⟩, ⟨(PyData.keyHash P (Str.ofString "read_escape")), (.str (Str.ofString "read_escape") 525), (.ref 253)⟩, ⟨(PyData.keyHash P (Str.ofString "escape_top")), (.str (Str.ofString "escape_top") 532), (.ref 260)⟩, ⟨(PyData.keyHash P (Str.ofString "escape_sign")), (.str (Str.ofString "escape_sign") 541), (.ref 267)⟩, ⟨(PyData.keyHash P (Str.ofString "escape_octal")), (.str (Str.ofString "escape_octal") 552), (.ref 274)⟩, ⟨(PyData.keyHash P (Str.ofString "escape_hex")), (.str (Str.ofString "escape_hex") 563), (.ref 281)⟩, ⟨(PyData.keyHash P (Str.ofString "escape_braced")), (.str (Str.ofString "escape_braced") 574), (.ref 288)⟩, ⟨(PyData.keyHash P (Str.ofString "_law_forms")), (.str (Str.ofString "_law_forms") 582), (.ref 295)⟩] 42), #[]⟩
noncomputable abbrev c5_12 (P : Params) : Obj := ⟨.none, none, (.fields #[(.int 1 0), (.int 0 0), (.ref 20), (.int 10 0), (.int 0 0), (.ref 27), (.int 14 0), (.int 0 0), (.ref 48), (.int 20 0), (.int 0 0), (.ref 68), (.int 22 0), (.int 0 0), (.ref 80), (.int 26 0), (.int 0 0), (.ref 92), (.int 28 0), (.int 0 0), (.ref 99), (.int 44 0), (.int 0 0), (.ref 106), (.int 51 0), (.int 0 0), (.ref 113), (.int 61 0), (.int 0 0), (.ref 120), (.int 72 0), (.int 0 0), (.ref 127), (.int 78 0), (.int 0 0), (.ref 134), (.int 80 0), (.int 0 0), (.ref 141), (.int 90 0), (.int 0 0), (.ref 148), (.int 98 0), (.int 0 0), (.ref 155), (.int 113 0), (.int 0 0), (.ref 160), (.int 119 0), (.int 0 0), (.ref 174), (.int 126 0), (.int 0 0), (.ref 181), (.int 156 0), (.int 0 0), (.ref 245), (.int 164 0), (.int 0 0), (.ref 252), (.int 180 0), (.int 0 0), (.ref 259), (.int 182 0), (.int 0 0), (.ref 266), (.int 189 0), (.int 0 0), (.ref 273), (.int 199 0), (.int 0 0), (.ref 280), (.int 208 0), (.int 0 0), (.ref 287), (.int 217 0), (.int 0 0), (.ref 294)]), #[]⟩
noncomputable def treeC5 (P : Params) : BT := (.node (boot_o_0 P) (.node (boot_o_1 P) (.node (c5_3 P) (.node (boot_o_7 P) (.node (o_15 P) (.node (o_31 P) (.node (o_63 P) (.node (o_127 P) (.node (o_255 P) .nil .nil) .nil) (.node (o_191 P) .nil .nil)) (.node (o_95 P) (.node (o_159 P) (.node (o_287 P) .nil .nil) .nil) (.node (o_223 P) .nil .nil))) (.node (o_47 P) (.node (o_79 P) (.node (o_143 P) (.node (o_271 P) .nil .nil) .nil) (.node (o_207 P) .nil .nil)) (.node (o_111 P) (.node (o_175 P) .nil .nil) (.node (o_239 P) .nil .nil)))) (.node (o_23 P) (.node (o_39 P) (.node (o_71 P) (.node (o_135 P) (.node (o_263 P) .nil .nil) .nil) (.node (o_199 P) .nil .nil)) (.node (o_103 P) (.node (o_167 P) (.node (o_295 P) .nil .nil) .nil) (.node (o_231 P) .nil .nil))) (.node (o_55 P) (.node (o_87 P) (.node (o_151 P) (.node (o_279 P) .nil .nil) .nil) (.node (o_215 P) .nil .nil)) (.node (o_119 P) (.node (o_183 P) .nil .nil) (.node (o_247 P) .nil .nil))))) (.node (o_11 P) (.node (o_19 P) (.node (o_35 P) (.node (o_67 P) (.node (o_131 P) (.node (o_259 P) .nil .nil) .nil) (.node (o_195 P) .nil .nil)) (.node (o_99 P) (.node (o_163 P) (.node (o_291 P) .nil .nil) .nil) (.node (o_227 P) .nil .nil))) (.node (o_51 P) (.node (o_83 P) (.node (o_147 P) (.node (o_275 P) .nil .nil) .nil) (.node (o_211 P) .nil .nil)) (.node (o_115 P) (.node (o_179 P) .nil .nil) (.node (o_243 P) .nil .nil)))) (.node (o_27 P) (.node (o_43 P) (.node (o_75 P) (.node (o_139 P) (.node (o_267 P) .nil .nil) .nil) (.node (o_203 P) .nil .nil)) (.node (o_107 P) (.node (o_171 P) .nil .nil) (.node (o_235 P) .nil .nil))) (.node (o_59 P) (.node (o_91 P) (.node (o_155 P) (.node (o_283 P) .nil .nil) .nil) (.node (o_219 P) .nil .nil)) (.node (o_123 P) (.node (o_187 P) .nil .nil) (.node (o_251 P) .nil .nil)))))) (.node (boot_o_5 P) (.node (boot_o_9 P) (.node (o_17 P) (.node (o_33 P) (.node (o_65 P) (.node (o_129 P) (.node (o_257 P) .nil .nil) .nil) (.node (o_193 P) .nil .nil)) (.node (o_97 P) (.node (o_161 P) (.node (o_289 P) .nil .nil) .nil) (.node (o_225 P) .nil .nil))) (.node (o_49 P) (.node (o_81 P) (.node (o_145 P) (.node (o_273 P) .nil .nil) .nil) (.node (o_209 P) .nil .nil)) (.node (o_113 P) (.node (o_177 P) .nil .nil) (.node (o_241 P) .nil .nil)))) (.node (o_25 P) (.node (o_41 P) (.node (o_73 P) (.node (o_137 P) (.node (o_265 P) .nil .nil) .nil) (.node (o_201 P) .nil .nil)) (.node (o_105 P) (.node (o_169 P) .nil .nil) (.node (o_233 P) .nil .nil))) (.node (o_57 P) (.node (o_89 P) (.node (o_153 P) (.node (o_281 P) .nil .nil) .nil) (.node (o_217 P) .nil .nil)) (.node (o_121 P) (.node (o_185 P) .nil .nil) (.node (o_249 P) .nil .nil))))) (.node (o_13 P) (.node (o_21 P) (.node (o_37 P) (.node (o_69 P) (.node (o_133 P) (.node (o_261 P) .nil .nil) .nil) (.node (o_197 P) .nil .nil)) (.node (o_101 P) (.node (o_165 P) (.node (o_293 P) .nil .nil) .nil) (.node (o_229 P) .nil .nil))) (.node (o_53 P) (.node (o_85 P) (.node (o_149 P) (.node (o_277 P) .nil .nil) .nil) (.node (o_213 P) .nil .nil)) (.node (o_117 P) (.node (o_181 P) .nil .nil) (.node (o_245 P) .nil .nil)))) (.node (o_29 P) (.node (o_45 P) (.node (o_77 P) (.node (o_141 P) (.node (o_269 P) .nil .nil) .nil) (.node (o_205 P) .nil .nil)) (.node (o_109 P) (.node (o_173 P) .nil .nil) (.node (o_237 P) .nil .nil))) (.node (o_61 P) (.node (o_93 P) (.node (o_157 P) (.node (o_285 P) .nil .nil) .nil) (.node (o_221 P) .nil .nil)) (.node (o_125 P) (.node (o_189 P) .nil .nil) (.node (o_253 P) .nil .nil))))))) (.node (o_2 P) (.node (boot_o_4 P) (.node (boot_o_8 P) (.node (o_16 P) (.node (o_32 P) (.node (o_64 P) (.node (o_128 P) (.node (o_256 P) .nil .nil) .nil) (.node (o_192 P) .nil .nil)) (.node (o_96 P) (.node (o_160 P) (.node (o_288 P) .nil .nil) .nil) (.node (o_224 P) .nil .nil))) (.node (o_48 P) (.node (o_80 P) (.node (o_144 P) (.node (o_272 P) .nil .nil) .nil) (.node (o_208 P) .nil .nil)) (.node (o_112 P) (.node (o_176 P) .nil .nil) (.node (o_240 P) .nil .nil)))) (.node (o_24 P) (.node (o_40 P) (.node (o_72 P) (.node (o_136 P) (.node (o_264 P) .nil .nil) .nil) (.node (o_200 P) .nil .nil)) (.node (o_104 P) (.node (o_168 P) .nil .nil) (.node (o_232 P) .nil .nil))) (.node (o_56 P) (.node (o_88 P) (.node (o_152 P) (.node (o_280 P) .nil .nil) .nil) (.node (o_216 P) .nil .nil)) (.node (o_120 P) (.node (o_184 P) .nil .nil) (.node (o_248 P) .nil .nil))))) (.node (c5_12 P) (.node (o_20 P) (.node (o_36 P) (.node (o_68 P) (.node (o_132 P) (.node (o_260 P) .nil .nil) .nil) (.node (o_196 P) .nil .nil)) (.node (o_100 P) (.node (o_164 P) (.node (o_292 P) .nil .nil) .nil) (.node (o_228 P) .nil .nil))) (.node (o_52 P) (.node (o_84 P) (.node (o_148 P) (.node (o_276 P) .nil .nil) .nil) (.node (o_212 P) .nil .nil)) (.node (o_116 P) (.node (o_180 P) .nil .nil) (.node (o_244 P) .nil .nil)))) (.node (o_28 P) (.node (o_44 P) (.node (o_76 P) (.node (o_140 P) (.node (o_268 P) .nil .nil) .nil) (.node (o_204 P) .nil .nil)) (.node (o_108 P) (.node (o_172 P) .nil .nil) (.node (o_236 P) .nil .nil))) (.node (o_60 P) (.node (o_92 P) (.node (o_156 P) (.node (o_284 P) .nil .nil) .nil) (.node (o_220 P) .nil .nil)) (.node (o_124 P) (.node (o_188 P) .nil .nil) (.node (o_252 P) .nil .nil)))))) (.node (boot_o_6 P) (.node (boot_o_10 P) (.node (o_18 P) (.node (o_34 P) (.node (o_66 P) (.node (o_130 P) (.node (o_258 P) .nil .nil) .nil) (.node (o_194 P) .nil .nil)) (.node (o_98 P) (.node (o_162 P) (.node (o_290 P) .nil .nil) .nil) (.node (o_226 P) .nil .nil))) (.node (o_50 P) (.node (o_82 P) (.node (o_146 P) (.node (o_274 P) .nil .nil) .nil) (.node (o_210 P) .nil .nil)) (.node (o_114 P) (.node (o_178 P) .nil .nil) (.node (o_242 P) .nil .nil)))) (.node (o_26 P) (.node (o_42 P) (.node (o_74 P) (.node (o_138 P) (.node (o_266 P) .nil .nil) .nil) (.node (o_202 P) .nil .nil)) (.node (o_106 P) (.node (o_170 P) .nil .nil) (.node (o_234 P) .nil .nil))) (.node (o_58 P) (.node (o_90 P) (.node (o_154 P) (.node (o_282 P) .nil .nil) .nil) (.node (o_218 P) .nil .nil)) (.node (o_122 P) (.node (o_186 P) .nil .nil) (.node (o_250 P) .nil .nil))))) (.node (o_14 P) (.node (o_22 P) (.node (o_38 P) (.node (o_70 P) (.node (o_134 P) (.node (o_262 P) .nil .nil) .nil) (.node (o_198 P) .nil .nil)) (.node (o_102 P) (.node (o_166 P) (.node (o_294 P) .nil .nil) .nil) (.node (o_230 P) .nil .nil))) (.node (o_54 P) (.node (o_86 P) (.node (o_150 P) (.node (o_278 P) .nil .nil) .nil) (.node (o_214 P) .nil .nil)) (.node (o_118 P) (.node (o_182 P) .nil .nil) (.node (o_246 P) .nil .nil)))) (.node (o_30 P) (.node (o_46 P) (.node (o_78 P) (.node (o_142 P) (.node (o_270 P) .nil .nil) .nil) (.node (o_206 P) .nil .nil)) (.node (o_110 P) (.node (o_174 P) .nil .nil) (.node (o_238 P) .nil .nil))) (.node (o_62 P) (.node (o_94 P) (.node (o_158 P) (.node (o_286 P) .nil .nil) .nil) (.node (o_222 P) .nil .nil)) (.node (o_126 P) (.node (o_190 P) .nil .nil) (.node (o_254 P) .nil .nil))))))))
noncomputable abbrev stC5 (w : World) (os : OsState) : SharedT := ⟨treeC5 w.params, 296, {}, #[], {}, 583, os⟩
abbrev posC5 : Pos := ⟨217, 0, 218, 184⟩
noncomputable abbrev rest5 : List Stmt := rest4.drop 9
theorem hd_size (w : World) : ((boot_heap w.params).isNs mainGlobals && (Array.mk ([] : List GenState)).size == 0, (boot_heap w.params).objs.size, (boot_heap w.params).nsMap mainGlobals "__annotations__") = (true, 11, ann0) := by kernel_rfl
theorem hd_pre' (w : World) : (fun os => Fast.tw15667345088766844465 Fast.tw14364793385576792824 HP w 11 ann0 12 ⟨boot_heap w.params, #[], boot_drawn, boot_toks, os⟩ (topStub HP)) = fun os => some ((stA w os).abs, ⟨Fast.tw11892475500146522536 Fast.tw14364793385576792824 cd0, cd0, pos0, [topFrame pos0]⟩) := by kernel_rfl
theorem hd_block' (w : World) : (fun os => Fast.tw10110043849684766642 Fast.tw14364793385576792824 HP w 11 ann0 1 1 (stA w os) (blockOf (behindTheImports HP) env0 cd0 pos0 [topFrame pos0])) = fun os => some (.next, stA w os, cd0, pos0) := by kernel_rfl
theorem hd_fin (w : World) (os : OsState) : topRun treeTable HP w 11 ann0 2 (stF w os).abs ⟨doneF .next, cd0, posF, [topFrame pos0]⟩ = some ⟨heapF w.params, #[], {}, 662, os⟩ := by kernel_rfl
theorem hd_run1 (w : World) : (fun os => Fast.tw10110043849684766642 Fast.tw14364793385576792824 HP w 11 ann0 1 566 (stA w os) (piecesOf (rest0.take 9) env0 cd0 pos0 [topFrame pos0])) = fun os => some (.next, stC1 w os, cd0, posC1) := by kernel_rfl
theorem hd_run2 (w : World) : (fun os => Fast.tw10110043849684766642 Fast.tw14364793385576792824 HP w 11 ann0 1 474 (stC1 w os) (piecesOf (rest1.take 5) env0 cd0 posC1 [topFrame pos0])) = fun os => some (.next, stC2 w os, cd0, posC2) := by kernel_rfl
theorem hd_run3 (w : World) : (fun os => Fast.tw10110043849684766642 Fast.tw14364793385576792824 HP w 11 ann0 1 394 (stC2 w os) (piecesOf (rest2.take 14) env0 cd0 posC2 [topFrame pos0])) = fun os => some (.next, stC3 w os, cd0, posC3) := by kernel_rfl
theorem hd_run4 (w : World) : (fun os => Fast.tw10110043849684766642 Fast.tw14364793385576792824 HP w 11 ann0 1 417 (stC3 w os) (piecesOf (rest3.take 1) env0 cd0 posC3 [topFrame pos0])) = fun os => some (.next, stC4 w os, cd0, posC4) := by kernel_rfl
theorem hd_run5 (w : World) : (fun os => Fast.tw10110043849684766642 Fast.tw14364793385576792824 HP w 11 ann0 1 261 (stC4 w os) (piecesOf (rest4.take 9) env0 cd0 posC4 [topFrame pos0])) = fun os => some (.next, stC5 w os, cd0, posC5) := by kernel_rfl
theorem hd_run6 (w : World) : (fun os => Fast.tw10110043849684766642 Fast.tw14364793385576792824 HP w 11 ann0 1 274 (stC5 w os) (piecesOf rest5 env0 cd0 posC5 [topFrame pos0])) = fun os => some (.next, stF w os, cd0, posF) := by kernel_rfl
theorem tw_seg {w : World} {n : Nat} {s s' : SharedT} {t : Thread} {f : Flow} {c : Code} {p : Pos} (h : Fast.tw10110043849684766642 Fast.tw14364793385576792824 HP w 11 ann0 1 n s t = some (f, s', c, p)) : segRun treeTable HP w 11 ann0 1 n s.abs t = some (f, s'.abs, c, p) := by
  rw [← Fast.te10110043849684766642, ← Fast.te14364793385576792824] at h
  exact segRun_of h
theorem hd_run (w : World) (os : OsState) : topRun treeTable HP w 11 ann0 (12 + (1 + (566 + (474 + (394 + (417 + (261 + (274 + 2)))))))) ⟨boot_heap w.params, #[], boot_drawn, boot_toks, os⟩ (topStub HP) = some ⟨heapF w.params, #[], {}, 662, os⟩ := by
  have h1 := congrFun (hd_pre' w) os
  rw [← Fast.te15667345088766844465, ← Fast.te11892475500146522536, ← Fast.te14364793385576792824] at h1
  have k6 := piece_app (rest := []) (tw_seg (congrFun (hd_run6 w) os)) (hd_fin w os)
  rw [List.append_nil] at k6
  have k5 := piece_app (tw_seg (congrFun (hd_run5 w) os)) k6
  rw [List.take_append_drop] at k5
  have k4 := piece_app (tw_seg (congrFun (hd_run4 w) os)) k5
  rw [List.take_append_drop] at k4
  have k3 := piece_app (tw_seg (congrFun (hd_run3 w) os)) k4
  rw [List.take_append_drop] at k3
  have k2 := piece_app (tw_seg (congrFun (hd_run2 w) os)) k3
  rw [List.take_append_drop] at k2
  have k1 := piece_app (tw_seg (congrFun (hd_run1 w) os)) k2
  rw [List.take_append_drop] at k1
  exact go_top h1 (piece_block (tw_seg (congrFun (hd_block' w) os)) k1)
theorem hd_open (w : World) : (fencedOpening treeTable HP w 6000).map (fun s => (s.heap, s.gens, s.drawn, s.toks)) = some (boot_heap w.params, #[], boot_drawn, boot_toks) :=
  boot_open (by kernel_rfl) (by decide) (fun s => by kernel_rfl) w
noncomputable abbrev XtF (s : Shared) : Bool := xlAt VQ [] s && recOk (RowW.records (OpenRow.toRowW PySem.Challenge.rw_sj0126_01.row)) s
theorem hd_l1 (w : World) : (fun os => (staticsOk (importedModules HP.main.body) (boot_heap w.params) (heapF w.params) && namesBound HP (heapF w.params) && gensDone ⟨heapF w.params, #[], {}, 662, os⟩ && laidKept (boot_heap w.params) (heapF w.params))) = fun _ => true := by kernel_rfl
theorem hd_l2' (w : World) : (fun os => Fast.tw4187177175401517315 VQ LN (importedModules HP.main.body) XtF true ⟨heapF w.params, #[], {}, 662, os⟩) = fun _ => openGood VQ LN := by kernel_rfl
theorem hd_l3 (w : World) : asF.map (heapF w.params).get? = (KF w.params).map (fun p => some p.2) := by kernel_rfl
theorem hd_left : LeftO HP VQ LN XtF (fun s => asF.map s.heap.get?) (fun w => (KF w.params).map fun p => some p.2) 6000 := by
  refine LeftO.of_pieces hd_open hd_size hd_run (by decide) fun w => ?_
  have h2 := hd_l2' w
  rw [← Fast.te4187177175401517315] at h2
  funext os
  exact Prod.ext (congrFun (hd_l1 w) os) (Prod.ext (congrFun h2 os) (hd_l3 w))
theorem asF_eq (P : Params) : asF = (KF P).map (·.1) := by rfl
noncomputable abbrev hookF : Hook := kHook KF asF asF_eq
noncomputable abbrev lw : OpenLaw := PySem.Challenge.rw_sj0126_01
theorem said_names : namesResolve lw.prog = true := by kernel_rfl
theorem said_world : lw.prog.boundNames.all (fun n => !worldNames.contains n) = true := by kernel_rfl
theorem said_road : noRoadLSs { strict := !(importedModules lw.prog.main.body).all cThrough.contains, foot := none, bare := (["vars", "dir", "locals"] : List Str).filter (readsOut lw.prog lw.prog.main.body) } lw.prog.main.body = true := by kernel_rfl
theorem said_meet : (namesMeet lw.prog lw.prog.main.body fun _ n => attrL n) = true := by kernel_rfl
theorem said_open : looksOpen lw.prog = true := look_both (look_both (look_both (look_both (look_both (by kernel_rfl) (by kernel_rfl)) said_names) said_world) said_road) said_meet
theorem said_part : lw.row.partSaid = true := by
  unfold OpenRow.partSaid
  iterate 13 refine look_both ?_ (by kernel_rfl)
  exact said_open
theorem said_row : lw.row.wellSaid = true := look_both (look_both said_part (by kernel_rfl)) (by kernel_rfl)
theorem said_foot : noRoadLSs { strict := true, foot := some lw.bound', writes := lw.writes, may := lw.may } lw.footing = true := by kernel_rfl
theorem said_bound : lw.bound'.all (fun n => !builtinNamed n || lw.about == [n] || !lw.reads n) = true := by kernel_rfl
theorem said_own : namesMeet lw.prog lw.above (fun _ n => !lw.own.contains n) = true := by kernel_rfl
theorem hd_said : OpenLaw.wellSaid PySem.Challenge.rw_sj0126_01 = true := by
  show lw.wellSaid = true
  unfold OpenLaw.wellSaid
  refine look_both (look_both ?_ said_own) (by kernel_rfl)
  iterate 6 refine look_both ?_ (by kernel_rfl)
  refine look_both ?_ said_bound
  iterate 3 refine look_both ?_ (by kernel_rfl)
  refine look_both ?_ said_foot
  iterate 5 refine look_both ?_ (by kernel_rfl)
  exact said_row
theorem hd_ok : (chainsOk VQ && opensWell HP && (frees (OpenRow.toRowW PySem.Challenge.rw_sj0126_01.row) && PySem.Challenge.rw_sj0126_01.row.within.isEmpty)) = true := by kernel_rfl
theorem good_end {c : ClaimW} {cl : Str → Option Addr} {mean : ExcName → Option Value} {args : List WData} {s₁ s' : Shared} {b : Bool} (hk : ∀ x o, s₁.heap.get? x = some o → s'.heap.get? x = some o) (hg : s'.gens = #[]) (hn : ∀ cls, c.raises args cls = false) (hp : c.post args (.bool b) args = true) (hos : s'.os = s₁.os) :
    GoodW c cl mean args s₁ (.ok (.ret (.bool b))) s' := ⟨.inl ⟨_, _, [], rfl, hn, ReadsW.bool b, hp, fun _ => ⟨List.nodup_nil, fun _ hm => (nomatch hm)⟩⟩, hk, hos, hg⟩
local macro_rules | `(tactic| k_qdec) => `(tactic| decide +kernel)
theorem final : PySem.Challenge.rw_sj0126_01.Holds := by
  refine holds_law hd_said fun said => ?_
  refine holds_open (q := VQ) (loose := LN) (Xt := XtF) (XP := XL VQ []) (Yf := hookF.obs) (Ya := hookF.val) (YP := hookF.says) (N := 6000) hd_left (Hook.of hookF) (Hook.keeps hookF) (fun s e => xl_of s (Bool.and_eq_true_iff.mp e).1) XL.keeps (by rfl) (by rfl) (by rfl) (fun s e => recFacts_of (Bool.and_eq_true_iff.mp e).2) (by rfl) said hd_ok ⟨rfl, rfl, rfl, rfl, rfl, by decide +kernel⟩ ?hw ?hc
  case hw => w_witness2
  k_go0
  (rename Below _ _ _ _ => hB); (rename Frag.In _ _ => hX); (rename Top _ _ _ _ _ _ => hT); (rename Fr _ _ _ _ => hF); (rename News _ _ _ _ => hN); (rename Heap.IsList _ _ _ => hL); (rename IntsAre _ _ => hI)
  (rename Shared.gens _ = _ => hg)
  (rename ¬ ((63 : Nat) : Int) < _ => hz)
  refine wpAny_mono (law_all ⟨_, rfl⟩ _ _ _ _ (Shared.heap _) _ _ _ _ _ _ ⟨hB, hX, hT⟩ _ (fr_named (ps := [(Str.ofString "script", .ref _)]) hF (by kst_all)) hN _ _ hL hI (by omega) fun h tk hk => ?_) (fun _ _ h => h) (fun _ _ h => h.elim)
  dsimp only
  refine good_end hk hg ?_ ?_ rfl
  · first | (intro cls; rfl) | (refine raisesW_false ?_; wrow_none_raised)
  · first | rfl | kc_post | wrow_post
end Mine
set_option maxRecDepth 100000 in
theorem PySem.Challenge.cw_sj0126_01_holds : PySem.Challenge.rw_sj0126_01.Holds := by
  exact Mine.final

import PyProof.Rows.All
import Wide.All
import OpenK.AllK
import Wide.FinOn
import Lean
import PySem.Challenge.RW_np0012_01
open PySem PySem.W PyProof.Rows
set_option Elab.async false
set_option maxRecDepth 100000
set_option compiler.extract_closed false
set_option linter.all false
set_option genSizeOf false
set_option genInjectivity false
namespace Np
open PySem PySem.W PyProof.Rows
noncomputable def nth : List Stmt → Nat → Stmt
  | [], _ => .Pass default
  | a :: _, 0 => a
  | _ :: r, n + 1 => nth r n
noncomputable def inn : Stmt → List Stmt
  | .ClassDef _ _ _ b _ _ _ _ _ _ _ => b
  | _ => []
noncomputable def fp : Stmt → Arguments × List Stmt × Scope
  | .FunctionDef _ a b _ _ _ s _ _ _ => (a, b, s)
  | _ => default
noncomputable def entries : Obj → List DictEntry
  | ⟨_, _, .dict es _, _⟩ => es.toList
  | _ => []
noncomputable def valAt : List DictEntry → Nat → Value
  | [], _ => .none
  | e :: _, 0 => e.val
  | _ :: r, n + 1 => valAt r n
noncomputable def tx : List Stmt := PySem.Challenge.pw_np0012_01.main.body
set_option maxHeartbeats 0 in
noncomputable def hd.heap_39 : Params → Frag := by
  refine (?f : (vl : Value) → (∀ P, valAt (entries (boot_o_3 P)) 3 = vl) → (p1_0 : Arguments) → (b1_0 : List Stmt) → (s1_0 : Scope) → fp (nth (inn (nth tx 1)) 0) = (p1_0, b1_0, s1_0) → (p3_0 : Arguments) → (b3_0 : List Stmt) → (s3_0 : Scope) → fp (nth (inn (nth tx 3)) 0) = (p3_0, b3_0, s3_0) → (p5_0 : Arguments) → (b5_0 : List Stmt) → (s5_0 : Scope) → fp (nth (inn (nth tx 5)) 0) = (p5_0, b5_0, s5_0) → (p6 : Arguments) → (b6 : List Stmt) → (s6 : Scope) → fp (nth tx 6) = (p6, b6, s6) → (p7 : Arguments) → (b7 : List Stmt) → (s7 : Scope) → fp (nth tx 7) = (p7, b7, s7) → (p8 : Arguments) → (b8 : List Stmt) → (s8 : Scope) → fp (nth tx 8) = (p8, b8, s8) → (p12_0 : Arguments) → (b12_0 : List Stmt) → (s12_0 : Scope) → fp (nth (inn (nth tx 12)) 0) = (p12_0, b12_0, s12_0) → (p12_1 : Arguments) → (b12_1 : List Stmt) → (s12_1 : Scope) → fp (nth (inn (nth tx 12)) 1) = (p12_1, b12_1, s12_1) → (p12_2 : Arguments) → (b12_2 : List Stmt) → (s12_2 : Scope) → fp (nth (inn (nth tx 12)) 2) = (p12_2, b12_2, s12_2) → (p13 : Arguments) → (b13 : List Stmt) → (s13 : Scope) → fp (nth tx 13) = (p13, b13, s13) → (p14 : Arguments) → (b14 : List Stmt) → (s14 : Scope) → fp (nth tx 14) = (p14, b14, s14) → (p15 : Arguments) → (b15 : List Stmt) → (s15 : Scope) → fp (nth tx 15) = (p15, b15, s15) → (p17 : Arguments) → (b17 : List Stmt) → (s17 : Scope) → fp (nth tx 17) = (p17, b17, s17) → (p18 : Arguments) → (b18 : List Stmt) → (s18 : Scope) → fp (nth tx 18) = (p18, b18, s18) → (p19 : Arguments) → (b19 : List Stmt) → (s19 : Scope) → fp (nth tx 19) = (p19, b19, s19) → (p20 : Arguments) → (b20 : List Stmt) → (s20 : Scope) → fp (nth tx 20) = (p20, b20, s20) → (p21 : Arguments) → (b21 : List Stmt) → (s21 : Scope) → fp (nth tx 21) = (p21, b21, s21) → Params → Frag)
    ?vl ?hvl ?p1_0 ?b1_0 ?s1_0 ?h1_0 ?p3_0 ?b3_0 ?s3_0 ?h3_0 ?p5_0 ?b5_0 ?s5_0 ?h5_0 ?p6 ?b6 ?s6 ?h6 ?p7 ?b7 ?s7 ?h7 ?p8 ?b8 ?s8 ?h8 ?p12_0 ?b12_0 ?s12_0 ?h12_0 ?p12_1 ?b12_1 ?s12_1 ?h12_1 ?p12_2 ?b12_2 ?s12_2 ?h12_2 ?p13 ?b13 ?s13 ?h13 ?p14 ?b14 ?s14 ?h14 ?p15 ?b15 ?s15 ?h15 ?p17 ?b17 ?s17 ?h17 ?p18 ?b18 ?s18 ?h18 ?p19 ?b19 ?s19 ?h19 ?p20 ?b20 ?s20 ?h20 ?p21 ?b21 ?s21 ?h21
  case hvl => intro P; dsimp only [entries, valAt, boot_o_3, List.toList_toArray]; exact rfl
  case h1_0 => dsimp only [fp, nth, inn, tx, PySem.Challenge.pw_np0012_01]; exact rfl
  case h3_0 => dsimp only [fp, nth, inn, tx, PySem.Challenge.pw_np0012_01]; exact rfl
  case h5_0 => dsimp only [fp, nth, inn, tx, PySem.Challenge.pw_np0012_01]; exact rfl
  case h6 => dsimp only [fp, nth, inn, tx, PySem.Challenge.pw_np0012_01]; exact rfl
  case h7 => dsimp only [fp, nth, inn, tx, PySem.Challenge.pw_np0012_01]; exact rfl
  case h8 => dsimp only [fp, nth, inn, tx, PySem.Challenge.pw_np0012_01]; exact rfl
  case h12_0 => dsimp only [fp, nth, inn, tx, PySem.Challenge.pw_np0012_01]; exact rfl
  case h12_1 => dsimp only [fp, nth, inn, tx, PySem.Challenge.pw_np0012_01]; exact rfl
  case h12_2 => dsimp only [fp, nth, inn, tx, PySem.Challenge.pw_np0012_01]; exact rfl
  case h13 => dsimp only [fp, nth, inn, tx, PySem.Challenge.pw_np0012_01]; exact rfl
  case h14 => dsimp only [fp, nth, inn, tx, PySem.Challenge.pw_np0012_01]; exact rfl
  case h15 => dsimp only [fp, nth, inn, tx, PySem.Challenge.pw_np0012_01]; exact rfl
  case h17 => dsimp only [fp, nth, inn, tx, PySem.Challenge.pw_np0012_01]; exact rfl
  case h18 => dsimp only [fp, nth, inn, tx, PySem.Challenge.pw_np0012_01]; exact rfl
  case h19 => dsimp only [fp, nth, inn, tx, PySem.Challenge.pw_np0012_01]; exact rfl
  case h20 => dsimp only [fp, nth, inn, tx, PySem.Challenge.pw_np0012_01]; exact rfl
  case h21 => dsimp only [fp, nth, inn, tx, PySem.Challenge.pw_np0012_01]; exact rfl
  case f =>
   exact fun vl _ p1_0 b1_0 s1_0 _ p3_0 b3_0 s3_0 _ p5_0 b5_0 s5_0 _ p6 b6 s6 _ p7 b7 s7 _ p8 b8 s8 _ p12_0 b12_0 s12_0 _ p12_1 b12_1 s12_1 _ p12_2 b12_2 s12_2 _ p13 b13 s13 _ p14 b14 s14 _ p15 b15 s15 _ p17 b17 s17 _ p18 b18 s18 _ p19 b19 s19 _ p20 b20 s20 _ p21 b21 s21 _ P => ((
    Prod.mk (α := Nat) (nat_lit 2) (Obj.mk Value.none (none : Option Nat) (Data.dict #[⟨PyData.keyHash P (Str.ofString "type.__subclasses__.Exception.0"), .str (Str.ofString "type.__subclasses__.Exception.0") (216 : Nat), (Value.int 31 (0 : Nat))⟩, ⟨PyData.keyHash P (Str.ofString "type.__subclasses__.Exception.n"), .str (Str.ofString "type.__subclasses__.Exception.n") (217 : Nat), (Value.int 1 (0 : Nat))⟩] (2 : Nat)) #[]) ::
    Prod.mk (α := Nat) (nat_lit 3) (Obj.mk (Value.type "dict") (none : Option Nat) (Data.dict #[⟨PyData.keyHash P (Str.ofString "__name__"), .str (Str.ofString "__name__") (165 : Nat), (.str (Str.ofString "law_np0012_01") (403 : Nat))⟩, ⟨PyData.keyHash P (Str.ofString "__doc__"), .str (Str.ofString "__doc__") (166 : Nat), Value.none⟩, ⟨PyData.keyHash P (Str.ofString "__package__"), .str (Str.ofString "__package__") (167 : Nat), Value.none⟩, ⟨PyData.keyHash P (Str.ofString "__loader__"), .str (Str.ofString "__loader__") (168 : Nat), vl⟩, ⟨PyData.keyHash P (Str.ofString "__spec__"), .str (Str.ofString "__spec__") (169 : Nat), Value.none⟩, ⟨PyData.keyHash P (Str.ofString "__annotations__"), .str (Str.ofString "__annotations__") (170 : Nat), (Value.ref (6 : Nat))⟩, ⟨PyData.keyHash P (Str.ofString "__builtins__"), .str (Str.ofString "__builtins__") (171 : Nat), (Value.ref (4 : Nat))⟩, ⟨PyData.keyHash P (Str.ofString "__file__"), .str (Str.ofString "__file__") (173 : Nat), (.str (Str.ofString "/claim/cut.py") (172 : Nat))⟩, ⟨PyData.keyHash P (Str.ofString "__cached__"), .str (Str.ofString "__cached__") (174 : Nat), Value.none⟩, ⟨PyData.keyHash P (Str.ofString "LispSignal"), .str (Str.ofString "LispSignal") (219 : Nat), (Value.ref (31 : Nat))⟩, ⟨PyData.keyHash P (Str.ofString "Symbol"), .str (Str.ofString "Symbol") (252 : Nat), (Value.ref (51 : Nat))⟩, ⟨PyData.keyHash P (Str.ofString "NIL"), .str (Str.ofString "NIL") (262 : Nat), (Value.ref (57 : Nat))⟩, ⟨PyData.keyHash P (Str.ofString "Cons"), .str (Str.ofString "Cons") (293 : Nat), (Value.ref (75 : Nat))⟩, ⟨PyData.keyHash P (Str.ofString "list_of"), .str (Str.ofString "list_of") (303 : Nat), (Value.ref (87 : Nat))⟩, ⟨PyData.keyHash P (Str.ofString "split_list"), .str (Str.ofString "split_list") (313 : Nat), (Value.ref (94 : Nat))⟩, ⟨PyData.keyHash P (Str.ofString "items_of"), .str (Str.ofString "items_of") (322 : Nat), (Value.ref (101 : Nat))⟩, ⟨PyData.keyHash P (Str.ofString "OPTIONAL"), .str (Str.ofString "OPTIONAL") (326 : Nat), (.str (Str.ofString "&optional") (325 : Nat))⟩, ⟨PyData.keyHash P (Str.ofString "REST"), .str (Str.ofString "REST") (328 : Nat), (.str (Str.ofString "&rest") (327 : Nat))⟩, ⟨PyData.keyHash P (Str.ofString "LambdaList"), .str (Str.ofString "LambdaList") (378 : Nat), (Value.ref (132 : Nat))⟩, ⟨PyData.keyHash P (Str.ofString "bad_function"), .str (Str.ofString "bad_function") (385 : Nat), (Value.ref (143 : Nat))⟩, ⟨PyData.keyHash P (Str.ofString "read_lambda_list"), .str (Str.ofString "read_lambda_list") (391 : Nat), (Value.ref (148 : Nat))⟩, ⟨PyData.keyHash P (Str.ofString "values_for"), .str (Str.ofString "values_for") (402 : Nat), (Value.ref (155 : Nat))⟩, ⟨PyData.keyHash P (Str.ofString "_law_deck"), .str (Str.ofString "_law_deck") (410 : Nat), (Value.ref (160 : Nat))⟩, ⟨PyData.keyHash P (Str.ofString "_law_draw"), .str (Str.ofString "_law_draw") (421 : Nat), (Value.ref (167 : Nat))⟩, ⟨PyData.keyHash P (Str.ofString "_law_words"), .str (Str.ofString "_law_words") (427 : Nat), (Value.ref (172 : Nat))⟩, ⟨PyData.keyHash P (Str.ofString "_law_read"), .str (Str.ofString "_law_read") (436 : Nat), (Value.ref (179 : Nat))⟩, ⟨PyData.keyHash P (Str.ofString "law"), .str (Str.ofString "law") (442 : Nat), (Value.ref (184 : Nat))⟩] (27 : Nat)) #[]) ::
    Prod.mk (α := Nat) (nat_lit 15) (Obj.mk (Value.type "tuple") (none : Option Nat) (Data.seq #[(Value.type "Exception")] (0 : Nat)) #[]) ::
    Prod.mk (α := Nat) (nat_lit 22) (Obj.mk (Value.type "tuple") (none : Option Nat) (Data.seq #[] (0 : Nat)) #[]) ::
    Prod.mk (α := Nat) (nat_lit 24) (Obj.mk (Value.type "tuple") (none : Option Nat) (Data.seq #[(.str (Str.ofString "self") (204 : Nat)), (.str (Str.ofString "symbol") (205 : Nat)), (.str (Str.ofString "data") (206 : Nat))] (0 : Nat)) #[]) ::
    Prod.mk (α := Nat) (nat_lit 25) (Obj.mk (Value.type "tuple") (none : Option Nat) (Data.seq #[] (0 : Nat)) #[]) ::
    Prod.mk (α := Nat) (nat_lit 27) (Obj.mk (Value.type "code") (none : Option Nat) (Data.fields #[(.str (Str.ofString "__init__") (201 : Nat)), (.str (Str.ofString "LispSignal.__init__") (202 : Nat)), (.str (Str.ofString "/claim/cut.py") (203 : Nat)), (Value.int 4 (0 : Nat)), (Value.int 3 (0 : Nat)), (Value.int 0 (0 : Nat)), (Value.int 0 (0 : Nat)), (Value.int 3 (0 : Nat)), (Value.ref (22 : Nat)), (Value.bool true), (Value.int 181 (0 : Nat)), (Value.ref (23 : Nat)), Value.none, (Value.ref (24 : Nat)), (Value.ref (25 : Nat)), (Value.ref (26 : Nat)), (Value.int 207 (0 : Nat)), (Value.int 4 (0 : Nat)), (.str (Str.ofString "/claim/cut.py") (208 : Nat))]) #[]) ::
    Prod.mk (α := Nat) (nat_lit 28) (Obj.mk (Value.type "function") (none : Option Nat) (Data.func (FuncData.mk (Str.ofString "__init__") (Str.ofString "LispSignal.__init__") p1_0 (.stmts b1_0) s1_0 (3 : Nat) ([] : List (Str × Nat)) Value.none Value.none Value.none (.str (Str.ofString "emacs.errors") (187 : Nat)) (none : Option Nat) (Value.ref (27 : Nat)) Value.none (0 : Nat))) #[]) ::
    Prod.mk (α := Nat) (nat_lit 29) (Obj.mk (Value.type "tuple") (none : Option Nat) (Data.seq #[(.str (Str.ofString "data") (210 : Nat)), (.str (Str.ofString "symbol") (211 : Nat))] (0 : Nat)) #[]) ::
    Prod.mk (α := Nat) (nat_lit 30) (Obj.mk (Value.type "dict") (none : Option Nat) (Data.dict #[⟨PyData.keyHash P (Str.ofString "__module__"), .str (Str.ofString "__module__") (196 : Nat), (.str (Str.ofString "emacs.errors") (187 : Nat))⟩, ⟨PyData.keyHash P (Str.ofString "__firstlineno__"), .str (Str.ofString "__firstlineno__") (200 : Nat), (Value.int 2 (199 : Nat))⟩, ⟨PyData.keyHash P (Str.ofString "__init__"), .str (Str.ofString "__init__") (209 : Nat), (Value.ref (28 : Nat))⟩, ⟨PyData.keyHash P (Str.ofString "__static_attributes__"), .str (Str.ofString "__static_attributes__") (212 : Nat), (Value.ref (29 : Nat))⟩, ⟨PyData.keyHash P (Str.ofString "__weakref__"), .str (Str.ofString "__weakref__") (214 : Nat), (Value.ref (32 : Nat))⟩, ⟨PyData.keyHash P (Str.ofString "__doc__"), .str (Str.ofString "__doc__") (215 : Nat), Value.none⟩] (3 : Nat)) #[]) ::
    Prod.mk (α := Nat) (nat_lit 31) (Obj.mk (Value.type "type") (none : Option Nat) (Data.cls (ClassData.mk (Str.ofString "LispSignal") [(Value.type "Exception")] [(Value.ref (31 : Nat)), (Value.type "Exception"), (Value.type "BaseException"), (Value.type "object")] (30 : Nat) (Str.ofString "LispSignal") true [] [] false none false)) #[(some (Value.ref (15 : Nat))), none, (some (.str (Str.ofString "LispSignal") (189 : Nat))), (some (.str (Str.ofString "LispSignal") (197 : Nat))), (some (Value.builtin "Exception.__new__")), (some (Value.bool true))]) ::
    Prod.mk (α := Nat) (nat_lit 32) (Obj.mk (Value.type "getset_descriptor") (none : Option Nat) (Data.fields #[(.str (Str.ofString "__weakref__") (213 : Nat)), (Value.ref (31 : Nat)), (Value.builtin "ExceptionGroup.__weakref__"), Value.none]) #[]) ::
    Prod.mk (α := Nat) (nat_lit 42) (Obj.mk (Value.type "tuple") (none : Option Nat) (Data.seq #[] (0 : Nat)) #[]) ::
    Prod.mk (α := Nat) (nat_lit 44) (Obj.mk (Value.type "tuple") (none : Option Nat) (Data.seq #[(.str (Str.ofString "self") (237 : Nat)), (.str (Str.ofString "number") (238 : Nat)), (.str (Str.ofString "name") (239 : Nat))] (0 : Nat)) #[]) ::
    Prod.mk (α := Nat) (nat_lit 45) (Obj.mk (Value.type "tuple") (none : Option Nat) (Data.seq #[] (0 : Nat)) #[]) ::
    Prod.mk (α := Nat) (nat_lit 47) (Obj.mk (Value.type "code") (none : Option Nat) (Data.fields #[(.str (Str.ofString "__init__") (234 : Nat)), (.str (Str.ofString "Symbol.__init__") (235 : Nat)), (.str (Str.ofString "/claim/cut.py") (236 : Nat)), (Value.int 10 (0 : Nat)), (Value.int 3 (0 : Nat)), (Value.int 0 (0 : Nat)), (Value.int 0 (0 : Nat)), (Value.int 3 (0 : Nat)), (Value.ref (42 : Nat)), (Value.bool true), (Value.int 181 (0 : Nat)), (Value.ref (43 : Nat)), Value.none, (Value.ref (44 : Nat)), (Value.ref (45 : Nat)), (Value.ref (46 : Nat)), (Value.int 240 (0 : Nat)), (Value.int 10 (0 : Nat)), (.str (Str.ofString "/claim/cut.py") (241 : Nat))]) #[]) ::
    Prod.mk (α := Nat) (nat_lit 48) (Obj.mk (Value.type "function") (none : Option Nat) (Data.func (FuncData.mk (Str.ofString "__init__") (Str.ofString "Symbol.__init__") p3_0 (.stmts b3_0) s3_0 (3 : Nat) ([] : List (Str × Nat)) Value.none Value.none Value.none (.str (Str.ofString "emacs.objects") (220 : Nat)) (none : Option Nat) (Value.ref (47 : Nat)) Value.none (0 : Nat))) #[]) ::
    Prod.mk (α := Nat) (nat_lit 49) (Obj.mk (Value.type "tuple") (none : Option Nat) (Data.seq #[(.str (Str.ofString "name") (243 : Nat)), (.str (Str.ofString "number") (244 : Nat))] (0 : Nat)) #[]) ::
    Prod.mk (α := Nat) (nat_lit 50) (Obj.mk (Value.type "dict") (none : Option Nat) (Data.dict #[⟨PyData.keyHash P (Str.ofString "__module__"), .str (Str.ofString "__module__") (229 : Nat), (.str (Str.ofString "emacs.objects") (220 : Nat))⟩, ⟨PyData.keyHash P (Str.ofString "__firstlineno__"), .str (Str.ofString "__firstlineno__") (233 : Nat), (Value.int 8 (232 : Nat))⟩, ⟨PyData.keyHash P (Str.ofString "__init__"), .str (Str.ofString "__init__") (242 : Nat), (Value.ref (48 : Nat))⟩, ⟨PyData.keyHash P (Str.ofString "__static_attributes__"), .str (Str.ofString "__static_attributes__") (245 : Nat), (Value.ref (49 : Nat))⟩, ⟨PyData.keyHash P (Str.ofString "__dict__"), .str (Str.ofString "__dict__") (247 : Nat), (Value.ref (52 : Nat))⟩, ⟨PyData.keyHash P (Str.ofString "__weakref__"), .str (Str.ofString "__weakref__") (249 : Nat), (Value.ref (53 : Nat))⟩, ⟨PyData.keyHash P (Str.ofString "__doc__"), .str (Str.ofString "__doc__") (250 : Nat), Value.none⟩] (4 : Nat)) #[]) ::
    Prod.mk (α := Nat) (nat_lit 51) (Obj.mk (Value.type "type") (none : Option Nat) (Data.cls (ClassData.mk (Str.ofString "Symbol") [(Value.type "object")] [(Value.ref (51 : Nat)), (Value.type "object")] (50 : Nat) (Str.ofString "Symbol") true [] [] false none false)) #[none, none, (some (.str (Str.ofString "Symbol") (222 : Nat))), (some (.str (Str.ofString "Symbol") (230 : Nat))), (some (Value.builtin "object.__new__")), (some (Value.bool true))]) ::
    Prod.mk (α := Nat) (nat_lit 52) (Obj.mk (Value.type "getset_descriptor") (none : Option Nat) (Data.fields #[(.str (Str.ofString "__dict__") (246 : Nat)), (Value.ref (51 : Nat)), (Value.builtin "function.__dict__"), (Value.builtin "function.__dict__#set")]) #[]) ::
    Prod.mk (α := Nat) (nat_lit 53) (Obj.mk (Value.type "getset_descriptor") (none : Option Nat) (Data.fields #[(.str (Str.ofString "__weakref__") (248 : Nat)), (Value.ref (51 : Nat)), (Value.builtin "ExceptionGroup.__weakref__"), Value.none]) #[]) ::
    Prod.mk (α := Nat) (nat_lit 56) (Obj.mk (Value.type "dict") (none : Option Nat) (Data.dict #[⟨PyData.keyHash P (Str.ofString "number"), .str (Str.ofString "number") (259 : Nat), (Value.int 0 (253 : Nat))⟩, ⟨PyData.keyHash P (Str.ofString "name"), .str (Str.ofString "name") (261 : Nat), (.str (Str.ofString "nil") (254 : Nat))⟩] (2 : Nat)) #[]) ::
    Prod.mk (α := Nat) (nat_lit 57) (Obj.mk (Value.ref (51 : Nat)) (some (56 : Nat) : Option Nat) Data.plain #[]) ::
    Prod.mk (α := Nat) (nat_lit 66) (Obj.mk (Value.type "tuple") (none : Option Nat) (Data.seq #[] (0 : Nat)) #[]) ::
    Prod.mk (α := Nat) (nat_lit 68) (Obj.mk (Value.type "tuple") (none : Option Nat) (Data.seq #[(.str (Str.ofString "self") (278 : Nat)), (.str (Str.ofString "car") (279 : Nat)), (.str (Str.ofString "cdr") (280 : Nat))] (0 : Nat)) #[]) ::
    Prod.mk (α := Nat) (nat_lit 69) (Obj.mk (Value.type "tuple") (none : Option Nat) (Data.seq #[] (0 : Nat)) #[]) ::
    Prod.mk (α := Nat) (nat_lit 71) (Obj.mk (Value.type "code") (none : Option Nat) (Data.fields #[(.str (Str.ofString "__init__") (275 : Nat)), (.str (Str.ofString "Cons.__init__") (276 : Nat)), (.str (Str.ofString "/claim/cut.py") (277 : Nat)), (Value.int 16 (0 : Nat)), (Value.int 3 (0 : Nat)), (Value.int 0 (0 : Nat)), (Value.int 0 (0 : Nat)), (Value.int 3 (0 : Nat)), (Value.ref (66 : Nat)), (Value.bool true), (Value.int 181 (0 : Nat)), (Value.ref (67 : Nat)), Value.none, (Value.ref (68 : Nat)), (Value.ref (69 : Nat)), (Value.ref (70 : Nat)), (Value.int 281 (0 : Nat)), (Value.int 16 (0 : Nat)), (.str (Str.ofString "/claim/cut.py") (282 : Nat))]) #[]) ::
    Prod.mk (α := Nat) (nat_lit 72) (Obj.mk (Value.type "function") (none : Option Nat) (Data.func (FuncData.mk (Str.ofString "__init__") (Str.ofString "Cons.__init__") p5_0 (.stmts b5_0) s5_0 (3 : Nat) ([] : List (Str × Nat)) Value.none Value.none Value.none (.str (Str.ofString "emacs.objects") (220 : Nat)) (none : Option Nat) (Value.ref (71 : Nat)) Value.none (0 : Nat))) #[]) ::
    Prod.mk (α := Nat) (nat_lit 73) (Obj.mk (Value.type "tuple") (none : Option Nat) (Data.seq #[(.str (Str.ofString "car") (284 : Nat)), (.str (Str.ofString "cdr") (285 : Nat))] (0 : Nat)) #[]) ::
    Prod.mk (α := Nat) (nat_lit 74) (Obj.mk (Value.type "dict") (none : Option Nat) (Data.dict #[⟨PyData.keyHash P (Str.ofString "__module__"), .str (Str.ofString "__module__") (270 : Nat), (.str (Str.ofString "emacs.objects") (220 : Nat))⟩, ⟨PyData.keyHash P (Str.ofString "__firstlineno__"), .str (Str.ofString "__firstlineno__") (274 : Nat), (Value.int 14 (273 : Nat))⟩, ⟨PyData.keyHash P (Str.ofString "__init__"), .str (Str.ofString "__init__") (283 : Nat), (Value.ref (72 : Nat))⟩, ⟨PyData.keyHash P (Str.ofString "__static_attributes__"), .str (Str.ofString "__static_attributes__") (286 : Nat), (Value.ref (73 : Nat))⟩, ⟨PyData.keyHash P (Str.ofString "__dict__"), .str (Str.ofString "__dict__") (288 : Nat), (Value.ref (76 : Nat))⟩, ⟨PyData.keyHash P (Str.ofString "__weakref__"), .str (Str.ofString "__weakref__") (290 : Nat), (Value.ref (77 : Nat))⟩, ⟨PyData.keyHash P (Str.ofString "__doc__"), .str (Str.ofString "__doc__") (291 : Nat), Value.none⟩] (4 : Nat)) #[]) ::
    Prod.mk (α := Nat) (nat_lit 75) (Obj.mk (Value.type "type") (none : Option Nat) (Data.cls (ClassData.mk (Str.ofString "Cons") [(Value.type "object")] [(Value.ref (75 : Nat)), (Value.type "object")] (74 : Nat) (Str.ofString "Cons") true [] [] false none false)) #[none, none, (some (.str (Str.ofString "Cons") (263 : Nat))), (some (.str (Str.ofString "Cons") (271 : Nat))), (some (Value.builtin "object.__new__")), (some (Value.bool true))]) ::
    Prod.mk (α := Nat) (nat_lit 76) (Obj.mk (Value.type "getset_descriptor") (none : Option Nat) (Data.fields #[(.str (Str.ofString "__dict__") (287 : Nat)), (Value.ref (75 : Nat)), (Value.builtin "function.__dict__"), (Value.builtin "function.__dict__#set")]) #[]) ::
    Prod.mk (α := Nat) (nat_lit 77) (Obj.mk (Value.type "getset_descriptor") (none : Option Nat) (Data.fields #[(.str (Str.ofString "__weakref__") (289 : Nat)), (Value.ref (75 : Nat)), (Value.builtin "ExceptionGroup.__weakref__"), Value.none]) #[]) ::
    Prod.mk (α := Nat) (nat_lit 80) (Obj.mk (Value.type "tuple") (none : Option Nat) (Data.seq #[(Value.ref (57 : Nat))] (0 : Nat)) #[]) ::
    Prod.mk (α := Nat) (nat_lit 81) (Obj.mk (Value.type "tuple") (none : Option Nat) (Data.seq #[] (0 : Nat)) #[]) ::
    Prod.mk (α := Nat) (nat_lit 83) (Obj.mk (Value.type "tuple") (none : Option Nat) (Data.seq #[(.str (Str.ofString "things") (297 : Nat)), (.str (Str.ofString "tail") (298 : Nat)), (.str (Str.ofString "found") (299 : Nat)), (.str (Str.ofString "place") (300 : Nat))] (0 : Nat)) #[]) ::
    Prod.mk (α := Nat) (nat_lit 84) (Obj.mk (Value.type "tuple") (none : Option Nat) (Data.seq #[] (0 : Nat)) #[]) ::
    Prod.mk (α := Nat) (nat_lit 86) (Obj.mk (Value.type "code") (none : Option Nat) (Data.fields #[(.str (Str.ofString "list_of") (294 : Nat)), (.str (Str.ofString "list_of") (295 : Nat)), (.str (Str.ofString "/claim/cut.py") (296 : Nat)), (Value.int 19 (0 : Nat)), (Value.int 2 (0 : Nat)), (Value.int 0 (0 : Nat)), (Value.int 0 (0 : Nat)), (Value.int 3 (0 : Nat)), (Value.ref (81 : Nat)), (Value.bool true), (Value.int 181 (0 : Nat)), (Value.ref (82 : Nat)), Value.none, (Value.ref (83 : Nat)), (Value.ref (84 : Nat)), (Value.ref (85 : Nat)), (Value.int 301 (0 : Nat)), (Value.int 19 (0 : Nat)), (.str (Str.ofString "/claim/cut.py") (302 : Nat))]) #[]) ::
    Prod.mk (α := Nat) (nat_lit 87) (Obj.mk (Value.type "function") (none : Option Nat) (Data.func (FuncData.mk (Str.ofString "list_of") (Str.ofString "list_of") p6 (.stmts b6) s6 (3 : Nat) ([] : List (Str × Nat)) (Value.ref (80 : Nat)) Value.none Value.none (.str (Str.ofString "emacs.objects") (220 : Nat)) (none : Option Nat) (Value.ref (86 : Nat)) Value.none (0 : Nat))) #[]) ::
    Prod.mk (α := Nat) (nat_lit 88) (Obj.mk (Value.type "tuple") (none : Option Nat) (Data.seq #[] (0 : Nat)) #[]) ::
    Prod.mk (α := Nat) (nat_lit 90) (Obj.mk (Value.type "tuple") (none : Option Nat) (Data.seq #[(.str (Str.ofString "datum") (307 : Nat)), (.str (Str.ofString "things") (308 : Nat)), (.str (Str.ofString "at") (309 : Nat)), (.str (Str.ofString "slow") (310 : Nat))] (0 : Nat)) #[]) ::
    Prod.mk (α := Nat) (nat_lit 91) (Obj.mk (Value.type "tuple") (none : Option Nat) (Data.seq #[] (0 : Nat)) #[]) ::
    Prod.mk (α := Nat) (nat_lit 93) (Obj.mk (Value.type "code") (none : Option Nat) (Data.fields #[(.str (Str.ofString "split_list") (304 : Nat)), (.str (Str.ofString "split_list") (305 : Nat)), (.str (Str.ofString "/claim/cut.py") (306 : Nat)), (Value.int 24 (0 : Nat)), (Value.int 1 (0 : Nat)), (Value.int 0 (0 : Nat)), (Value.int 0 (0 : Nat)), (Value.int 3 (0 : Nat)), (Value.ref (88 : Nat)), (Value.bool true), (Value.int 181 (0 : Nat)), (Value.ref (89 : Nat)), Value.none, (Value.ref (90 : Nat)), (Value.ref (91 : Nat)), (Value.ref (92 : Nat)), (Value.int 311 (0 : Nat)), (Value.int 24 (0 : Nat)), (.str (Str.ofString "/claim/cut.py") (312 : Nat))]) #[]) ::
    Prod.mk (α := Nat) (nat_lit 94) (Obj.mk (Value.type "function") (none : Option Nat) (Data.func (FuncData.mk (Str.ofString "split_list") (Str.ofString "split_list") p7 (.stmts b7) s7 (3 : Nat) ([] : List (Str × Nat)) Value.none Value.none Value.none (.str (Str.ofString "emacs.objects") (220 : Nat)) (none : Option Nat) (Value.ref (93 : Nat)) Value.none (0 : Nat))) #[]) ::
    Prod.mk (α := Nat) (nat_lit 95) (Obj.mk (Value.type "tuple") (none : Option Nat) (Data.seq #[] (0 : Nat)) #[]) ::
    Prod.mk (α := Nat) (nat_lit 97) (Obj.mk (Value.type "tuple") (none : Option Nat) (Data.seq #[(.str (Str.ofString "datum") (317 : Nat)), (.str (Str.ofString "things") (318 : Nat)), (.str (Str.ofString "tail") (319 : Nat))] (0 : Nat)) #[]) ::
    Prod.mk (α := Nat) (nat_lit 98) (Obj.mk (Value.type "tuple") (none : Option Nat) (Data.seq #[] (0 : Nat)) #[]) ::
    Prod.mk (α := Nat) (nat_lit 100) (Obj.mk (Value.type "code") (none : Option Nat) (Data.fields #[(.str (Str.ofString "items_of") (314 : Nat)), (.str (Str.ofString "items_of") (315 : Nat)), (.str (Str.ofString "/claim/cut.py") (316 : Nat)), (Value.int 36 (0 : Nat)), (Value.int 1 (0 : Nat)), (Value.int 0 (0 : Nat)), (Value.int 0 (0 : Nat)), (Value.int 3 (0 : Nat)), (Value.ref (95 : Nat)), (Value.bool true), (Value.int 181 (0 : Nat)), (Value.ref (96 : Nat)), Value.none, (Value.ref (97 : Nat)), (Value.ref (98 : Nat)), (Value.ref (99 : Nat)), (Value.int 320 (0 : Nat)), (Value.int 36 (0 : Nat)), (.str (Str.ofString "/claim/cut.py") (321 : Nat))]) #[]) ::
    Prod.mk (α := Nat) (nat_lit 101) (Obj.mk (Value.type "function") (none : Option Nat) (Data.func (FuncData.mk (Str.ofString "items_of") (Str.ofString "items_of") p8 (.stmts b8) s8 (3 : Nat) ([] : List (Str × Nat)) Value.none Value.none Value.none (.str (Str.ofString "emacs.objects") (220 : Nat)) (none : Option Nat) (Value.ref (100 : Nat)) Value.none (0 : Nat))) #[]) ::
    Prod.mk (α := Nat) (nat_lit 109) (Obj.mk (Value.type "tuple") (none : Option Nat) (Data.seq #[] (0 : Nat)) #[]) ::
    Prod.mk (α := Nat) (nat_lit 111) (Obj.mk (Value.type "tuple") (none : Option Nat) (Data.seq #[(.str (Str.ofString "self") (344 : Nat)), (.str (Str.ofString "needed") (345 : Nat)), (.str (Str.ofString "optional") (346 : Nat)), (.str (Str.ofString "rest") (347 : Nat))] (0 : Nat)) #[]) ::
    Prod.mk (α := Nat) (nat_lit 112) (Obj.mk (Value.type "tuple") (none : Option Nat) (Data.seq #[] (0 : Nat)) #[]) ::
    Prod.mk (α := Nat) (nat_lit 114) (Obj.mk (Value.type "code") (none : Option Nat) (Data.fields #[(.str (Str.ofString "__init__") (341 : Nat)), (.str (Str.ofString "LambdaList.__init__") (342 : Nat)), (.str (Str.ofString "/claim/cut.py") (343 : Nat)), (Value.int 44 (0 : Nat)), (Value.int 4 (0 : Nat)), (Value.int 0 (0 : Nat)), (Value.int 0 (0 : Nat)), (Value.int 3 (0 : Nat)), (Value.ref (109 : Nat)), (Value.bool true), (Value.int 181 (0 : Nat)), (Value.ref (110 : Nat)), Value.none, (Value.ref (111 : Nat)), (Value.ref (112 : Nat)), (Value.ref (113 : Nat)), (Value.int 348 (0 : Nat)), (Value.int 44 (0 : Nat)), (.str (Str.ofString "/claim/cut.py") (349 : Nat))]) #[]) ::
    Prod.mk (α := Nat) (nat_lit 115) (Obj.mk (Value.type "function") (none : Option Nat) (Data.func (FuncData.mk (Str.ofString "__init__") (Str.ofString "LambdaList.__init__") p12_0 (.stmts b12_0) s12_0 (3 : Nat) ([] : List (Str × Nat)) Value.none Value.none Value.none (.str (Str.ofString "emacs.lambdalists") (323 : Nat)) (none : Option Nat) (Value.ref (114 : Nat)) Value.none (0 : Nat))) #[]) ::
    Prod.mk (α := Nat) (nat_lit 116) (Obj.mk (Value.type "tuple") (none : Option Nat) (Data.seq #[] (0 : Nat)) #[]) ::
    Prod.mk (α := Nat) (nat_lit 118) (Obj.mk (Value.type "tuple") (none : Option Nat) (Data.seq #[(.str (Str.ofString "self") (354 : Nat)), (.str (Str.ofString "many") (355 : Nat)), (.str (Str.ofString "most") (356 : Nat))] (0 : Nat)) #[]) ::
    Prod.mk (α := Nat) (nat_lit 119) (Obj.mk (Value.type "tuple") (none : Option Nat) (Data.seq #[] (0 : Nat)) #[]) ::
    Prod.mk (α := Nat) (nat_lit 121) (Obj.mk (Value.type "code") (none : Option Nat) (Data.fields #[(.str (Str.ofString "takes") (351 : Nat)), (.str (Str.ofString "LambdaList.takes") (352 : Nat)), (.str (Str.ofString "/claim/cut.py") (353 : Nat)), (Value.int 49 (0 : Nat)), (Value.int 2 (0 : Nat)), (Value.int 0 (0 : Nat)), (Value.int 0 (0 : Nat)), (Value.int 3 (0 : Nat)), (Value.ref (116 : Nat)), (Value.bool true), (Value.int 181 (0 : Nat)), (Value.ref (117 : Nat)), Value.none, (Value.ref (118 : Nat)), (Value.ref (119 : Nat)), (Value.ref (120 : Nat)), (Value.int 357 (0 : Nat)), (Value.int 49 (0 : Nat)), (.str (Str.ofString "/claim/cut.py") (358 : Nat))]) #[]) ::
    Prod.mk (α := Nat) (nat_lit 122) (Obj.mk (Value.type "function") (none : Option Nat) (Data.func (FuncData.mk (Str.ofString "takes") (Str.ofString "LambdaList.takes") p12_1 (.stmts b12_1) s12_1 (3 : Nat) ([] : List (Str × Nat)) Value.none Value.none Value.none (.str (Str.ofString "emacs.lambdalists") (323 : Nat)) (none : Option Nat) (Value.ref (121 : Nat)) Value.none (0 : Nat))) #[]) ::
    Prod.mk (α := Nat) (nat_lit 123) (Obj.mk (Value.type "tuple") (none : Option Nat) (Data.seq #[] (0 : Nat)) #[]) ::
    Prod.mk (α := Nat) (nat_lit 125) (Obj.mk (Value.type "tuple") (none : Option Nat) (Data.seq #[(.str (Str.ofString "self") (363 : Nat)), (.str (Str.ofString "most") (364 : Nat))] (0 : Nat)) #[]) ::
    Prod.mk (α := Nat) (nat_lit 126) (Obj.mk (Value.type "tuple") (none : Option Nat) (Data.seq #[] (0 : Nat)) #[]) ::
    Prod.mk (α := Nat) (nat_lit 128) (Obj.mk (Value.type "code") (none : Option Nat) (Data.fields #[(.str (Str.ofString "bounds") (360 : Nat)), (.str (Str.ofString "LambdaList.bounds") (361 : Nat)), (.str (Str.ofString "/claim/cut.py") (362 : Nat)), (Value.int 53 (0 : Nat)), (Value.int 1 (0 : Nat)), (Value.int 0 (0 : Nat)), (Value.int 0 (0 : Nat)), (Value.int 3 (0 : Nat)), (Value.ref (123 : Nat)), (Value.bool true), (Value.int 181 (0 : Nat)), (Value.ref (124 : Nat)), Value.none, (Value.ref (125 : Nat)), (Value.ref (126 : Nat)), (Value.ref (127 : Nat)), (Value.int 365 (0 : Nat)), (Value.int 53 (0 : Nat)), (.str (Str.ofString "/claim/cut.py") (366 : Nat))]) #[]) ::
    Prod.mk (α := Nat) (nat_lit 129) (Obj.mk (Value.type "function") (none : Option Nat) (Data.func (FuncData.mk (Str.ofString "bounds") (Str.ofString "LambdaList.bounds") p12_2 (.stmts b12_2) s12_2 (3 : Nat) ([] : List (Str × Nat)) Value.none Value.none Value.none (.str (Str.ofString "emacs.lambdalists") (323 : Nat)) (none : Option Nat) (Value.ref (128 : Nat)) Value.none (0 : Nat))) #[]) ::
    Prod.mk (α := Nat) (nat_lit 130) (Obj.mk (Value.type "tuple") (none : Option Nat) (Data.seq #[(.str (Str.ofString "needed") (368 : Nat)), (.str (Str.ofString "optional") (369 : Nat)), (.str (Str.ofString "rest") (370 : Nat))] (0 : Nat)) #[]) ::
    Prod.mk (α := Nat) (nat_lit 131) (Obj.mk (Value.type "dict") (none : Option Nat) (Data.dict #[⟨PyData.keyHash P (Str.ofString "__module__"), .str (Str.ofString "__module__") (336 : Nat), (.str (Str.ofString "emacs.lambdalists") (323 : Nat))⟩, ⟨PyData.keyHash P (Str.ofString "__firstlineno__"), .str (Str.ofString "__firstlineno__") (340 : Nat), (Value.int 42 (339 : Nat))⟩, ⟨PyData.keyHash P (Str.ofString "__init__"), .str (Str.ofString "__init__") (350 : Nat), (Value.ref (115 : Nat))⟩, ⟨PyData.keyHash P (Str.ofString "takes"), .str (Str.ofString "takes") (359 : Nat), (Value.ref (122 : Nat))⟩, ⟨PyData.keyHash P (Str.ofString "bounds"), .str (Str.ofString "bounds") (367 : Nat), (Value.ref (129 : Nat))⟩, ⟨PyData.keyHash P (Str.ofString "__static_attributes__"), .str (Str.ofString "__static_attributes__") (371 : Nat), (Value.ref (130 : Nat))⟩, ⟨PyData.keyHash P (Str.ofString "__dict__"), .str (Str.ofString "__dict__") (373 : Nat), (Value.ref (133 : Nat))⟩, ⟨PyData.keyHash P (Str.ofString "__weakref__"), .str (Str.ofString "__weakref__") (375 : Nat), (Value.ref (134 : Nat))⟩, ⟨PyData.keyHash P (Str.ofString "__doc__"), .str (Str.ofString "__doc__") (376 : Nat), Value.none⟩] (4 : Nat)) #[]) ::
    Prod.mk (α := Nat) (nat_lit 132) (Obj.mk (Value.type "type") (none : Option Nat) (Data.cls (ClassData.mk (Str.ofString "LambdaList") [(Value.type "object")] [(Value.ref (132 : Nat)), (Value.type "object")] (131 : Nat) (Str.ofString "LambdaList") true [] [] false none false)) #[none, none, (some (.str (Str.ofString "LambdaList") (329 : Nat))), (some (.str (Str.ofString "LambdaList") (337 : Nat))), (some (Value.builtin "object.__new__")), (some (Value.bool true))]) ::
    Prod.mk (α := Nat) (nat_lit 133) (Obj.mk (Value.type "getset_descriptor") (none : Option Nat) (Data.fields #[(.str (Str.ofString "__dict__") (372 : Nat)), (Value.ref (132 : Nat)), (Value.builtin "function.__dict__"), (Value.builtin "function.__dict__#set")]) #[]) ::
    Prod.mk (α := Nat) (nat_lit 134) (Obj.mk (Value.type "getset_descriptor") (none : Option Nat) (Data.fields #[(.str (Str.ofString "__weakref__") (374 : Nat)), (Value.ref (132 : Nat)), (Value.builtin "ExceptionGroup.__weakref__"), Value.none]) #[]) ::
    Prod.mk (α := Nat) (nat_lit 137) (Obj.mk (Value.type "tuple") (none : Option Nat) (Data.seq #[] (0 : Nat)) #[]) ::
    Prod.mk (α := Nat) (nat_lit 139) (Obj.mk (Value.type "tuple") (none : Option Nat) (Data.seq #[(.str (Str.ofString "function") (382 : Nat))] (0 : Nat)) #[]) ::
    Prod.mk (α := Nat) (nat_lit 140) (Obj.mk (Value.type "tuple") (none : Option Nat) (Data.seq #[] (0 : Nat)) #[]) ::
    Prod.mk (α := Nat) (nat_lit 142) (Obj.mk (Value.type "code") (none : Option Nat) (Data.fields #[(.str (Str.ofString "bad_function") (379 : Nat)), (.str (Str.ofString "bad_function") (380 : Nat)), (.str (Str.ofString "/claim/cut.py") (381 : Nat)), (Value.int 56 (0 : Nat)), (Value.int 1 (0 : Nat)), (Value.int 0 (0 : Nat)), (Value.int 0 (0 : Nat)), (Value.int 3 (0 : Nat)), (Value.ref (137 : Nat)), (Value.bool true), (Value.int 181 (0 : Nat)), (Value.ref (138 : Nat)), Value.none, (Value.ref (139 : Nat)), (Value.ref (140 : Nat)), (Value.ref (141 : Nat)), (Value.int 383 (0 : Nat)), (Value.int 56 (0 : Nat)), (.str (Str.ofString "/claim/cut.py") (384 : Nat))]) #[]) ::
    Prod.mk (α := Nat) (nat_lit 143) (Obj.mk (Value.type "function") (none : Option Nat) (Data.func (FuncData.mk (Str.ofString "bad_function") (Str.ofString "bad_function") p13 (.stmts b13) s13 (3 : Nat) ([] : List (Str × Nat)) Value.none Value.none Value.none (.str (Str.ofString "emacs.lambdalists") (323 : Nat)) (none : Option Nat) (Value.ref (142 : Nat)) Value.none (0 : Nat))) #[]) ::
    Prod.mk (α := Nat) (nat_lit 144) (Obj.mk (Value.type "tuple") (none : Option Nat) (Data.seq #[] (0 : Nat)) #[]) ::
    Prod.mk (α := Nat) (nat_lit 147) (Obj.mk (Value.type "code") (none : Option Nat) (Data.fields #[(.str (Str.ofString "read_lambda_list") (386 : Nat)), (.str (Str.ofString "read_lambda_list") (387 : Nat)), (.str (Str.ofString "/claim/cut.py") (388 : Nat)), (Value.int 58 (0 : Nat)), (Value.int 2 (0 : Nat)), (Value.int 0 (0 : Nat)), (Value.int 0 (0 : Nat)), (Value.int 3 (0 : Nat)), (Value.ref (144 : Nat)), (Value.bool true), (Value.int 181 (0 : Nat)), (Value.ref (145 : Nat)), Value.none, Value.none, Value.none, (Value.ref (146 : Nat)), (Value.int 389 (0 : Nat)), (Value.int 58 (0 : Nat)), (.str (Str.ofString "/claim/cut.py") (390 : Nat))]) #[]) ::
    Prod.mk (α := Nat) (nat_lit 148) (Obj.mk (Value.type "function") (none : Option Nat) (Data.func (FuncData.mk (Str.ofString "read_lambda_list") (Str.ofString "read_lambda_list") p14 (.stmts b14) s14 (3 : Nat) ([] : List (Str × Nat)) Value.none Value.none Value.none (.str (Str.ofString "emacs.lambdalists") (323 : Nat)) (none : Option Nat) (Value.ref (147 : Nat)) Value.none (0 : Nat))) #[]) ::
    Prod.mk (α := Nat) (nat_lit 149) (Obj.mk (Value.type "tuple") (none : Option Nat) (Data.seq #[] (0 : Nat)) #[]) ::
    Prod.mk (α := Nat) (nat_lit 151) (Obj.mk (Value.type "tuple") (none : Option Nat) (Data.seq #[(.str (Str.ofString "told") (395 : Nat)), (.str (Str.ofString "arguments") (396 : Nat)), (.str (Str.ofString "pairs") (397 : Nat)), (.str (Str.ofString "place") (398 : Nat)), (.str (Str.ofString "symbol") (399 : Nat))] (0 : Nat)) #[]) ::
    Prod.mk (α := Nat) (nat_lit 152) (Obj.mk (Value.type "tuple") (none : Option Nat) (Data.seq #[] (0 : Nat)) #[]) ::
    Prod.mk (α := Nat) (nat_lit 154) (Obj.mk (Value.type "code") (none : Option Nat) (Data.fields #[(.str (Str.ofString "values_for") (392 : Nat)), (.str (Str.ofString "values_for") (393 : Nat)), (.str (Str.ofString "/claim/cut.py") (394 : Nat)), (Value.int 79 (0 : Nat)), (Value.int 2 (0 : Nat)), (Value.int 0 (0 : Nat)), (Value.int 0 (0 : Nat)), (Value.int 3 (0 : Nat)), (Value.ref (149 : Nat)), (Value.bool true), (Value.int 181 (0 : Nat)), (Value.ref (150 : Nat)), Value.none, (Value.ref (151 : Nat)), (Value.ref (152 : Nat)), (Value.ref (153 : Nat)), (Value.int 400 (0 : Nat)), (Value.int 79 (0 : Nat)), (.str (Str.ofString "/claim/cut.py") (401 : Nat))]) #[]) ::
    Prod.mk (α := Nat) (nat_lit 155) (Obj.mk (Value.type "function") (none : Option Nat) (Data.func (FuncData.mk (Str.ofString "values_for") (Str.ofString "values_for") p15 (.stmts b15) s15 (3 : Nat) ([] : List (Str × Nat)) Value.none Value.none Value.none (.str (Str.ofString "emacs.lambdalists") (323 : Nat)) (none : Option Nat) (Value.ref (154 : Nat)) Value.none (0 : Nat))) #[]) ::
    Prod.mk (α := Nat) (nat_lit 156) (Obj.mk (Value.type "tuple") (none : Option Nat) (Data.seq #[] (0 : Nat)) #[]) ::
    Prod.mk (α := Nat) (nat_lit 159) (Obj.mk (Value.type "code") (none : Option Nat) (Data.fields #[(.str (Str.ofString "_law_deck") (405 : Nat)), (.str (Str.ofString "_law_deck") (406 : Nat)), (.str (Str.ofString "/claim/cut.py") (407 : Nat)), (Value.int 87 (0 : Nat)), (Value.int 1 (0 : Nat)), (Value.int 0 (0 : Nat)), (Value.int 0 (0 : Nat)), (Value.int 3 (0 : Nat)), (Value.ref (156 : Nat)), (Value.bool true), (Value.int 181 (0 : Nat)), (Value.ref (157 : Nat)), Value.none, Value.none, Value.none, (Value.ref (158 : Nat)), (Value.int 408 (0 : Nat)), (Value.int 87 (0 : Nat)), (.str (Str.ofString "/claim/cut.py") (409 : Nat))]) #[]) ::
    Prod.mk (α := Nat) (nat_lit 160) (Obj.mk (Value.type "function") (none : Option Nat) (Data.func (FuncData.mk (Str.ofString "_law_deck") (Str.ofString "_law_deck") p17 (.stmts b17) s17 (3 : Nat) ([] : List (Str × Nat)) Value.none Value.none Value.none (.str (Str.ofString "law_np0012_01") (403 : Nat)) (none : Option Nat) (Value.ref (159 : Nat)) Value.none (0 : Nat))) #[]) ::
    Prod.mk (α := Nat) (nat_lit 161) (Obj.mk (Value.type "tuple") (none : Option Nat) (Data.seq #[] (0 : Nat)) #[]) ::
    Prod.mk (α := Nat) (nat_lit 163) (Obj.mk (Value.type "tuple") (none : Option Nat) (Data.seq #[(.str (Str.ofString "deck") (414 : Nat)), (.str (Str.ofString "many") (415 : Nat)), (.str (Str.ofString "cells_own") (416 : Nat)), (.str (Str.ofString "seed") (417 : Nat)), (.str (Str.ofString "found") (418 : Nat))] (0 : Nat)) #[]) ::
    Prod.mk (α := Nat) (nat_lit 164) (Obj.mk (Value.type "tuple") (none : Option Nat) (Data.seq #[] (0 : Nat)) #[]) ::
    Prod.mk (α := Nat) (nat_lit 166) (Obj.mk (Value.type "code") (none : Option Nat) (Data.fields #[(.str (Str.ofString "_law_draw") (411 : Nat)), (.str (Str.ofString "_law_draw") (412 : Nat)), (.str (Str.ofString "/claim/cut.py") (413 : Nat)), (Value.int 90 (0 : Nat)), (Value.int 2 (0 : Nat)), (Value.int 0 (0 : Nat)), (Value.int 0 (0 : Nat)), (Value.int 3 (0 : Nat)), (Value.ref (161 : Nat)), (Value.bool true), (Value.int 181 (0 : Nat)), (Value.ref (162 : Nat)), Value.none, (Value.ref (163 : Nat)), (Value.ref (164 : Nat)), (Value.ref (165 : Nat)), (Value.int 419 (0 : Nat)), (Value.int 90 (0 : Nat)), (.str (Str.ofString "/claim/cut.py") (420 : Nat))]) #[]) ::
    Prod.mk (α := Nat) (nat_lit 167) (Obj.mk (Value.type "function") (none : Option Nat) (Data.func (FuncData.mk (Str.ofString "_law_draw") (Str.ofString "_law_draw") p18 (.stmts b18) s18 (3 : Nat) ([] : List (Str × Nat)) Value.none Value.none Value.none (.str (Str.ofString "law_np0012_01") (403 : Nat)) (none : Option Nat) (Value.ref (166 : Nat)) Value.none (0 : Nat))) #[]) ::
    Prod.mk (α := Nat) (nat_lit 168) (Obj.mk (Value.type "tuple") (none : Option Nat) (Data.seq #[] (0 : Nat)) #[]) ::
    Prod.mk (α := Nat) (nat_lit 171) (Obj.mk (Value.type "code") (none : Option Nat) (Data.fields #[(.str (Str.ofString "_law_words") (422 : Nat)), (.str (Str.ofString "_law_words") (423 : Nat)), (.str (Str.ofString "/claim/cut.py") (424 : Nat)), (Value.int 100 (0 : Nat)), (Value.int 1 (0 : Nat)), (Value.int 0 (0 : Nat)), (Value.int 0 (0 : Nat)), (Value.int 3 (0 : Nat)), (Value.ref (168 : Nat)), (Value.bool true), (Value.int 181 (0 : Nat)), (Value.ref (169 : Nat)), Value.none, Value.none, Value.none, (Value.ref (170 : Nat)), (Value.int 425 (0 : Nat)), (Value.int 100 (0 : Nat)), (.str (Str.ofString "/claim/cut.py") (426 : Nat))]) #[]) ::
    Prod.mk (α := Nat) (nat_lit 172) (Obj.mk (Value.type "function") (none : Option Nat) (Data.func (FuncData.mk (Str.ofString "_law_words") (Str.ofString "_law_words") p19 (.stmts b19) s19 (3 : Nat) ([] : List (Str × Nat)) Value.none Value.none Value.none (.str (Str.ofString "law_np0012_01") (403 : Nat)) (none : Option Nat) (Value.ref (171 : Nat)) Value.none (0 : Nat))) #[]) ::
    Prod.mk (α := Nat) (nat_lit 173) (Obj.mk (Value.type "tuple") (none : Option Nat) (Data.seq #[] (0 : Nat)) #[]) ::
    Prod.mk (α := Nat) (nat_lit 175) (Obj.mk (Value.type "tuple") (none : Option Nat) (Data.seq #[(.str (Str.ofString "words_own") (431 : Nat)), (.str (Str.ofString "rest") (432 : Nat)), (.str (Str.ofString "at") (433 : Nat))] (0 : Nat)) #[]) ::
    Prod.mk (α := Nat) (nat_lit 176) (Obj.mk (Value.type "tuple") (none : Option Nat) (Data.seq #[] (0 : Nat)) #[]) ::
    Prod.mk (α := Nat) (nat_lit 178) (Obj.mk (Value.type "code") (none : Option Nat) (Data.fields #[(.str (Str.ofString "_law_read") (428 : Nat)), (.str (Str.ofString "_law_read") (429 : Nat)), (.str (Str.ofString "/claim/cut.py") (430 : Nat)), (Value.int 109 (0 : Nat)), (Value.int 1 (0 : Nat)), (Value.int 0 (0 : Nat)), (Value.int 0 (0 : Nat)), (Value.int 3 (0 : Nat)), (Value.ref (173 : Nat)), (Value.bool true), (Value.int 181 (0 : Nat)), (Value.ref (174 : Nat)), Value.none, (Value.ref (175 : Nat)), (Value.ref (176 : Nat)), (Value.ref (177 : Nat)), (Value.int 434 (0 : Nat)), (Value.int 109 (0 : Nat)), (.str (Str.ofString "/claim/cut.py") (435 : Nat))]) #[]) ::
    Prod.mk (α := Nat) (nat_lit 179) (Obj.mk (Value.type "function") (none : Option Nat) (Data.func (FuncData.mk (Str.ofString "_law_read") (Str.ofString "_law_read") p20 (.stmts b20) s20 (3 : Nat) ([] : List (Str × Nat)) Value.none Value.none Value.none (.str (Str.ofString "law_np0012_01") (403 : Nat)) (none : Option Nat) (Value.ref (178 : Nat)) Value.none (0 : Nat))) #[]) ::
    Prod.mk (α := Nat) (nat_lit 180) (Obj.mk (Value.type "tuple") (none : Option Nat) (Data.seq #[] (0 : Nat)) #[]) ::
    Prod.mk (α := Nat) (nat_lit 183) (Obj.mk (Value.type "code") (none : Option Nat) (Data.fields #[(.str (Str.ofString "law") (437 : Nat)), (.str (Str.ofString "law") (438 : Nat)), (.str (Str.ofString "/claim/cut.py") (439 : Nat)), (Value.int 121 (0 : Nat)), (Value.int 1 (0 : Nat)), (Value.int 0 (0 : Nat)), (Value.int 0 (0 : Nat)), (Value.int 3 (0 : Nat)), (Value.ref (180 : Nat)), (Value.bool true), (Value.int 181 (0 : Nat)), (Value.ref (181 : Nat)), Value.none, Value.none, Value.none, (Value.ref (182 : Nat)), (Value.int 440 (0 : Nat)), (Value.int 121 (0 : Nat)), (.str (Str.ofString "/claim/cut.py") (441 : Nat))]) #[]) ::
    Prod.mk (α := Nat) (nat_lit 184) (Obj.mk (Value.type "function") (none : Option Nat) (Data.func (FuncData.mk (Str.ofString "law") (Str.ofString "law") p21 (.stmts b21) s21 (3 : Nat) ([] : List (Str × Nat)) Value.none Value.none Value.none (.str (Str.ofString "law_np0012_01") (403 : Nat)) (none : Option Nat) (Value.ref (183 : Nat)) Value.none (0 : Nat))) #[]) :: []) : List (Nat × Obj))
noncomputable def pick (l : List Stmt) : List Nat → List Stmt
  | [] => []
  | n :: r => nth l n :: pick l r
abbrev rowW : RowW := PySem.Challenge.rw_np0012_01.row.toRowW
set_option maxHeartbeats 0 in
noncomputable def hd.view_39 : Program := by
  refine (?f : (b : List Stmt) → pick tx [1, 3, 4, 5, 7, 8, 10, 11, 12, 13, 14, 15, 17, 18, 19, 20, 21] = b → Program) ?b ?h
  case h => dsimp only [pick, nth, tx, PySem.Challenge.pw_np0012_01]; exact rfl
  case f => exact fun b _ => { PySem.Challenge.rw_np0012_01.row.toRowW.prog with main := { PySem.Challenge.rw_np0012_01.row.toRowW.prog.main with body := b } }
theorem as_of (P : Params) : [nat_lit 2, nat_lit 3, nat_lit 15, nat_lit 22, nat_lit 24, nat_lit 25, nat_lit 27, nat_lit 28, nat_lit 29, nat_lit 30, nat_lit 31, nat_lit 32, nat_lit 42, nat_lit 44, nat_lit 45, nat_lit 47, nat_lit 48, nat_lit 49, nat_lit 50, nat_lit 51, nat_lit 52, nat_lit 53, nat_lit 56, nat_lit 57, nat_lit 66, nat_lit 68, nat_lit 69, nat_lit 71, nat_lit 72, nat_lit 73, nat_lit 74, nat_lit 75, nat_lit 76, nat_lit 77, nat_lit 80, nat_lit 81, nat_lit 83, nat_lit 84, nat_lit 86, nat_lit 87, nat_lit 88, nat_lit 90, nat_lit 91, nat_lit 93, nat_lit 94, nat_lit 95, nat_lit 97, nat_lit 98, nat_lit 100, nat_lit 101, nat_lit 109, nat_lit 111, nat_lit 112, nat_lit 114, nat_lit 115, nat_lit 116, nat_lit 118, nat_lit 119, nat_lit 121, nat_lit 122, nat_lit 123, nat_lit 125, nat_lit 126, nat_lit 128, nat_lit 129, nat_lit 130, nat_lit 131, nat_lit 132, nat_lit 133, nat_lit 134, nat_lit 137, nat_lit 139, nat_lit 140, nat_lit 142, nat_lit 143, nat_lit 144, nat_lit 147, nat_lit 148, nat_lit 149, nat_lit 151, nat_lit 152, nat_lit 154, nat_lit 155, nat_lit 156, nat_lit 159, nat_lit 160, nat_lit 161, nat_lit 163, nat_lit 164, nat_lit 166, nat_lit 167, nat_lit 168, nat_lit 171, nat_lit 172, nat_lit 173, nat_lit 175, nat_lit 176, nat_lit 178, nat_lit 179, nat_lit 180, nat_lit 183, nat_lit 184] = (hd.heap_39 P).map (·.1) := by kernel_rfl
noncomputable abbrev hook : Hook := kHook hd.heap_39 [nat_lit 2, nat_lit 3, nat_lit 15, nat_lit 22, nat_lit 24, nat_lit 25, nat_lit 27, nat_lit 28, nat_lit 29, nat_lit 30, nat_lit 31, nat_lit 32, nat_lit 42, nat_lit 44, nat_lit 45, nat_lit 47, nat_lit 48, nat_lit 49, nat_lit 50, nat_lit 51, nat_lit 52, nat_lit 53, nat_lit 56, nat_lit 57, nat_lit 66, nat_lit 68, nat_lit 69, nat_lit 71, nat_lit 72, nat_lit 73, nat_lit 74, nat_lit 75, nat_lit 76, nat_lit 77, nat_lit 80, nat_lit 81, nat_lit 83, nat_lit 84, nat_lit 86, nat_lit 87, nat_lit 88, nat_lit 90, nat_lit 91, nat_lit 93, nat_lit 94, nat_lit 95, nat_lit 97, nat_lit 98, nat_lit 100, nat_lit 101, nat_lit 109, nat_lit 111, nat_lit 112, nat_lit 114, nat_lit 115, nat_lit 116, nat_lit 118, nat_lit 119, nat_lit 121, nat_lit 122, nat_lit 123, nat_lit 125, nat_lit 126, nat_lit 128, nat_lit 129, nat_lit 130, nat_lit 131, nat_lit 132, nat_lit 133, nat_lit 134, nat_lit 137, nat_lit 139, nat_lit 140, nat_lit 142, nat_lit 143, nat_lit 144, nat_lit 147, nat_lit 148, nat_lit 149, nat_lit 151, nat_lit 152, nat_lit 154, nat_lit 155, nat_lit 156, nat_lit 159, nat_lit 160, nat_lit 161, nat_lit 163, nat_lit 164, nat_lit 166, nat_lit 167, nat_lit 168, nat_lit 171, nat_lit 172, nat_lit 173, nat_lit 175, nat_lit 176, nat_lit 178, nat_lit 179, nat_lit 180, nat_lit 183, nat_lit 184] as_of
noncomputable def topRunT (ok : Nat → Option Value → Thread → Bool) (st : (Code → Sem Fin) → Program → World → SharedT → Thread → Option (SharedT × Thread)) (den : Code → Sem Fin) (p : Program) (w : World) (n₀ : Nat) (ann : Option Value) : Nat → SharedT → Thread → Option SharedT
  | 0, _, _ => none
  | n + 1, s, t => match through t with
    | true => some s
    | false => match ok n₀ ann t with
      | false => none
      | true => match st den p w s t with
        | some (s', t') => topRunT ok st den p w n₀ ann n s' t'
        | none => none
theorem topRunT_of {tb : String → Option Builtin} {p : Program} {w : World} {n₀ : Nat} {ann : Option Value} : ∀ {n : Nat} {s s' : SharedT} {t : Thread}, topRunT stepOk stepT (denote tb) p w n₀ ann n s t = some s' → topRun tb p w n₀ ann n s.abs t = some s'.abs
  | 0, _, _, _, h => by cases h
  | n + 1, s, s', t, h => by
    unfold topRunT at h
    unfold topRun
    cases he : through t with
    | true => rw [he] at h; cases h; rfl
    | false =>
      rw [he] at h
      cases hk : stepOk n₀ ann t with
      | false => rw [hk] at h; cases h
      | true =>
        rw [hk] at h
        cases hs : stepT (denote tb) p w s t with
        | none => rw [hs] at h; cases h
        | some r => obtain ⟨s₂, t₂⟩ := r; rw [hs] at h; rw [stepT_spec hs]; exact topRunT_of h
noncomputable def bootTree : List Obj → Nat → BT → BT
  | [], _, t => t
  | o :: r, n, t => bootTree r (n + 1) (t.ins n o)
noncomputable def boot0 (w : World) (os : OsState) : SharedT := ⟨bootTree (boot_heap w.params).objs.toList 0 .nil, (boot_heap w.params).objs.size, (boot_heap w.params).life, Array.mk [], boot_drawn, boot_toks, os⟩
noncomputable abbrev boot1 (w : World) (os : OsState) : Shared := ⟨boot_heap w.params, Array.mk [], boot_drawn, boot_toks, os⟩
theorem boot0_is (w : World) (os : OsState) : (boot0 w os).abs = boot1 w os := by kernel_rfl
noncomputable def goodTop (p : Program) (s₀ s : Shared) : Bool := staticsOk (importedModules p.main.body) s₀.heap s.heap && namesBound p s.heap && gensDone s && laidKept s₀.heap s.heap
noncomputable def looksT {α : Type} (p : Program) (F : Shared → α) (s₀ : Shared) (t : SharedT) : Bool × α := (goodTop p s₀ t.abs, F t.abs)
theorem openEnds_of {p : Program} {α : Type} {F : Shared → α} {N : Nat} {G : World → α} (e : opening p = plainProg p.main.scope.names) (hN : Nat.ble 600 N = true) (f : ∀ s, fenceModules? p s = some s)
   (hb : ∀ w : World, ((boot_heap w.params).isNs mainGlobals && (Array.mk [] : Array GenState).size == 0) = true)
   (h : ∀ w os, (topRunT stepOk stepT (denote treeTable) p w (boot_heap w.params).objs.size ((boot_heap w.params).nsMap mainGlobals (Str.ofString "__annotations__")) N (boot0 w os) (topStub p)).map (looksT p F (boot1 w os)) = some (true, G w)) (w : World) : (openEnds treeTable p w N).map F = some (G w) := by
  obtain ⟨s, hs, hv⟩ := Option.map_eq_some_iff.mp (boot_open e hN f w)
  obtain ⟨h1, h2, h3, h4, h5⟩ := s
  simp only [Prod.mk.injEq] at hv
  obtain ⟨rfl, rfl, rfl, rfl⟩ := hv
  obtain ⟨r, hr, hl⟩ := Option.map_eq_some_iff.mp (h w h5)
  have hr := topRunT_of hr
  rw [boot0_is] at hr
  have hg : goodTop p (boot1 w h5) r.abs = true := congrArg Prod.fst hl
  have hF : F r.abs = G w := congrArg Prod.snd hl
  have ht : topFrom treeTable p w N (boot1 w h5) = some r.abs := by
    unfold topFrom
    dsimp only
    rw [hb w]
    dsimp only
    rw [hr]
    show (match goodTop p (boot1 w h5) r.abs with | true => some r.abs | false => none) = some r.abs
    rw [hg]
  unfold openEnds
  rw [hs]
  show (topFrom treeTable p w N (boot1 w h5)).map F = _
  rw [ht, ← hF]
  rfl
theorem open_is : opening rowW.prog = plainProg rowW.prog.main.scope.names := by kernel_rfl
theorem fence_is : ∀ s, fenceModules? rowW.prog s = some s := fun s => by kernel_rfl
theorem main_is (w : World) : ((boot_heap w.params).isNs mainGlobals && (Array.mk [] : Array GenState).size == 0) = true := by kernel_rfl
noncomputable def seenQ (s : Shared) := (PySem.W.Fast.tw4187177175401517315 hd.view_39 [Str.ofString "NIL", Str.ofString "list_of"] (importedModules rowW.prog.main.body) (fun s => xlAt hd.view_39 [] s && recOk (RowW.records rowW) s) true s, hook.obs s)
set_option maxHeartbeats 0 in
theorem top_runs (w : World) (os : OsState) : (topRunT PySem.W.Fast.tw6613529449190102663 PySem.W.Fast.tw10156331382660048174 (PySem.W.Fast.tw11892475500146522536 PySem.W.Fast.tw14364793385576792824) rowW.prog w (boot_heap w.params).objs.size ((boot_heap w.params).nsMap mainGlobals (Str.ofString "__annotations__")) 3102 (boot0 w os) (topStub rowW.prog)).map (looksT rowW.prog seenQ (boot1 w os)) = some (true, (openGood hd.view_39 [Str.ofString "NIL", Str.ofString "list_of"], hook.val w)) := by kernel_rfl
theorem left : LeftO rowW.prog hd.view_39 [Str.ofString "NIL", Str.ofString "list_of"] (fun s => xlAt hd.view_39 [] s && recOk (RowW.records rowW) s) hook.obs hook.val 3102 := fun w => by
  rw [PySem.W.Fast.te4187177175401517315]
  exact openEnds_of (N := 3102) (F := seenQ) (G := fun w => (openGood hd.view_39 [Str.ofString "NIL", Str.ofString "list_of"], hook.val w)) open_is (by decide) fence_is main_is (fun w os => by
    rw [PySem.W.Fast.te6613529449190102663, PySem.W.Fast.te10156331382660048174, PySem.W.Fast.te11892475500146522536, PySem.W.Fast.te14364793385576792824]
    exact top_runs w os) w
set_option maxHeartbeats 0 in
theorem well_said : PySem.Challenge.rw_np0012_01.wellSaid = true := by
  refine (look_both (look_both (look_both (look_both (look_both (look_both (look_both (look_both (look_both (look_both (look_both (look_both (look_both (look_both (look_both (look_both (look_both (look_both ?_ ?_) ?_) ?_) ?_) ?_) ?_) ?_) ?_) ?_) ?_) ?_) ?_) ?_) ?_) ?_) ?_) ?_) ?_)
  case refine_1 =>
    refine (look_both (look_both ?_ ?_) ?_)
    case refine_1 =>
      refine (look_both (look_both (look_both (look_both (look_both (look_both (look_both (look_both (look_both (look_both (look_both (look_both (look_both ?_ ?_) ?_) ?_) ?_) ?_) ?_) ?_) ?_) ?_) ?_) ?_) ?_) ?_)
      case refine_1 =>
        refine (look_both (look_both (look_both (look_both (look_both ?_ ?_) ?_) ?_) ?_) ?_)
        all_goals decide +kernel
      all_goals decide +kernel
    all_goals decide +kernel
  all_goals decide +kernel

theorem zz_reset_NpBase : True := by
  w_top off
  exact trivial
open PySem PySem.W PyProof.Rows PySem.Calls

structure Base (w : World) (h : Heap) : Prop where
  X : (hd.heap_39 w.params).In h
  T : ∃ p loose mean mg mb, Top p loose mean mg mb h

def Kept (h h' : Heap) : Prop := ∀ b o, h.get? b = some o → h'.get? b = some o
theorem Kept.refl (h : Heap) : Kept h h := fun _ _ e => e
theorem Kept.trans {h₁ h₂ h₃ : Heap} (a : Kept h₁ h₂) (b : Kept h₂ h₃) : Kept h₁ h₃ := fun x o e => b x o (a x o e)
theorem Base.keeps {w : World} {h h' : Heap} (B : Base w h) (k : Kept h h') : Base w h' :=
  ⟨B.X.keeps k, let ⟨p, l, me, mg, mb, T⟩ := B.T; ⟨p, l, me, mg, mb, T.keeps k⟩⟩
theorem Base.lim {w : World} {h : Heap} (B : Base w h) : h.NoLimit := let ⟨_, _, _, _, _, T⟩ := B.T; T.nolimit
theorem Kept.list {h h' : Heap} {l : Addr} {vs : Array Value} (k : Kept h h') (x : h.IsList l vs) : h'.IsList l vs := let ⟨o, ho, r⟩ := x; ⟨o, k l o ho, r⟩

theorem fr_kept {h₀ h h' : Heap} {L : Addr} {m : Str → Option Value} (F : Fr h₀ L h m) (k : Kept h h') : Fr h₀ L h' m :=
  ⟨F.ns.keeps k, fun b o e => k b o (F.keep b o e), F.above⟩
theorem news_kept {h₀ h h' : Heap} {L : Addr} {news : List (Addr × Obj)} (N : News h₀ L h news) (k : Kept h h') : News h₀ L h' news :=
  fun p hp => ⟨k _ _ (N p hp).1, (N p hp).2⟩
theorem news_sub {h₀ h : Heap} {L : Addr} {news news' : List (Addr × Obj)} (N : News h₀ L h news) (k : ∀ p ∈ news', p ∈ news) : News h₀ L h news' := fun p hp => N p (k p hp)

section
variable {prog : Program} {w : World} {A : Around} {s : Shared}

structure Hides (h : Heap) (hid : List Addr) (g : Heap) : Prop where
  to : ∀ b o, h.get? b = some o → b ∉ hid → g.get? b = some o
  of : ∀ b o, g.get? b = some o → h.get? b = some o
  none : ∀ b ∈ hid, g.get? b = none

theorem Hides.base {w : World} {h₀ h g : Heap} {L : Addr} {m : Str → Option Value} {hid : List (Addr × Obj)} (H : Hides h (hid.map (·.1)) g) (B : Base w h₀) (F : Fr h₀ L h m) (N : News h₀ L h hid) : Base w g :=
  B.keeps fun b o e => H.to _ _ (F.keep _ _ e) fun hb => by
    obtain ⟨p, hp, rfl⟩ := List.mem_map.mp hb; have := (N p hp).2.2; rw [e] at this; cases this

theorem Hides.back {h₀ h h' g : Heap} {L : Addr} {m : Str → Option Value} {hid : List (Addr × Obj)} (H : Hides h (hid.map (·.1)) g) (F : Fr h₀ L h m) (N : News h₀ L h hid) (k : Kept g h') : Fr h₀ L h' m := by
  have keep : ∀ b o, h.get? b = some o → b ∉ hid.map (·.1) → h'.get? b = some o := fun b o e hb => k b o (H.to _ _ e hb)
  obtain ⟨oL, a1, a2, hL, a3⟩ := F.ns
  refine ⟨⟨oL, a1, a2, keep _ _ hL fun hb => ?_, a3⟩, fun b o e => keep _ _ (F.keep _ _ e) fun hb => ?_, F.above⟩
  · obtain ⟨p, hp, rfl⟩ := List.mem_map.mp hb; exact (N p hp).2.1 rfl
  · obtain ⟨p, hp, rfl⟩ := List.mem_map.mp hb; have := (N p hp).2.2; rw [e] at this; cases this
theorem Hides.newer {h g : Heap} {hid : List Addr} {b : Addr} (H : Hides h hid g) (e : g.get? b = .none) (hb : b ∉ hid) : h.get? b = .none := by
  cases q : h.get? b with
  | none => rfl
  | some o => rw [H.to _ _ q hb] at e; cases e

theorem enterC {R : Result → Shared → Prop} {K : Frag} {name qual : Str} {params : Arguments} {body : List Stmt} {scope : Scope} {dV kV doc pm cdv ct oc : Value} {an od : Option Addr} {osl : Array (Option Value)} {f : Addr} {args : List Value} (binds : List (Str × Value))
    (hid : List (Addr × Obj)) (hh : ∀ p ∈ hid, s.heap.get? p.1 = some p.2)
    (X : K.In s.heap) (hlim : s.heap.NoLimit)
    (ho : K.lookup f = some ⟨oc, od, .func (fnOf name qual params body scope dV kV doc pm an cdv ct), osl⟩) (hcd : codeIn K cdv qual = true) (hroom : A.depth < recursionLimit)
    (hbind : BindsTo s (fnOf name qual params body scope dV kV doc pm an cdv ct) ⟨args, []⟩ binds) (hloc : ∀ y ∈ binds, scope.names.lookup y.1 = some .local)
    (hco : scope.isCoroutine = false) (hgen : scope.isGenerator = false) (hk : scope.kind = .function)
    (hcell : ∀ x ∈ scope.names, x.2 ≠ .cell)
    (h : ∀ g L' h₁ tk, Hides s.heap (hid.map (·.1)) g → (∀ b o, s.heap.get? b = some o → b < L') → Fr g L' h₁ (fun y => binds.reverse.lookup y) → News g L' h₁ hid →
      wpAny (model prog w) (A.deeper (envOf qual scope L' f cdv)) (execs body (envOf qual scope L' f cdv))
        (fun fl s' => R (.ok (.ret (match fl with | .ret v => v | _ => .none))) s')
        (fun _ _ => False)
        { s with heap := h₁, toks := tk }) : codeAny (model prog w) A (.call (.ref f) ⟨args, []⟩) R s := by
  refine codeAny_call_def (fd := fnOf name qual params body scope dV kV doc pm an cdv ct) (body := body) (binds := binds) hroom (X _ _ ho) rfl hlim (codeRec_of X hcd) rfl hbind hcell hloc (fun h₁ hns hk₁ => ?_) hco hgen hk
  refine wpAny_mono (h (hideAll s.heap (hid.map (·.1))) s.heap.objs.size h₁ _ ⟨fun b o e hb => hideAll_get _ e hb, fun b o e => of_hideAll _ e, fun b hb => hideAll_none _ hb⟩ (fun b o e => Heap.lt_size e) ⟨hns, fun b o e => hk₁ b o (of_hideAll _ e), Nat.le_of_eq (hideAll_size _ _)⟩
    fun p hp => ⟨hk₁ _ _ (hh p hp), Nat.ne_of_lt (Heap.lt_size (hh p hp)), hideAll_none _ (List.mem_map_of_mem hp)⟩) (fun fl s' q => by exact q) fun _ _ x => x.elim

theorem enter {Q : Value → Shared → Prop} {E : Value → Shared → Prop} {K : Frag} {name qual : Str} {params : Arguments} {body : List Stmt} {scope : Scope} {dV kV doc pm cdv ct oc : Value} {an od : Option Addr} {osl : Array (Option Value)} {f : Addr} {args : List Value} (binds : List (Str × Value))
    (X : K.In s.heap) (hlim : s.heap.NoLimit)
    (ho : K.lookup f = some ⟨oc, od, .func (fnOf name qual params body scope dV kV doc pm an cdv ct), osl⟩) (hcd : codeIn K cdv qual = true) (hroom : A.depth < recursionLimit)
    (hbind : BindsTo s (fnOf name qual params body scope dV kV doc pm an cdv ct) ⟨args, []⟩ binds) (hloc : ∀ y ∈ binds, scope.names.lookup y.1 = some .local)
    (hco : scope.isCoroutine = false) (hgen : scope.isGenerator = false) (hk : scope.kind = .function)
    (hcell : ∀ x ∈ scope.names, x.2 ≠ .cell)
    (h : ∀ L' h₁ tk, Fr s.heap L' h₁ (fun y => binds.reverse.lookup y) → News s.heap L' h₁ [] →
      wpAny (model prog w) (A.deeper (envOf qual scope L' f cdv)) (execs body (envOf qual scope L' f cdv))
        (fun fl s' => Q (match fl with | .ret v => v | _ => .none) s')
        (fun _ _ => False)
        { s with heap := h₁, toks := tk }) : wpAny (model prog w) A (call (.ref f) args) Q E s := by
  refine wpAny_call ?_
  refine codeAny_call_def (fd := fnOf name qual params body scope dV kV doc pm an cdv ct) (body := body) (binds := binds) hroom (X _ _ ho) rfl hlim (codeRec_of X hcd) rfl hbind hcell hloc (fun h₁ hns hk₁ => ?_) hco hgen hk
  exact wpAny_mono (h s.heap.objs.size h₁ _ ⟨hns, hk₁, Nat.le_refl _⟩ News.nil) (fun fl s' q => by exact q) fun _ _ x => x.elim
end

theorem inst_base {h₀ h : Heap} {L x C dx : Addr} {m : Str → Option Value} {od : Obj} {sl : Array (Option Value)} (F : Fr h₀ L h m) (h1 : h₀.get? x = some ⟨.ref C, some dx, .plain, sl⟩) (h2 : h₀.get? dx = some od) :
    InstAt h x ⟨.ref C, some dx, .plain, sl⟩ C (some od) := ⟨F.keep _ _ h1, rfl, rfl, F.keep _ _ h2⟩

theorem fr_know {h₀ h : Heap} {L : Addr} {m : Str → Option Value} {a : Str} {x : Value} (F : Fr h₀ L h m) (e : m a = some x) : Fr h₀ L h (fun z => if z = a then some x else m z) := by
  have : (fun z => if z = a then some x else m z) = m := by
    funext z
    by_cases q : z = a
    · subst q; simp [e]
    · simp [q]
  rw [this]; exact F

theorem news_new {h₀ h h' : Heap} {L a : Addr} {m : Str → Option Value} {o : Obj} {news : List (Addr × Obj)} (F : Fr h₀ L h m) (e : h.get? a = none) (g : h'.get? a = some o) (N : News h₀ L h' news) : News h₀ L h' ((a, o) :: news) := by
  obtain ⟨oL, _, _, hL, _⟩ := F.ns
  refine List.forall_mem_cons.mpr ⟨⟨g, fun q => ?_, ?_⟩, N⟩
  · have q' : a = L := q
    rw [q', hL] at e; cases e
  · cases q : h₀.get? a with
    | none => rfl
    | some o' => have := F.keep _ _ q; rw [e] at this; cases this
theorem news_news {h₀ h h' : Heap} {L : Addr} {m : Str → Option Value} {nx news : List (Addr × Obj)} (F : Fr h₀ L h m) (e : ∀ p ∈ nx, h'.get? p.1 = some p.2 ∧ h.get? p.1 = none) (N : News h₀ L h' news) : News h₀ L h' (nx ++ news) := by
  induction nx with
  | nil => exact N
  | cons p r ih => exact news_new F (e p (.head _)).2 (e p (.head _)).1 (ih fun q hq => e q (.tail _ hq))

abbrev Ar (dp : Nat) (fr : Option (List Env)) (gd : Option (List Code)) (un : Nat) : Around := { handled := none, depth := dp, frames := fr, guards := gd, units := un }

theorem seed_frag : hd.heap_39 = hd.heap_39 ∧ PySem.Challenge.rw_np0012_01 = PySem.Challenge.rw_np0012_01 := by
  k_fill
  exact ⟨rfl, rfl⟩

theorem zz_reset_NpLines : True := by
  w_top off
  exact trivial
open PySem PySem.W PyProof.Rows PySem.Calls
local macro_rules | `(tactic| k_room) => `(tactic| ((try simp only [depth_mark, depth_under_make, depth_under_kw, depth_in1, depth_deeper, depth_caller, recursionLimit]); (try dsimp only [Ar]); omega))
local macro_rules | `(tactic| k_inst) => `(tactic| (refine' inst_base ?F ?h1 ?h2; (case F => k_asm); (case h1 => k_asm); (case h2 => k_asm)))
local macro_rules | `(tactic| k_handed) => `(tactic| assumption)
local macro_rules | `(tactic| units_room) => `(tactic| ((have hcL := cLine_is; (try simp only [units_under_make, units_in1, units_deeper, Around.mark_units, units_caller]); (try dsimp only [Ar]); omega)))
theorem gen_toks {M : Model} {A : Around} {E : Value → Shared → Prop} {Q : Flow → Shared → Prop} {c : Sem Flow} {h : Heap} {g : Array GenState} {d : Drawn} {x : Nat} {os : OsState} (k : ∀ tk, wpAny M A c Q E ⟨h, g, d, tk, os⟩) : wpAny M A c Q E ⟨h, g, d, x + 1, os⟩ := k (x + 1)
local macro_rules | `(tactic| k_ne) => `(tactic| (refine neN ?_; (try dsimp only); first | (with_reducible assumption) | (refine Ne.symm ?_; (with_reducible assumption)) | (exact Nat.ne_of_gt (by simp only [*])) | (exact Nat.ne_of_lt (by simp only [*])) | (simp only [*, ne_eq, not_false_eq_true]; done) | (refine Ne.symm ?_; simp only [*, ne_eq, not_false_eq_true]; done)))

theorem zz_reset_NpMk : True := by
  w_top off
  exact trivial
open PySem PySem.W PyProof.Rows PySem.Calls
theorem seed_frag_mk : hd.heap_39 = hd.heap_39 ∧ PySem.Challenge.rw_np0012_01 = PySem.Challenge.rw_np0012_01 := by
  k_fill
  exact ⟨rfl, rfl⟩

set_option maxHeartbeats 4000000 in
theorem mk_cons {w : World} {prog : Program} {A : Around} {s : Shared} {Q : Value → Shared → Prop} {E : Value → Shared → Prop} {h₀ : Heap} {L : Addr} {m : Str → Option Value} {news : List (Addr × Obj)} {f1 f2 : Value}
    (B : Base w h₀) (F : Fr h₀ L s.heap m) (N : News h₀ L s.heap news) (hd : A.depth ≤ 900)
    (hQ : ∀ x dx h' tk k1 t1 k2 t2, Fr h₀ L h' m → News h₀ L h' ((x, instObj 75 dx) :: (dx, dictOf [⟨k1, .str (Str.ofString "car") t1, f1⟩, ⟨k2, .str (Str.ofString "cdr") t2, f2⟩] 2) :: news) →
      (∀ p ∈ news, p.1 < dx) → dx < x → Q (.ref x) { s with heap := h', toks := tk }) :
    wpAny (model prog w) A (call (.ref 75) [f1, f2]) Q E s := by
  k_dflt (refine' call_cls ?k1 ?k2 ?k3 ?k4 ?k5 ?k6 ?_; (case k1 => exact F); (case k2 => exact B.X); (case k3 => exact N); (case k4 => k_is); (case k5 => k_is); (case k6 => k_is))
  intro x dx h' F' N' l1 l2
  have N₁ : News h₀ L h' [(x, instObj 75 dx), (dx, dictOf [] 0)] := news_sub N' (by intro p hp; simp only [List.mem_cons, List.not_mem_nil, or_false] at hp; rcases hp with rfl | rfl <;> simp)
  have hX := B.keeps F'.keep
  k_dflt (refine' enterC [(Str.ofString "self", .ref x), (Str.ofString "car", f1), (Str.ofString "cdr", f2)] [(x, instObj 75 dx), (dx, dictOf [] 0)] (fun p hp => (N₁ p hp).1) hX.X hX.lim ?k6 ?k7 ?k8 ?k9 ?kB ?c2 ?c3 ?c4 ?c5 ?_)
  ((k_dflt ((case k6 => k_is); (case k7 => k_is); (case k8 => k_room); (case k9 => first | exact BindsTo.of_eq rfl | exact binds_K (by k_in) rfl (by k_is) rfl rfl rfl); (case kB => exact locs rfl); (case c2 => exact rfl); (case c3 => exact rfl); (case c4 => exact rfl); (case c5 => decide))))
  intro g L' h₁ tk H hlt F₁ N₂
  have Bg := H.base B F' N₁
  have X := Bg.X
  obtain ⟨p, loose, mean, mg, mb, T⟩ := Bg.T
  have l3 := ltN l2
  have hback : ∀ h'', Kept g h'' → Fr h₀ L h'' m := fun h'' k => H.back F' N₁ k
  have hrest : ∀ h'', Kept g h'' → News h₀ L h'' news := fun h'' k q hq => ⟨k _ _ (H.to _ _ (N' q (by simp [hq])).1 (by
    have := ltN (l1 q hq)
    simp only [List.map_cons, List.map_nil, List.mem_cons, List.not_mem_nil, or_false]; rintro (e | e) <;> (rw [e] at this; first | exact Nat.lt_irrefl _ this | exact Nat.lt_irrefl _ (Nat.lt_trans this l3)))), (N q hq).2⟩
  have hx := (N₁ (x, instObj 75 dx) (by simp)).2
  have hdx := (N₁ (dx, dictOf [] 0) (by simp)).2
  clear N' F' N₁ F N hX B
  repeat' (first | (k_unfold; (try dsimp only)) | (k_end; wrow_close) | (first | ((with_reducible show wpAny _ _ (execs [] _) _ _ _); (k_here; (with_reducible refine gen_toks ?_); intro zztk)) | ((with_reducible show wpAny _ _ (execs (_ :: _) _) _ _ _); (k_here; (with_reducible refine gen_toks ?_); intro zztk)) | ((with_reducible show wpAny _ _ (execs (_ :: _) _) _ _ _); (k_here; (with_reducible refine wpAny_execs_cons ?_); (try dsimp only); k_fold)) | walk1) | (dsimp only; (first | ((with_reducible show wpAny _ _ (execs [] _) _ _ _); (k_here; (with_reducible refine gen_toks ?_); intro zztk)) | ((with_reducible show wpAny _ _ (execs (_ :: _) _) _ _ _); (k_here; (with_reducible refine gen_toks ?_); intro zztk)) | ((with_reducible show wpAny _ _ (execs (_ :: _) _) _ _ _); (k_here; (with_reducible refine wpAny_execs_cons ?_); (try dsimp only); k_fold)) | walk1)) | (leave1; try dsimp only) | fail "no step")
  (rename News _ _ _ _ => NN); (rename Fr _ _ _ _ => FF)
  have M1 := NN _ (List.Mem.head _)
  have M2 := NN _ (List.Mem.tail _ (List.Mem.head _))
  exact ⟨rfl, hQ _ _ _ _ _ _ _ _ (hback _ FF.keep) (List.forall_mem_cons.mpr ⟨⟨M1.1, hx⟩, List.forall_mem_cons.mpr ⟨⟨M2.1, hdx⟩, hrest _ FF.keep⟩⟩) l1 l2⟩

set_option maxHeartbeats 4000000 in
theorem mk_symbol {w : World} {prog : Program} {A : Around} {s : Shared} {Q : Value → Shared → Prop} {E : Value → Shared → Prop} {h₀ : Heap} {L : Addr} {m : Str → Option Value} {news : List (Addr × Obj)} {f1 f2 : Value}
    (B : Base w h₀) (F : Fr h₀ L s.heap m) (N : News h₀ L s.heap news) (hd : A.depth ≤ 900)
    (hQ : ∀ x dx h' tk k1 t1 k2 t2, Fr h₀ L h' m → News h₀ L h' ((x, instObj 51 dx) :: (dx, dictOf [⟨k1, .str (Str.ofString "number") t1, f1⟩, ⟨k2, .str (Str.ofString "name") t2, f2⟩] 2) :: news) →
      (∀ p ∈ news, p.1 < dx) → dx < x → Q (.ref x) { s with heap := h', toks := tk }) :
    wpAny (model prog w) A (call (.ref 51) [f1, f2]) Q E s := by
  k_dflt (refine' call_cls ?k1 ?k2 ?k3 ?k4 ?k5 ?k6 ?_; (case k1 => exact F); (case k2 => exact B.X); (case k3 => exact N); (case k4 => k_is); (case k5 => k_is); (case k6 => k_is))
  intro x dx h' F' N' l1 l2
  have N₁ : News h₀ L h' [(x, instObj 51 dx), (dx, dictOf [] 0)] := news_sub N' (by intro p hp; simp only [List.mem_cons, List.not_mem_nil, or_false] at hp; rcases hp with rfl | rfl <;> simp)
  have hX := B.keeps F'.keep
  k_dflt (refine' enterC [(Str.ofString "self", .ref x), (Str.ofString "number", f1), (Str.ofString "name", f2)] [(x, instObj 51 dx), (dx, dictOf [] 0)] (fun p hp => (N₁ p hp).1) hX.X hX.lim ?k6 ?k7 ?k8 ?k9 ?kB ?c2 ?c3 ?c4 ?c5 ?_)
  ((k_dflt ((case k6 => k_is); (case k7 => k_is); (case k8 => k_room); (case k9 => first | exact BindsTo.of_eq rfl | exact binds_K (by k_in) rfl (by k_is) rfl rfl rfl); (case kB => exact locs rfl); (case c2 => exact rfl); (case c3 => exact rfl); (case c4 => exact rfl); (case c5 => decide))))
  intro g L' h₁ tk H hlt F₁ N₂
  have Bg := H.base B F' N₁
  have X := Bg.X
  obtain ⟨p, loose, mean, mg, mb, T⟩ := Bg.T
  have l3 := ltN l2
  have hback : ∀ h'', Kept g h'' → Fr h₀ L h'' m := fun h'' k => H.back F' N₁ k
  have hrest : ∀ h'', Kept g h'' → News h₀ L h'' news := fun h'' k q hq => ⟨k _ _ (H.to _ _ (N' q (by simp [hq])).1 (by
    have := ltN (l1 q hq)
    simp only [List.map_cons, List.map_nil, List.mem_cons, List.not_mem_nil, or_false]; rintro (e | e) <;> (rw [e] at this; first | exact Nat.lt_irrefl _ this | exact Nat.lt_irrefl _ (Nat.lt_trans this l3)))), (N q hq).2⟩
  have hx := (N₁ (x, instObj 51 dx) (by simp)).2
  have hdx := (N₁ (dx, dictOf [] 0) (by simp)).2
  clear N' F' N₁ F N hX B
  repeat' (first | (k_unfold; (try dsimp only)) | (k_end; wrow_close) | (first | ((with_reducible show wpAny _ _ (execs [] _) _ _ _); (k_here; (with_reducible refine gen_toks ?_); intro zztk)) | ((with_reducible show wpAny _ _ (execs (_ :: _) _) _ _ _); (k_here; (with_reducible refine gen_toks ?_); intro zztk)) | ((with_reducible show wpAny _ _ (execs (_ :: _) _) _ _ _); (k_here; (with_reducible refine wpAny_execs_cons ?_); (try dsimp only); k_fold)) | walk1) | (dsimp only; (first | ((with_reducible show wpAny _ _ (execs [] _) _ _ _); (k_here; (with_reducible refine gen_toks ?_); intro zztk)) | ((with_reducible show wpAny _ _ (execs (_ :: _) _) _ _ _); (k_here; (with_reducible refine gen_toks ?_); intro zztk)) | ((with_reducible show wpAny _ _ (execs (_ :: _) _) _ _ _); (k_here; (with_reducible refine wpAny_execs_cons ?_); (try dsimp only); k_fold)) | walk1)) | (leave1; try dsimp only) | fail "no step")
  (rename News _ _ _ _ => NN); (rename Fr _ _ _ _ => FF)
  have M1 := NN _ (List.Mem.head _)
  have M2 := NN _ (List.Mem.tail _ (List.Mem.head _))
  exact ⟨rfl, hQ _ _ _ _ _ _ _ _ (hback _ FF.keep) (List.forall_mem_cons.mpr ⟨⟨M1.1, hx⟩, List.forall_mem_cons.mpr ⟨⟨M2.1, hdx⟩, hrest _ FF.keep⟩⟩) l1 l2⟩

set_option maxHeartbeats 4000000 in
theorem mk_told {w : World} {prog : Program} {A : Around} {s : Shared} {Q : Value → Shared → Prop} {E : Value → Shared → Prop} {h₀ : Heap} {L : Addr} {m : Str → Option Value} {news : List (Addr × Obj)} {f1 f2 f3 : Value}
    (B : Base w h₀) (F : Fr h₀ L s.heap m) (N : News h₀ L s.heap news) (hd : A.depth ≤ 900)
    (hQ : ∀ x dx h' tk k1 t1 k2 t2 k3 t3, Fr h₀ L h' m → News h₀ L h' ((x, instObj 132 dx) :: (dx, dictOf [⟨k1, .str (Str.ofString "needed") t1, f1⟩, ⟨k2, .str (Str.ofString "optional") t2, f2⟩, ⟨k3, .str (Str.ofString "rest") t3, f3⟩] 3) :: news) →
      (∀ p ∈ news, p.1 < dx) → dx < x → Q (.ref x) { s with heap := h', toks := tk }) :
    wpAny (model prog w) A (call (.ref 132) [f1, f2, f3]) Q E s := by
  k_dflt (refine' call_cls ?k1 ?k2 ?k3 ?k4 ?k5 ?k6 ?_; (case k1 => exact F); (case k2 => exact B.X); (case k3 => exact N); (case k4 => k_is); (case k5 => k_is); (case k6 => k_is))
  intro x dx h' F' N' l1 l2
  have N₁ : News h₀ L h' [(x, instObj 132 dx), (dx, dictOf [] 0)] := news_sub N' (by intro p hp; simp only [List.mem_cons, List.not_mem_nil, or_false] at hp; rcases hp with rfl | rfl <;> simp)
  have hX := B.keeps F'.keep
  k_dflt (refine' enterC [(Str.ofString "self", .ref x), (Str.ofString "needed", f1), (Str.ofString "optional", f2), (Str.ofString "rest", f3)] [(x, instObj 132 dx), (dx, dictOf [] 0)] (fun p hp => (N₁ p hp).1) hX.X hX.lim ?k6 ?k7 ?k8 ?k9 ?kB ?c2 ?c3 ?c4 ?c5 ?_)
  ((k_dflt ((case k6 => k_is); (case k7 => k_is); (case k8 => k_room); (case k9 => first | exact BindsTo.of_eq rfl | exact binds_K (by k_in) rfl (by k_is) rfl rfl rfl); (case kB => exact locs rfl); (case c2 => exact rfl); (case c3 => exact rfl); (case c4 => exact rfl); (case c5 => decide))))
  intro g L' h₁ tk H hlt F₁ N₂
  have Bg := H.base B F' N₁
  have X := Bg.X
  obtain ⟨p, loose, mean, mg, mb, T⟩ := Bg.T
  have l3 := ltN l2
  have hback : ∀ h'', Kept g h'' → Fr h₀ L h'' m := fun h'' k => H.back F' N₁ k
  have hrest : ∀ h'', Kept g h'' → News h₀ L h'' news := fun h'' k q hq => ⟨k _ _ (H.to _ _ (N' q (by simp [hq])).1 (by
    have := ltN (l1 q hq)
    simp only [List.map_cons, List.map_nil, List.mem_cons, List.not_mem_nil, or_false]; rintro (e | e) <;> (rw [e] at this; first | exact Nat.lt_irrefl _ this | exact Nat.lt_irrefl _ (Nat.lt_trans this l3)))), (N q hq).2⟩
  have hx := (N₁ (x, instObj 132 dx) (by simp)).2
  have hdx := (N₁ (dx, dictOf [] 0) (by simp)).2
  clear N' F' N₁ F N hX B
  repeat' (first | (k_unfold; (try dsimp only)) | (k_end; wrow_close) | (first | ((with_reducible show wpAny _ _ (execs [] _) _ _ _); (k_here; (with_reducible refine gen_toks ?_); intro zztk)) | ((with_reducible show wpAny _ _ (execs (_ :: _) _) _ _ _); (k_here; (with_reducible refine gen_toks ?_); intro zztk)) | ((with_reducible show wpAny _ _ (execs (_ :: _) _) _ _ _); (k_here; (with_reducible refine wpAny_execs_cons ?_); (try dsimp only); k_fold)) | walk1) | (dsimp only; (first | ((with_reducible show wpAny _ _ (execs [] _) _ _ _); (k_here; (with_reducible refine gen_toks ?_); intro zztk)) | ((with_reducible show wpAny _ _ (execs (_ :: _) _) _ _ _); (k_here; (with_reducible refine gen_toks ?_); intro zztk)) | ((with_reducible show wpAny _ _ (execs (_ :: _) _) _ _ _); (k_here; (with_reducible refine wpAny_execs_cons ?_); (try dsimp only); k_fold)) | walk1)) | (leave1; try dsimp only) | fail "no step")
  (rename News _ _ _ _ => NN); (rename Fr _ _ _ _ => FF)
  have M1 := NN _ (List.Mem.head _)
  have M2 := NN _ (List.Mem.tail _ (List.Mem.head _))
  exact ⟨rfl, hQ _ _ _ _ _ _ _ _ _ _ (hback _ FF.keep) (List.forall_mem_cons.mpr ⟨⟨M1.1, hx⟩, List.forall_mem_cons.mpr ⟨⟨M2.1, hdx⟩, hrest _ FF.keep⟩⟩) l1 l2⟩

theorem zz_reset_NpList : True := by
  w_top off
  exact trivial
open PySem PySem.W PyProof.Rows PySem.Calls
theorem seed_frag_list : hd.heap_39 = hd.heap_39 ∧ PySem.Challenge.rw_np0012_01 = PySem.Challenge.rw_np0012_01 := by
  k_fill
  exact ⟨rfl, rfl⟩

inductive LstAt (P : Addr → Obj → Prop) (tail : Value) : Value → List Value → Prop where
  | nil : LstAt P tail tail []
  | cons {a d : Addr} {k1 k2 : Int} {t1 t2 n : Nat} {x v : Value} {xs : List Value} : P a (instObj 75 d) →
      P d (dictOf [⟨k1, .str (Str.ofString "car") t1, x⟩, ⟨k2, .str (Str.ofString "cdr") t2, v⟩] n) → LstAt P tail v xs → LstAt P tail (.ref a) (x :: xs)

theorem LstAt.mono {P P' : Addr → Obj → Prop} {tail v : Value} {xs : List Value} (h : LstAt P tail v xs) (k : ∀ a o, P a o → P' a o) : LstAt P' tail v xs := by
  induction h with
  | nil => exact .nil
  | cons h1 h2 _ ih => exact .cons (k _ _ h1) (k _ _ h2) ih

section
variable {prog : Program} {w : World} {A : Around} {E : Value → Shared → Prop} {s : Shared} {env : Env} {h₀ : Heap} {x : Str} {body : List Stmt} {Q : Flow → Shared → Prop}

theorem loop_range {r : Addr} {a₀ b₀ c : Int} {t₀ u₀ v₀ : Tok} {n : Nat} {m₀ : Str → Option Value} {news : List (Addr × Obj)} (J : Nat → (Str → Option Value) → List (Addr × Obj) → Prop)
    (hh : A.handled = none) (hr : IsRange s.heap r a₀ b₀ c t₀ u₀ v₀) (hsmall : Builtin.Range.small a₀ b₀ c = true) (hn : Builtin.Range.rangeSize a₀ b₀ c = (n : Int)) (F : Fr h₀ env.locals s.heap m₀) (N : News h₀ env.locals s.heap news) (hj : J 0 m₀ news)
    (turn : ∀ i t m₁ nx h tk own, i < n → TbOff own nx → J i m₁ nx → Fr h₀ env.locals h (fun y => if y = x then some (.int (a₀ + (i : Int) * c) t) else m₁ y) → News h₀ env.locals h (nx ++ own) →
      wpAny (model prog w) A (execs body env) (TbPost h₀ env.locals (J (i + 1)) own { s with heap := h, toks := tk } Q) E { s with heap := h, toks := tk })
    (done : ∀ m₁ nx h tk, J n m₁ nx → Fr h₀ env.locals h m₁ → News h₀ env.locals h nx → Q .next { s with heap := h, toks := tk }) :
    wpAny (model prog w) A (pyIter (.ref r)) (fun it s₂ => LoopAtV prog w A h₀ env x body Q E it s₂) E s := by
  refine wpAny_pyIter_range hr hsmall ?_
  have W : Walks prog w A s.heap.objs.size [s.heap.objs.size] [s.heap.objs.size] n (fun i v => i < n ∧ ∃ t, v = .int (a₀ + i * c) t)
      (fun i h => IsRangeIter h s.heap.objs.size (a₀ + (i : Nat) * c) ((n : Int) - (i : Nat)) c) := (Walks.range hh _ a₀ c n).bound
  refine tbr_loop J W (fun _ h => h) (fun _ h => h) ?_ ?_ ?_ ?_ (by show IsRangeIter _ _ _ _ _; rw [hn]; simpa using Heap.get?_push_size _ rfl) (F.push _) (fun p hp => ⟨Heap.get?_push_of_some _ (N p hp).1, (N p hp).2⟩) hj ?_ ?_
  · intro i h hi b hb
    rw [List.mem_singleton.mp hb]
    exact ⟨_, hi⟩
  · intro hm
    exact absurd F.ns.lt ((List.mem_singleton.mp hm) ▸ Nat.lt_irrefl _)
  · intro b hb
    rw [List.mem_singleton.mp hb]
    exact next_is_new F
  · intro p hp hI
    exact absurd (Heap.lt_size (N p hp).1) ((List.mem_singleton.mp hI) ▸ Nat.lt_irrefl _)
  · rintro i v m₁ nx h tk own hi ⟨_, t, rfl⟩ hoff hJ F₁ N₁
    exact turn i t m₁ nx h tk own hi hoff hJ F₁ N₁
  · exact done

theorem tb_add {L : Addr} {J : (Str → Option Value) → List (Addr × Obj) → Prop} {own nx : List (Addr × Obj)} {m' : Str → Option Value} {s₁ : Shared} {h' : Heap} {tk : Nat} (add : List (Addr × Obj))
    (F : Fr h₀ L h' m') (N : News h₀ L h' (add ++ (nx ++ own))) (hlt : ∀ p ∈ add, ∀ q ∈ nx ++ own, @LT.lt Nat _ q.1 p.1) (hoff : TbOff own nx) (hj : J m' (add ++ nx)) : TbEnd h₀ L J own s₁ { s₁ with heap := h', toks := tk } := by
  refine ⟨h', tk, m', _, add ++ nx, rfl, F, N, ?_, ?_, ?_, hj⟩
  · intro p hp
    rcases List.mem_append.mp hp with hp | hp
    · exact List.mem_append.mpr (.inl hp)
    · exact List.mem_append.mpr (.inr (List.mem_append.mpr (.inl hp)))
  · exact fun p hp => List.mem_append.mpr (.inr (List.mem_append.mpr (.inr hp)))
  · intro p hp q hq
    rcases List.mem_append.mp hq with hq | hq
    · exact Nat.ne_of_lt (hlt q hq p (List.mem_append.mpr (.inr hp)))
    · exact hoff p hp q hq
end

set_option maxHeartbeats 4000000 in
theorem list_of_spec {w : World} {prog : Program} {dp un : Nat} {fr : Option (List Env)} {gd : Option (List Code)} {s : Shared} {Q : Value → Shared → Prop} {E : Value → Shared → Prop} {l : Addr} {vs : List Value}
    (B : Base w s.heap) (hd : dp ≤ 800) (hl : s.heap.IsList l vs.toArray) (hz : vs.length ≤ 1000)
    (hQ : ∀ r (nx : List (Addr × Obj)) h' tk, Kept s.heap h' → (∀ p ∈ nx, h'.get? p.1 = some p.2 ∧ s.heap.get? p.1 = none) → LstAt (fun a o => (a, o) ∈ nx) (.ref 57) r vs → Q r { s with heap := h', toks := tk }) :
    wpAny (model prog w) (Ar dp fr gd un) (call (.ref 87) [.ref l]) Q E s := by
  have X := B.X
  obtain ⟨p, loose, mean, mg, mb, T⟩ := B.T
  k_dflt (refine' enter [(Str.ofString "things", .ref l), (Str.ofString "tail", .ref 57)] X T.nolimit ?k6 ?k7 ?k8 ?k9 ?kB ?c2 ?c3 ?c4 ?c5 ?_)
  ((k_dflt ((case k6 => k_is); (case k7 => k_is); (case k8 => k_room); (case k9 => first | exact BindsTo.of_eq rfl | exact binds_K (by k_in) rfl (by k_is) rfl rfl rfl); (case kB => exact locs rfl); (case c2 => exact rfl); (case c3 => exact rfl); (case c4 => exact rfl); (case c5 => decide))))
  intro L' h₁ tk F N
  (repeat' (first | (k_unfold; (try dsimp only)) | ((( (fail_if_success (with_reducible show wpAny _ _ (pyIter _) _ _ _)); (fail_if_success (with_reducible show wpAny _ _ (exec (Stmt.While _ _ _ _) _) _ _ _)))); (( (fail_if_success (with_reducible show wpAny _ _ (eval (Expr.ListComp _ _ _ _) _) _ _ _)); (fail_if_success (with_reducible show wpAny _ _ (exec (Stmt.Assign _ (Expr.ListComp _ _ _ _) _) _) _ _ _)); (fail_if_success (with_reducible show LCg.CompSrc _ _ _ _ _ _ _ _ _ _ _ _ _ _)))); first | (first | ((with_reducible show wpAny _ _ (execs [] _) _ _ _); (k_here; (with_reducible refine gen_toks ?_); intro zztk)) | ((with_reducible show wpAny _ _ (execs (_ :: _) _) _ _ _); (k_here; (with_reducible refine gen_toks ?_); intro zztk)) | ((with_reducible show wpAny _ _ (execs (_ :: _) _) _ _ _); (k_here; (with_reducible refine wpAny_execs_cons ?_); (try dsimp only); k_fold)) | (((with_reducible show wpAny _ _ (call (Value.ref 75) [_, _]) _ _ _); k_dflt (refine' mk_cons (by assumption) (by k_asm) (by k_asm) (by k_room) ?_; k_whole); intro zzx' zzdx' zzh' zztk' zzk1' zzt1' zzk2' zzt2' zzF' zzN' zzl1' zzl2'; (try k_sweep))) | ((with_reducible show wpAny _ _ (subscriptTail (Expr.Name _ _) (Expr.Name _ _) (Value.ref _) (Value.int _ _)) _ _ _); (k_dflt (refine' item_list (by is_list) (by (first | decide | omega | (simp only [List.size_toArray] at *; omega))) (by (first | decide | omega | (simp only [List.size_toArray] at *; omega))) (by assumption) ?_))) | ((with_reducible show wpAny _ _ (exec (Stmt.For (Expr.Name _ _) (Expr.Call _ _ _ _) _ _ _) _) _ _ _); (k_here; (rename Fr _ _ _ _ => zzlF'); (with_unfolding_all refine' For_invVF zzlF' (by exact rfl) (by exact rfl) ?_; k_whole))) | ((with_reducible show wpAny _ _ (call (Value.builtin "len") [_]) _ _ _); (k_dflt (refine' call_len_list (by is_list) (by (first | decide | (simp only [List.size_toArray]; omega) | (simp only [List.size_toArray, List.length_cons, List.length_append, List.length_map, List.length_nil, List.length_take, List.length_drop]; omega))) ?_))) | walk1) | (dsimp only; (first | ((with_reducible show wpAny _ _ (execs [] _) _ _ _); (k_here; (with_reducible refine gen_toks ?_); intro zztk)) | ((with_reducible show wpAny _ _ (execs (_ :: _) _) _ _ _); (k_here; (with_reducible refine gen_toks ?_); intro zztk)) | ((with_reducible show wpAny _ _ (execs (_ :: _) _) _ _ _); (k_here; (with_reducible refine wpAny_execs_cons ?_); (try dsimp only); k_fold)) | (((with_reducible show wpAny _ _ (call (Value.ref 75) [_, _]) _ _ _); k_dflt (refine' mk_cons (by assumption) (by k_asm) (by k_asm) (by k_room) ?_; k_whole); intro zzx' zzdx' zzh' zztk' zzk1' zzt1' zzk2' zzt2' zzF' zzN' zzl1' zzl2'; (try k_sweep))) | ((with_reducible show wpAny _ _ (subscriptTail (Expr.Name _ _) (Expr.Name _ _) (Value.ref _) (Value.int _ _)) _ _ _); (k_dflt (refine' item_list (by is_list) (by (first | decide | omega | (simp only [List.size_toArray] at *; omega))) (by (first | decide | omega | (simp only [List.size_toArray] at *; omega))) (by assumption) ?_))) | ((with_reducible show wpAny _ _ (exec (Stmt.For (Expr.Name _ _) (Expr.Call _ _ _ _) _ _ _) _) _ _ _); (k_here; (rename Fr _ _ _ _ => zzlF'); (with_unfolding_all refine' For_invVF zzlF' (by exact rfl) (by exact rfl) ?_; k_whole))) | ((with_reducible show wpAny _ _ (call (Value.builtin "len") [_]) _ _ _); (k_dflt (refine' call_len_list (by is_list) (by (first | decide | (simp only [List.size_toArray]; omega) | (simp only [List.size_toArray, List.length_cons, List.length_append, List.length_map, List.length_nil, List.length_take, List.length_drop]; omega))) ?_))) | walk1))) | fail "no step"))
  (rename IsRange _ _ _ _ _ _ _ _ => hr); (rename Fr _ _ _ _ => F1); (rename News _ _ _ _ => N1)
  refine loop_range (fun i m nx => (∃ v, m (Str.ofString "found") = some v ∧ LstAt (fun a o => (a, o) ∈ nx) (.ref 57) v (vs.drop (vs.length - i))) ∧ m (Str.ofString "things") = some (.ref l)) (n := vs.length) rfl hr ?_ ?_ F1 N1 ⟨⟨_, rfl, by simp; exact .nil⟩, rfl⟩ ?_ ?_
  · exact small_down (by simp only [List.size_toArray]; omega) (by simp only [List.size_toArray]; omega) (by decide) (by decide)
  · rw [rangeSize_downNat]; simp only [List.size_toArray]; omega
  · intro i t m₁ nx h tk' own hi hoff hJ F₁ N₁
    obtain ⟨⟨v, hv, hR⟩, hth⟩ := hJ
    have F₂ := fr_know (fr_know F₁ (a := Str.ofString "found") (x := v) hv) (a := Str.ofString "things") (x := .ref l) hth
    clear F₁ F1 N1 hr
    obtain ⟨x, hx⟩ : ∃ x, vs.toArray[(((List.toArray vs).size : Int) - 1 + (i : Int) * -1).toNat]? = some x := by
      refine ⟨vs[vs.length - 1 - i], ?_⟩
      have : (((List.toArray vs).size : Int) - 1 + (i : Int) * -1).toNat = vs.length - 1 - i := by simp only [List.size_toArray]; omega
      rw [this, List.getElem?_toArray, List.getElem?_eq_getElem]
    (repeat' (first | (k_unfold; (try dsimp only)) | ((( (fail_if_success (with_reducible show wpAny _ _ (pyIter _) _ _ _)); (fail_if_success (with_reducible show wpAny _ _ (exec (Stmt.While _ _ _ _) _) _ _ _)))); (( (fail_if_success (with_reducible show wpAny _ _ (eval (Expr.ListComp _ _ _ _) _) _ _ _)); (fail_if_success (with_reducible show wpAny _ _ (exec (Stmt.Assign _ (Expr.ListComp _ _ _ _) _) _) _ _ _)); (fail_if_success (with_reducible show LCg.CompSrc _ _ _ _ _ _ _ _ _ _ _ _ _ _)))); first | (first | ((with_reducible show wpAny _ _ (execs [] _) _ _ _); (k_here; (with_reducible refine gen_toks ?_); intro zztk)) | ((with_reducible show wpAny _ _ (execs (_ :: _) _) _ _ _); (k_here; (with_reducible refine gen_toks ?_); intro zztk)) | ((with_reducible show wpAny _ _ (execs (_ :: _) _) _ _ _); (k_here; (with_reducible refine wpAny_execs_cons ?_); (try dsimp only); k_fold)) | (((with_reducible show wpAny _ _ (call (Value.ref 75) [_, _]) _ _ _); k_dflt (refine' mk_cons (by assumption) (by k_asm) (by k_asm) (by k_room) ?_; k_whole); intro zzx' zzdx' zzh' zztk' zzk1' zzt1' zzk2' zzt2' zzF' zzN' zzl1' zzl2'; (try k_sweep))) | ((with_reducible show wpAny _ _ (subscriptTail (Expr.Name _ _) (Expr.Name _ _) (Value.ref _) (Value.int _ _)) _ _ _); (k_dflt (refine' item_list (by is_list) (by (first | decide | omega | (simp only [List.size_toArray] at *; omega))) (by (first | decide | omega | (simp only [List.size_toArray] at *; omega))) (by assumption) ?_))) | ((with_reducible show wpAny _ _ (exec (Stmt.For (Expr.Name _ _) (Expr.Call _ _ _ _) _ _ _) _) _ _ _); (k_here; (rename Fr _ _ _ _ => zzlF'); (with_unfolding_all refine' For_invVF zzlF' (by exact rfl) (by exact rfl) ?_; k_whole))) | ((with_reducible show wpAny _ _ (call (Value.builtin "len") [_]) _ _ _); (k_dflt (refine' call_len_list (by is_list) (by (first | decide | (simp only [List.size_toArray]; omega) | (simp only [List.size_toArray, List.length_cons, List.length_append, List.length_map, List.length_nil, List.length_take, List.length_drop]; omega))) ?_))) | walk1) | (dsimp only; (first | ((with_reducible show wpAny _ _ (execs [] _) _ _ _); (k_here; (with_reducible refine gen_toks ?_); intro zztk)) | ((with_reducible show wpAny _ _ (execs (_ :: _) _) _ _ _); (k_here; (with_reducible refine gen_toks ?_); intro zztk)) | ((with_reducible show wpAny _ _ (execs (_ :: _) _) _ _ _); (k_here; (with_reducible refine wpAny_execs_cons ?_); (try dsimp only); k_fold)) | (((with_reducible show wpAny _ _ (call (Value.ref 75) [_, _]) _ _ _); k_dflt (refine' mk_cons (by assumption) (by k_asm) (by k_asm) (by k_room) ?_; k_whole); intro zzx' zzdx' zzh' zztk' zzk1' zzt1' zzk2' zzt2' zzF' zzN' zzl1' zzl2'; (try k_sweep))) | ((with_reducible show wpAny _ _ (subscriptTail (Expr.Name _ _) (Expr.Name _ _) (Value.ref _) (Value.int _ _)) _ _ _); (k_dflt (refine' item_list (by is_list) (by (first | decide | omega | (simp only [List.size_toArray] at *; omega))) (by (first | decide | omega | (simp only [List.size_toArray] at *; omega))) (by assumption) ?_))) | ((with_reducible show wpAny _ _ (exec (Stmt.For (Expr.Name _ _) (Expr.Call _ _ _ _) _ _ _) _) _ _ _); (k_here; (rename Fr _ _ _ _ => zzlF'); (with_unfolding_all refine' For_invVF zzlF' (by exact rfl) (by exact rfl) ?_; k_whole))) | ((with_reducible show wpAny _ _ (call (Value.builtin "len") [_]) _ _ _); (k_dflt (refine' call_len_list (by is_list) (by (first | decide | (simp only [List.size_toArray]; omega) | (simp only [List.size_toArray, List.length_cons, List.length_append, List.length_map, List.length_nil, List.length_take, List.length_drop]; omega))) ?_))) | walk1))) | fail "no step"))
    (rename Fr _ _ _ _ => FF); (rename News _ _ _ _ => NN); (rename (∀ p ∈ nx ++ own, p.1 < _) => l1); (rename (_ < _) => l2)
    refine tb_add [(_, _), (_, _)] FF NN ?_ hoff ⟨⟨_, rfl, ?_⟩, rfl⟩
    · intro p hp q hq
      have := ltN (l1 q hq)
      have := ltN l2
      simp only [List.mem_cons, List.not_mem_nil, or_false] at hp
      rcases hp with rfl | rfl <;> (dsimp only; omega)
    · have e : vs.drop (vs.length - (i + 1)) = x :: vs.drop (vs.length - i) := by
        have h1 : (((List.toArray vs).size : Int) - 1 + (i : Int) * -1).toNat = vs.length - (i + 1) := by simp only [List.size_toArray]; omega
        rw [h1, List.getElem?_toArray] at hx
        obtain ⟨h2, h3⟩ := List.getElem?_eq_some_iff.mp hx
        rw [List.drop_eq_getElem_cons h2, h3]
        congr 2; omega
      rw [e]
      exact .cons (.head _) (.tail _ (.head _)) (hR.mono fun a o m => .tail _ (.tail _ m))
  · intro m₁ nx h tk' hJ F₁ N₁
    obtain ⟨⟨v, hv, hR⟩, hth⟩ := hJ
    have F₂ := fr_know F₁ (a := Str.ofString "found") (x := v) hv
    clear F₁ F1 N1 hr
    (repeat' (first | (k_unfold; (try dsimp only)) | ((( (fail_if_success (with_reducible show wpAny _ _ (pyIter _) _ _ _)); (fail_if_success (with_reducible show wpAny _ _ (exec (Stmt.While _ _ _ _) _) _ _ _)))); (( (fail_if_success (with_reducible show wpAny _ _ (eval (Expr.ListComp _ _ _ _) _) _ _ _)); (fail_if_success (with_reducible show wpAny _ _ (exec (Stmt.Assign _ (Expr.ListComp _ _ _ _) _) _) _ _ _)); (fail_if_success (with_reducible show LCg.CompSrc _ _ _ _ _ _ _ _ _ _ _ _ _ _)))); first | (first | ((with_reducible show wpAny _ _ (execs [] _) _ _ _); (k_here; (with_reducible refine gen_toks ?_); intro zztk)) | ((with_reducible show wpAny _ _ (execs (_ :: _) _) _ _ _); (k_here; (with_reducible refine gen_toks ?_); intro zztk)) | ((with_reducible show wpAny _ _ (execs (_ :: _) _) _ _ _); (k_here; (with_reducible refine wpAny_execs_cons ?_); (try dsimp only); k_fold)) | (((with_reducible show wpAny _ _ (call (Value.ref 75) [_, _]) _ _ _); k_dflt (refine' mk_cons (by assumption) (by k_asm) (by k_asm) (by k_room) ?_; k_whole); intro zzx' zzdx' zzh' zztk' zzk1' zzt1' zzk2' zzt2' zzF' zzN' zzl1' zzl2'; (try k_sweep))) | ((with_reducible show wpAny _ _ (subscriptTail (Expr.Name _ _) (Expr.Name _ _) (Value.ref _) (Value.int _ _)) _ _ _); (k_dflt (refine' item_list (by is_list) (by (first | decide | omega | (simp only [List.size_toArray] at *; omega))) (by (first | decide | omega | (simp only [List.size_toArray] at *; omega))) (by assumption) ?_))) | ((with_reducible show wpAny _ _ (exec (Stmt.For (Expr.Name _ _) (Expr.Call _ _ _ _) _ _ _) _) _ _ _); (k_here; (rename Fr _ _ _ _ => zzlF'); (with_unfolding_all refine' For_invVF zzlF' (by exact rfl) (by exact rfl) ?_; k_whole))) | ((with_reducible show wpAny _ _ (call (Value.builtin "len") [_]) _ _ _); (k_dflt (refine' call_len_list (by is_list) (by (first | decide | (simp only [List.size_toArray]; omega) | (simp only [List.size_toArray, List.length_cons, List.length_append, List.length_map, List.length_nil, List.length_take, List.length_drop]; omega))) ?_))) | walk1) | (dsimp only; (first | ((with_reducible show wpAny _ _ (execs [] _) _ _ _); (k_here; (with_reducible refine gen_toks ?_); intro zztk)) | ((with_reducible show wpAny _ _ (execs (_ :: _) _) _ _ _); (k_here; (with_reducible refine gen_toks ?_); intro zztk)) | ((with_reducible show wpAny _ _ (execs (_ :: _) _) _ _ _); (k_here; (with_reducible refine wpAny_execs_cons ?_); (try dsimp only); k_fold)) | (((with_reducible show wpAny _ _ (call (Value.ref 75) [_, _]) _ _ _); k_dflt (refine' mk_cons (by assumption) (by k_asm) (by k_asm) (by k_room) ?_; k_whole); intro zzx' zzdx' zzh' zztk' zzk1' zzt1' zzk2' zzt2' zzF' zzN' zzl1' zzl2'; (try k_sweep))) | ((with_reducible show wpAny _ _ (subscriptTail (Expr.Name _ _) (Expr.Name _ _) (Value.ref _) (Value.int _ _)) _ _ _); (k_dflt (refine' item_list (by is_list) (by (first | decide | omega | (simp only [List.size_toArray] at *; omega))) (by (first | decide | omega | (simp only [List.size_toArray] at *; omega))) (by assumption) ?_))) | ((with_reducible show wpAny _ _ (exec (Stmt.For (Expr.Name _ _) (Expr.Call _ _ _ _) _ _ _) _) _ _ _); (k_here; (rename Fr _ _ _ _ => zzlF'); (with_unfolding_all refine' For_invVF zzlF' (by exact rfl) (by exact rfl) ?_; k_whole))) | ((with_reducible show wpAny _ _ (call (Value.builtin "len") [_]) _ _ _); (k_dflt (refine' call_len_list (by is_list) (by (first | decide | (simp only [List.size_toArray]; omega) | (simp only [List.size_toArray, List.length_cons, List.length_append, List.length_map, List.length_nil, List.length_take, List.length_drop]; omega))) ?_))) | walk1))) | fail "no step"))
    exact hQ _ nx _ _ F₂.keep (fun p hp => ⟨(N₁ p hp).1, (N₁ p hp).2.2⟩) (by simpa using hR)

theorem zz_reset_NpSplit : True := by
  w_top off
  exact trivial
open PySem PySem.W PyProof.Rows PySem.Calls
theorem seed_frag_split : hd.heap_39 = hd.heap_39 ∧ PySem.Challenge.rw_np0012_01 = PySem.Challenge.rw_np0012_01 := by
  k_fill
  exact ⟨rfl, rfl⟩

abbrev At (h : Heap) (a : Addr) (o : Obj) : Prop := h.get? a = some o

theorem LstAt.same {h : Heap} {tail v : Value} {xs ys : List Value} (ht : ∀ a d, tail = .ref a → h.get? a ≠ some (instObj 75 d)) (hx : LstAt (At h) tail v xs) (hy : LstAt (At h) tail v ys) : xs = ys := by
  induction hx generalizing ys with
  | nil =>
    cases hy with
    | nil => rfl
    | cons h1 _ _ => exact absurd h1 (ht _ _ rfl)
  | cons h1 h2 _ ih =>
    cases hy with
    | nil => exact absurd h1 (ht _ _ rfl)
    | cons g1 g2 g3 =>
      have e1 := h1.symm.trans g1
      cases e1
      have e2 := h2.symm.trans g2
      cases e2
      rw [ih g3]

theorem LstAt.handed {P : Addr → Obj → Prop} {tail v : Value} {xs : List Value} (h : LstAt P tail v xs) (ht : tail = .ref 57 ∨ ∃ t, tail = .int 7 t) : handedIn v = true := by
  cases h with
  | nil => rcases ht with rfl | ⟨t, rfl⟩ <;> rfl
  | cons _ _ _ => rfl

section
variable {M : Model} {A : Around} {E : Value → Shared → Prop} {s : Shared} {Q : Value → Shared → Prop}
theorem is_ne_obj {a b : Addr} {oa ob : Obj} (ha : s.heap.get? a = some oa) (hb : s.heap.get? b = some ob) (hne : a ≠ b) (hc : oa.cls ≠ .type "tuple") (h : Q (.bool false) s) : wpAny M A (compareOp .Is (.ref a) (.ref b)) Q E s := by
  show wpAny M A (do return .bool (← isSame (.ref a) (.ref b))) Q E s
  refine wpAny_bind ?_
  unfold isSame
  dsimp only
  rw [if_neg (by simpa using hne)]
  refine wpAny_bind (wpAny_load ha (wpAny_bind (wpAny_load hb ?_)))
  split
  · rename_i h1 _ _ _; exact absurd h1 hc
  · exact wpAny_pure (wpAny_pure h)
theorem is_apart {h₀ : Heap} {tail v1 v2 : Value} {xs ys : List Value} (ht : tail = .ref 57 ∨ ∃ t, tail = .int 7 t) (hN : ∃ d, h₀.get? 57 = some (instObj 51 d)) (k : Kept h₀ s.heap) (h1 : LstAt (At h₀) tail v1 xs) (h2 : LstAt (At h₀) tail v2 ys) (hne : xs.length ≠ ys.length) (h : Q (.bool false) s) :
    wpAny M A (compareOp .Is v1 v2) Q E s := by
  obtain ⟨dN, hN⟩ := hN
  have no : ∀ a d, tail = .ref a → h₀.get? a ≠ some (instObj 75 d) := by
    rintro a d rfl e
    rcases ht with q | ⟨t, q⟩
    · cases q; rw [hN] at e; cases e
    · cases q
  have other : ∀ {x y : Value}, x ≠ y → (∀ a b, x = .ref a → y ≠ .ref b) → (∀ i j t u, x = .int i t → y ≠ .int j u) → handedIn x = true → handedIn y = true → True := fun _ _ _ _ _ => trivial
  cases h1 with
  | nil =>
    cases h2 with
    | nil => exact absurd rfl hne
    | cons g1 _ _ =>
      rcases ht with rfl | ⟨t, rfl⟩
      · exact is_ne_obj (k _ _ hN) (k _ _ g1) (fun e => no _ _ rfl (e ▸ g1)) (by intro q; cases q) h
      · exact wpAny_bind (wpAny_pure (wpAny_pure h))
  | cons f1 f2 f3 =>
    cases h2 with
    | nil =>
      rcases ht with rfl | ⟨t, rfl⟩
      · exact is_ne_obj (k _ _ f1) (k _ _ hN) (fun e => no _ _ rfl (e ▸ f1)) (by intro q; cases q) h
      · exact wpAny_bind (wpAny_pure (wpAny_pure h))
    | cons g1 g2 g3 =>
      refine is_ne_obj (k _ _ f1) (k _ _ g1) (fun e => ?_) (by intro q; cases q) h
      subst e
      exact hne (congrArg List.length (LstAt.same no (.cons f1 f2 f3) (.cons g1 g2 g3)))
end

theorem fmod2 (n : Nat) : Int.fmod (n : Int) 2 = ((n % 2 : Nat) : Int) := by
  rw [Int.fmod_eq_emod_of_nonneg _ (by decide)]; omega

set_option maxHeartbeats 4000000 in
theorem split_list_spec {w : World} {prog : Program} {dp un : Nat} {fr : Option (List Env)} {gd : Option (List Code)} {s : Shared} {Q : Value → Shared → Prop} {E : Value → Shared → Prop} {v tail : Value} {xs : List Value}
    (B : Base w s.heap) (hd : dp ≤ 800) (ht : tail = .ref 57 ∨ ∃ t, tail = .int 7 t) (hl : LstAt (At s.heap) tail v xs) (hz : xs.length ≤ 1000) (hxs : ∀ x ∈ xs, handedIn x = true)
    (hQ : ∀ tp lt h' tk n1 n2, Kept s.heap h' → s.heap.get? tp = none → s.heap.get? lt = none → h'.get? tp = some { cls := .type "tuple", data := .seq #[.ref lt, tail] n1 } → h'.get? lt = some (listOf xs.toArray n2) → Q (.ref tp) { s with heap := h', toks := tk }) :
    wpAny (model prog w) (Ar dp fr gd un) (call (.ref 94) [v]) Q E s := by
  have X := B.X
  obtain ⟨p, loose, mean, mg, mb, T⟩ := B.T
  k_dflt (refine' enter [(Str.ofString "datum", v)] X T.nolimit ?k6 ?k7 ?k8 ?k9 ?kB ?c2 ?c3 ?c4 ?c5 ?_)
  ((k_dflt ((case k6 => k_is); (case k7 => k_is); (case k8 => k_room); (case k9 => first | exact BindsTo.of_eq rfl | exact binds_K (by k_in) rfl (by k_is) rfl rfl rfl); (case kB => exact locs rfl); (case c2 => exact rfl); (case c3 => exact rfl); (case c4 => exact rfl); (case c5 => decide))))
  intro L' h₁ tk F N
  (repeat' (first | (k_unfold; (try dsimp only)) | ((( (fail_if_success (with_reducible show wpAny _ _ (pyIter _) _ _ _)); (fail_if_success (with_reducible show wpAny _ _ (exec (Stmt.While _ _ _ _) _) _ _ _)))); (( (fail_if_success (with_reducible show wpAny _ _ (eval (Expr.ListComp _ _ _ _) _) _ _ _)); (fail_if_success (with_reducible show wpAny _ _ (exec (Stmt.Assign _ (Expr.ListComp _ _ _ _) _) _) _ _ _)); (fail_if_success (with_reducible show LCg.CompSrc _ _ _ _ _ _ _ _ _ _ _ _ _ _)))); first | (first | ((with_reducible show wpAny _ _ (execs [] _) _ _ _); (k_here; (with_reducible refine gen_toks ?_); intro zztk)) | ((with_reducible show wpAny _ _ (execs (_ :: _) _) _ _ _); (k_here; (with_reducible refine gen_toks ?_); intro zztk)) | ((with_reducible show wpAny _ _ (execs (_ :: _) _) _ _ _); (k_here; (with_reducible refine wpAny_execs_cons ?_); (try dsimp only); k_fold)) | ((with_reducible show wpAny _ _ (compareOp CmpOp.Is _ _) _ _ _); ((rename Int.fmod _ _ = 0 => zzhf'); k_dflt (refine' is_apart (by assumption) (by assumption) (by exact Fr.keep (by assumption)) (by assumption) (by assumption) (by (rw [fmod2] at zzhf'; simp only [List.size_toArray, List.length_append, List.length_take, List.length_cons, List.length_nil] at zzhf'; omega)) ?_))) | ((with_reducible show wpAny _ _ (call (Value.builtin "len") [_]) _ _ _); (k_dflt (refine' call_len_list (by is_list) (by (first | decide | (simp only [List.size_toArray]; omega) | (simp only [List.size_toArray, List.length_cons, List.length_append, List.length_map, List.length_nil, List.length_take, List.length_drop]; omega))) ?_))) | walk1) | (dsimp only; (first | ((with_reducible show wpAny _ _ (execs [] _) _ _ _); (k_here; (with_reducible refine gen_toks ?_); intro zztk)) | ((with_reducible show wpAny _ _ (execs (_ :: _) _) _ _ _); (k_here; (with_reducible refine gen_toks ?_); intro zztk)) | ((with_reducible show wpAny _ _ (execs (_ :: _) _) _ _ _); (k_here; (with_reducible refine wpAny_execs_cons ?_); (try dsimp only); k_fold)) | ((with_reducible show wpAny _ _ (compareOp CmpOp.Is _ _) _ _ _); ((rename Int.fmod _ _ = 0 => zzhf'); k_dflt (refine' is_apart (by assumption) (by assumption) (by exact Fr.keep (by assumption)) (by assumption) (by assumption) (by (rw [fmod2] at zzhf'; simp only [List.size_toArray, List.length_append, List.length_take, List.length_cons, List.length_nil] at zzhf'; omega)) ?_))) | ((with_reducible show wpAny _ _ (call (Value.builtin "len") [_]) _ _ _); (k_dflt (refine' call_len_list (by is_list) (by (first | decide | (simp only [List.size_toArray]; omega) | (simp only [List.size_toArray, List.length_cons, List.length_append, List.length_map, List.length_nil, List.length_take, List.length_drop]; omega))) ?_))) | walk1))) | fail "no step"))
  (rename Fr _ _ _ _ => F1); (rename News _ _ _ _ => N1)
  refine While_inv (fun n m news => ∃ lt k ep atv slv, n = xs.length - k ∧ k ≤ xs.length ∧ news = [(lt, listOf (xs.take k).toArray ep)] ∧ m (Str.ofString "things") = some (.ref lt) ∧ m (Str.ofString "at") = some atv ∧ LstAt (At s.heap) tail atv (xs.drop k) ∧ m (Str.ofString "slow") = some slv ∧ LstAt (At s.heap) tail slv (xs.drop (k / 2))) F1 N1
    ⟨_, 0, _, _, _, rfl, Nat.zero_le _, rfl, rfl, rfl, by simpa using hl, rfl, by simpa using hl⟩ ?_
  rintro n m₁ news₁ h₂ tk₂ F₁ N₁ ⟨lt, k, ep, atv, slv, hn, hk, rfl, h1, h2, hat, h3, hslow⟩
  have F₂ := fr_know (fr_know (fr_know F₁ (a := Str.ofString "things") (x := .ref lt) h1) (a := Str.ofString "at") (x := atv) h2) (a := Str.ofString "slow") (x := slv) h3
  clear F₁ F1 N1
  generalize hxk : xs.drop k = rest at hat
  cases hat with
  | nil =>
    rcases ht with rfl | ⟨t, rfl⟩
    all_goals (
      (repeat' (first | (k_unfold; (try dsimp only)) | ((( (fail_if_success (with_reducible show wpAny _ _ (pyIter _) _ _ _)); (fail_if_success (with_reducible show wpAny _ _ (exec (Stmt.While _ _ _ _) _) _ _ _)))); (( (fail_if_success (with_reducible show wpAny _ _ (eval (Expr.ListComp _ _ _ _) _) _ _ _)); (fail_if_success (with_reducible show wpAny _ _ (exec (Stmt.Assign _ (Expr.ListComp _ _ _ _) _) _) _ _ _)); (fail_if_success (with_reducible show LCg.CompSrc _ _ _ _ _ _ _ _ _ _ _ _ _ _)))); first | (first | ((with_reducible show wpAny _ _ (execs [] _) _ _ _); (k_here; (with_reducible refine gen_toks ?_); intro zztk)) | ((with_reducible show wpAny _ _ (execs (_ :: _) _) _ _ _); (k_here; (with_reducible refine gen_toks ?_); intro zztk)) | ((with_reducible show wpAny _ _ (execs (_ :: _) _) _ _ _); (k_here; (with_reducible refine wpAny_execs_cons ?_); (try dsimp only); k_fold)) | ((with_reducible show wpAny _ _ (compareOp CmpOp.Is _ _) _ _ _); ((rename Int.fmod _ _ = 0 => zzhf'); k_dflt (refine' is_apart (by assumption) (by assumption) (by exact Fr.keep (by assumption)) (by assumption) (by assumption) (by (rw [fmod2] at zzhf'; simp only [List.size_toArray, List.length_append, List.length_take, List.length_cons, List.length_nil] at zzhf'; omega)) ?_))) | ((with_reducible show wpAny _ _ (call (Value.builtin "len") [_]) _ _ _); (k_dflt (refine' call_len_list (by is_list) (by (first | decide | (simp only [List.size_toArray]; omega) | (simp only [List.size_toArray, List.length_cons, List.length_append, List.length_map, List.length_nil, List.length_take, List.length_drop]; omega))) ?_))) | walk1) | (dsimp only; (first | ((with_reducible show wpAny _ _ (execs [] _) _ _ _); (k_here; (with_reducible refine gen_toks ?_); intro zztk)) | ((with_reducible show wpAny _ _ (execs (_ :: _) _) _ _ _); (k_here; (with_reducible refine gen_toks ?_); intro zztk)) | ((with_reducible show wpAny _ _ (execs (_ :: _) _) _ _ _); (k_here; (with_reducible refine wpAny_execs_cons ?_); (try dsimp only); k_fold)) | ((with_reducible show wpAny _ _ (compareOp CmpOp.Is _ _) _ _ _); ((rename Int.fmod _ _ = 0 => zzhf'); k_dflt (refine' is_apart (by assumption) (by assumption) (by exact Fr.keep (by assumption)) (by assumption) (by assumption) (by (rw [fmod2] at zzhf'; simp only [List.size_toArray, List.length_append, List.length_take, List.length_cons, List.length_nil] at zzhf'; omega)) ?_))) | ((with_reducible show wpAny _ _ (call (Value.builtin "len") [_]) _ _ _); (k_dflt (refine' call_len_list (by is_list) (by (first | decide | (simp only [List.size_toArray]; omega) | (simp only [List.size_toArray, List.length_cons, List.length_append, List.length_map, List.length_nil, List.length_take, List.length_drop]; omega))) ?_))) | walk1))) | fail "no step"))
      (rename Fr _ _ _ _ => FF); (rename News _ _ _ _ => NN)
      have hk' : k = xs.length := by have := congrArg List.length hxk; simp only [List.length_drop, List.length_nil] at this; omega
      subst hk'
      rw [List.take_length] at NN
      exact hQ _ _ _ _ _ _ FF.keep (NN _ (.head _)).2.2 (NN _ (.tail _ (.head _))).2.2 (NN _ (.head _)).1 (NN _ (.tail _ (.head _))).1)
  | cons g1 g2 g3 =>
    have hx := hxs _ (List.mem_of_mem_drop (hxk ▸ List.mem_cons_self ..))
    have hv := g3.handed ht
    have hN : ∃ d, s.heap.get? 57 = some (instObj 51 d) := ⟨_, X _ _ (by k_is)⟩
    have hlen := congrArg List.length hxk
    have htake : ∀ (k : Nat) (x : Value) (r : List Value), xs.drop k = x :: r → xs.take k ++ [x] = xs.take (k + 1) ∧ xs.drop (k + 1) = r := by
      intro k x r e
      have h1 : k < xs.length := by have := congrArg List.length e; simp only [List.length_drop, List.length_cons] at this; omega
      rw [List.drop_eq_getElem_cons h1] at e
      injection e with e1 e2
      exact ⟨by rw [List.take_add_one, List.getElem?_eq_getElem h1, e1]; rfl, e2⟩
    obtain ⟨htk, hdk⟩ := htake _ _ _ hxk
    simp only [List.length_drop, List.length_cons] at hlen
    generalize hsk : xs.drop (k / 2) = rs at hslow
    cases hslow with
    | nil => have := congrArg List.length hsk; simp only [List.length_drop, List.length_nil] at this; omega
    | cons s1 s2 s3 =>
      have hsv := s3.handed ht
      have hlen2 := congrArg List.length hsk
      simp only [List.length_drop, List.length_cons] at hlen2
      obtain ⟨_, hdk2⟩ := htake _ _ _ hsk
      (repeat' (first | (k_unfold; (try dsimp only)) | ((( (fail_if_success (with_reducible show wpAny _ _ (pyIter _) _ _ _)); (fail_if_success (with_reducible show wpAny _ _ (exec (Stmt.While _ _ _ _) _) _ _ _)))); (( (fail_if_success (with_reducible show wpAny _ _ (eval (Expr.ListComp _ _ _ _) _) _ _ _)); (fail_if_success (with_reducible show wpAny _ _ (exec (Stmt.Assign _ (Expr.ListComp _ _ _ _) _) _) _ _ _)); (fail_if_success (with_reducible show LCg.CompSrc _ _ _ _ _ _ _ _ _ _ _ _ _ _)))); first | (first | ((with_reducible show wpAny _ _ (execs [] _) _ _ _); (k_here; (with_reducible refine gen_toks ?_); intro zztk)) | ((with_reducible show wpAny _ _ (execs (_ :: _) _) _ _ _); (k_here; (with_reducible refine gen_toks ?_); intro zztk)) | ((with_reducible show wpAny _ _ (execs (_ :: _) _) _ _ _); (k_here; (with_reducible refine wpAny_execs_cons ?_); (try dsimp only); k_fold)) | ((with_reducible show wpAny _ _ (compareOp CmpOp.Is _ _) _ _ _); ((rename Int.fmod _ _ = 0 => zzhf'); k_dflt (refine' is_apart (by assumption) (by assumption) (by exact Fr.keep (by assumption)) (by assumption) (by assumption) (by (rw [fmod2] at zzhf'; simp only [List.size_toArray, List.length_append, List.length_take, List.length_cons, List.length_nil] at zzhf'; omega)) ?_))) | ((with_reducible show wpAny _ _ (call (Value.builtin "len") [_]) _ _ _); (k_dflt (refine' call_len_list (by is_list) (by (first | decide | (simp only [List.size_toArray]; omega) | (simp only [List.size_toArray, List.length_cons, List.length_append, List.length_map, List.length_nil, List.length_take, List.length_drop]; omega))) ?_))) | walk1) | (dsimp only; (first | ((with_reducible show wpAny _ _ (execs [] _) _ _ _); (k_here; (with_reducible refine gen_toks ?_); intro zztk)) | ((with_reducible show wpAny _ _ (execs (_ :: _) _) _ _ _); (k_here; (with_reducible refine gen_toks ?_); intro zztk)) | ((with_reducible show wpAny _ _ (execs (_ :: _) _) _ _ _); (k_here; (with_reducible refine wpAny_execs_cons ?_); (try dsimp only); k_fold)) | ((with_reducible show wpAny _ _ (compareOp CmpOp.Is _ _) _ _ _); ((rename Int.fmod _ _ = 0 => zzhf'); k_dflt (refine' is_apart (by assumption) (by assumption) (by exact Fr.keep (by assumption)) (by assumption) (by assumption) (by (rw [fmod2] at zzhf'; simp only [List.size_toArray, List.length_append, List.length_take, List.length_cons, List.length_nil] at zzhf'; omega)) ?_))) | ((with_reducible show wpAny _ _ (call (Value.builtin "len") [_]) _ _ _); (k_dflt (refine' call_len_list (by is_list) (by (first | decide | (simp only [List.size_toArray]; omega) | (simp only [List.size_toArray, List.length_cons, List.length_append, List.length_map, List.length_nil, List.length_take, List.length_drop]; omega))) ?_))) | walk1))) | fail "no step"))
      · (rename Fr _ _ _ _ => FF); (rename News _ _ _ _ => NN); (rename Int.fmod _ _ = 0 => hf')
        have hpar : (k + 1) % 2 = 0 := by rw [fmod2] at hf'; simp only [List.size_toArray, List.length_append, List.length_take, List.length_cons, List.length_nil] at hf'; omega
        have e2 : (k + 1) / 2 = k / 2 + 1 := by omega
        rw [htk] at NN
        exact ⟨rfl, _, _, _, _, xs.length - (k + 1), rfl, FF, NN, by omega, lt, k + 1, _, _, _, rfl, by omega, rfl, rfl, rfl, by rw [hdk]; exact g3, rfl, by rw [e2, hdk2]; exact s3⟩
      · (rename Fr _ _ _ _ => FF); (rename News _ _ _ _ => NN); (rename ¬ _ => hf)
        have hpar : ¬ (k + 1) % 2 = 0 := by rw [fmod2] at hf; simp only [List.size_toArray, List.length_append, List.length_take, List.length_cons, List.length_nil] at hf; omega
        have e2 : (k + 1) / 2 = k / 2 := by omega
        rw [htk] at NN
        exact ⟨rfl, _, _, _, _, xs.length - (k + 1), rfl, FF, NN, by omega, lt, k + 1, _, _, _, rfl, by omega, rfl, rfl, rfl, by rw [hdk]; exact g3, rfl, by rw [e2, hsk]; exact .cons s1 s2 s3⟩

theorem zz_reset_NpItems : True := by
  w_top off
  exact trivial
open PySem PySem.W PyProof.Rows PySem.Calls
theorem seed_frag_items : hd.heap_39 = hd.heap_39 ∧ PySem.Challenge.rw_np0012_01 = PySem.Challenge.rw_np0012_01 := by
  k_fill
  exact ⟨rfl, rfl⟩

theorem is_int_ref {M : Model} {A : Around} {E : Value → Shared → Prop} {s : Shared} {Q : Value → Shared → Prop} {i : Int} {t : Nat} {a : Addr} (h : Q (.bool false) s) : wpAny M A (compareOp .Is (.int i t) (.ref a)) Q E s :=
  wpAny_bind (wpAny_pure (wpAny_pure h))

theorem split_list_call {w : World} {prog : Program} {dp un : Nat} {fr : Option (List Env)} {gd : Option (List Code)} {s : Shared} {Q : Value → Shared → Prop} {E : Value → Shared → Prop} {h₀ : Heap} {L : Addr} {m : Str → Option Value} {news : List (Addr × Obj)} {v tail : Value} {xs : List Value}
    (B : Base w h₀) (F : Fr h₀ L s.heap m) (N : News h₀ L s.heap news) (hd : dp ≤ 800) (ht : tail = .ref 57 ∨ ∃ t, tail = .int 7 t) (hl : LstAt (At h₀) tail v xs) (hz : xs.length ≤ 1000) (hxs : ∀ x ∈ xs, handedIn x = true)
    (hQ : ∀ tp lt h' tk n1 n2, Fr h₀ L h' m → News h₀ L h' ((tp, { cls := .type "tuple", data := .seq #[.ref lt, tail] n1 }) :: (lt, listOf xs.toArray n2) :: news) → Q (.ref tp) { s with heap := h', toks := tk }) :
    wpAny (model prog w) (Ar dp fr gd un) (call (.ref 94) [v]) Q E s :=
  split_list_spec (B.keeps F.keep) hd ht (hl.mono F.keep) hz hxs fun _ _ _ _ _ _ k e1 e2 g1 g2 => hQ _ _ _ _ _ _ (fr_kept F k) (news_new F e1 g1 (news_new F e2 g2 (news_kept N k)))

set_option maxHeartbeats 4000000 in
theorem items_of_spec {w : World} {prog : Program} {dp un : Nat} {fr : Option (List Env)} {gd : Option (List Code)} {s : Shared} {Q : Value → Shared → Prop} {E : Value → Shared → Prop} {v tail : Value} {xs : List Value}
    (B : Base w s.heap) (hd : dp ≤ 790) (ht : tail = .ref 57 ∨ ∃ t, tail = .int 7 t) (hl : LstAt (At s.heap) tail v xs) (hz : xs.length ≤ 1000) (hxs : ∀ x ∈ xs, handedIn x = true)
    (hQ : tail = .ref 57 → ∀ lt h' tk n2, Kept s.heap h' → s.heap.get? lt = none → h'.get? lt = some (listOf xs.toArray n2) → Q (.ref lt) { s with heap := h', toks := tk })
    (hQ' : (∃ t, tail = .int 7 t) → ∀ h' tk, Kept s.heap h' → Q .none { s with heap := h', toks := tk }) :
    wpAny (model prog w) (Ar dp fr gd un) (call (.ref 101) [v]) Q E s := by
  have X := B.X
  obtain ⟨p, loose, mean, mg, mb, T⟩ := B.T
  k_dflt (refine' enter [(Str.ofString "datum", v)] X T.nolimit ?k6 ?k7 ?k8 ?k9 ?kB ?c2 ?c3 ?c4 ?c5 ?_)
  ((k_dflt ((case k6 => k_is); (case k7 => k_is); (case k8 => k_room); (case k9 => first | exact BindsTo.of_eq rfl | exact binds_K (by k_in) rfl (by k_is) rfl rfl rfl); (case kB => exact locs rfl); (case c2 => exact rfl); (case c3 => exact rfl); (case c4 => exact rfl); (case c5 => decide))))
  intro L' h₁ tk F N
  rcases id ht with rfl | ⟨t, rfl⟩
  · (repeat' (first | (k_unfold; (try dsimp only)) | ((( (fail_if_success (with_reducible show wpAny _ _ (pyIter _) _ _ _)); (fail_if_success (with_reducible show wpAny _ _ (exec (Stmt.While _ _ _ _) _) _ _ _)))); (( (fail_if_success (with_reducible show wpAny _ _ (eval (Expr.ListComp _ _ _ _) _) _ _ _)); (fail_if_success (with_reducible show wpAny _ _ (exec (Stmt.Assign _ (Expr.ListComp _ _ _ _) _) _) _ _ _)); (fail_if_success (with_reducible show LCg.CompSrc _ _ _ _ _ _ _ _ _ _ _ _ _ _)))); first | (first | ((with_reducible show wpAny _ _ (execs (_ :: _) _) _ _ _); (k_here; (with_reducible refine gen_toks ?_); intro zztk)) | ((with_reducible show wpAny _ _ (execs [] _) _ _ _); (k_here; (with_reducible refine gen_toks ?_); intro zztk)) | ((with_reducible show wpAny _ _ (execs (_ :: _) _) _ _ _); (k_here; (with_reducible refine wpAny_execs_cons ?_); (try dsimp only); k_fold)) | (((with_reducible show wpAny _ _ (call (Value.ref 94) [_]) _ _ _); k_dflt (refine' split_list_call (by assumption) (by k_asm) (by k_asm) (by k_room) (by assumption) (by assumption) (by assumption) (by assumption) ?_; k_whole); intro zztp' zzlt' zzh' zztk' zzn1' zzn2' zzF' zzN'; (try k_sweep))) | ((with_reducible show wpAny _ _ (compareOp CmpOp.Is (Value.int _ _) (Value.ref _)) _ _ _); refine is_int_ref ?_) | walk1) | (dsimp only; (first | ((with_reducible show wpAny _ _ (execs (_ :: _) _) _ _ _); (k_here; (with_reducible refine gen_toks ?_); intro zztk)) | ((with_reducible show wpAny _ _ (execs [] _) _ _ _); (k_here; (with_reducible refine gen_toks ?_); intro zztk)) | ((with_reducible show wpAny _ _ (execs (_ :: _) _) _ _ _); (k_here; (with_reducible refine wpAny_execs_cons ?_); (try dsimp only); k_fold)) | (((with_reducible show wpAny _ _ (call (Value.ref 94) [_]) _ _ _); k_dflt (refine' split_list_call (by assumption) (by k_asm) (by k_asm) (by k_room) (by assumption) (by assumption) (by assumption) (by assumption) ?_; k_whole); intro zztp' zzlt' zzh' zztk' zzn1' zzn2' zzF' zzN'; (try k_sweep))) | ((with_reducible show wpAny _ _ (compareOp CmpOp.Is (Value.int _ _) (Value.ref _)) _ _ _); refine is_int_ref ?_) | walk1))) | fail "no step"))
    (rename Fr _ _ _ _ => FF); (rename News _ _ _ _ => NN)
    exact hQ rfl _ _ _ _ FF.keep (NN _ (.tail _ (.head _))).2.2 (NN _ (.tail _ (.head _))).1
  · (repeat' (first | (k_unfold; (try dsimp only)) | ((( (fail_if_success (with_reducible show wpAny _ _ (pyIter _) _ _ _)); (fail_if_success (with_reducible show wpAny _ _ (exec (Stmt.While _ _ _ _) _) _ _ _)))); (( (fail_if_success (with_reducible show wpAny _ _ (eval (Expr.ListComp _ _ _ _) _) _ _ _)); (fail_if_success (with_reducible show wpAny _ _ (exec (Stmt.Assign _ (Expr.ListComp _ _ _ _) _) _) _ _ _)); (fail_if_success (with_reducible show LCg.CompSrc _ _ _ _ _ _ _ _ _ _ _ _ _ _)))); first | (first | ((with_reducible show wpAny _ _ (execs (_ :: _) _) _ _ _); (k_here; (with_reducible refine gen_toks ?_); intro zztk)) | ((with_reducible show wpAny _ _ (execs [] _) _ _ _); (k_here; (with_reducible refine gen_toks ?_); intro zztk)) | ((with_reducible show wpAny _ _ (execs (_ :: _) _) _ _ _); (k_here; (with_reducible refine wpAny_execs_cons ?_); (try dsimp only); k_fold)) | (((with_reducible show wpAny _ _ (call (Value.ref 94) [_]) _ _ _); k_dflt (refine' split_list_call (by assumption) (by k_asm) (by k_asm) (by k_room) (by assumption) (by assumption) (by assumption) (by assumption) ?_; k_whole); intro zztp' zzlt' zzh' zztk' zzn1' zzn2' zzF' zzN'; (try k_sweep))) | ((with_reducible show wpAny _ _ (compareOp CmpOp.Is (Value.int _ _) (Value.ref _)) _ _ _); refine is_int_ref ?_) | walk1) | (dsimp only; (first | ((with_reducible show wpAny _ _ (execs (_ :: _) _) _ _ _); (k_here; (with_reducible refine gen_toks ?_); intro zztk)) | ((with_reducible show wpAny _ _ (execs [] _) _ _ _); (k_here; (with_reducible refine gen_toks ?_); intro zztk)) | ((with_reducible show wpAny _ _ (execs (_ :: _) _) _ _ _); (k_here; (with_reducible refine wpAny_execs_cons ?_); (try dsimp only); k_fold)) | (((with_reducible show wpAny _ _ (call (Value.ref 94) [_]) _ _ _); k_dflt (refine' split_list_call (by assumption) (by k_asm) (by k_asm) (by k_room) (by assumption) (by assumption) (by assumption) (by assumption) ?_; k_whole); intro zztp' zzlt' zzh' zztk' zzn1' zzn2' zzF' zzN'; (try k_sweep))) | ((with_reducible show wpAny _ _ (compareOp CmpOp.Is (Value.int _ _) (Value.ref _)) _ _ _); refine is_int_ref ?_) | walk1))) | fail "no step"))
    (rename Fr _ _ _ _ => FF)
    exact hQ' ⟨_, rfl⟩ _ _ FF.keep

theorem zz_reset_NpDraw : True := by
  w_top off
  exact trivial
open PySem PySem.W PyProof.Rows PySem.Calls
theorem seed_frag_draw : hd.heap_39 = hd.heap_39 ∧ PySem.Challenge.rw_np0012_01 = PySem.Challenge.rw_np0012_01 := by
  k_fill
  exact ⟨rfl, rfl⟩

theorem pop0 {prog : Program} {w : World} {A : Around} {E : Value → Shared → Prop} {s : Shared} {h₀ : Heap} {L D : Addr} {m : Str → Option Value} {news news' : List (Addr × Obj)} {n : Nat} {u : Tok} {q : List Value} {y : Value} {Q : Value → Shared → Prop}
    (F : Fr h₀ L s.heap m) (N : News h₀ L s.heap news) (U : Upd D (listOf (y :: q).toArray n) (listOf q.toArray (n + 1)) news news') (hz : (y :: q).length ≤ 1000) (h : ∀ h', Fr h₀ L h' m → News h₀ L h' news' → Q y { s with heap := h' }) :
    wpAny (model prog w) A (call (.builtin "list.pop") [.ref D, .int 0 u]) Q E s :=
  kl_popAt (k := 0) (p := []) (q := q) F N (by decide) (by unfold seqIndex?; simp) rfl U (by rw [sizeLine_eq]; simp only [List.length_cons] at hz ⊢; omega) h

theorem fmod_in (a : Int) {k : Int} (h : 0 < k) : 0 ≤ Int.fmod a k ∧ Int.fmod a k < k := by
  rw [Int.fmod_eq_emod_of_nonneg _ (Int.le_of_lt h)]
  exact ⟨Int.emod_nonneg _ (by omega), Int.emod_lt_of_pos _ h⟩
theorem fdiv_in {a k : Int} (h : 0 < k) (ha : 0 ≤ a) : 0 ≤ Int.fdiv a k ∧ Int.fdiv a k ≤ a := by
  rw [Int.fdiv_eq_ediv_of_nonneg _ (Int.le_of_lt h)]
  exact ⟨Int.ediv_nonneg ha (Int.le_of_lt h), Int.ediv_le_self _ ha⟩

set_option maxHeartbeats 4000000 in
theorem draw_spec {w : World} {prog : Program} {dp un : Nat} {fr : Option (List Env)} {gd : Option (List Code)} {s : Shared} {Q : Value → Shared → Prop} {E : Value → Shared → Prop} {h₀ : Heap} {L : Addr} {m : Str → Option Value} {dk ca sa : Addr} {n0 n n2 : Nat} {vs : List Value} {ns : List Int} {i k : Int} {t tk : Nat}
    (B : Base w h₀) (F : Fr h₀ L s.heap m) (N : News h₀ L s.heap [(ca, listOf vs.toArray n), (sa, listOf [Value.int i t].toArray n2), (dk, listOf [Value.ref ca, Value.ref sa].toArray n0)]) (hd : dp ≤ 800) (hu : un ≤ 5000) (hcs : @Ne Nat ca sa) (hdc : @Ne Nat dk ca) (hds : @Ne Nat dk sa)
    (hi : IntsAre vs ns) (hns : ∀ x ∈ ns, 0 ≤ x ∧ x < 10 ^ 24) (hi0 : 0 ≤ i ∧ i < 1100000) (hz : vs.length ≤ 10) (hk : 0 < k ∧ k ≤ 10)
    (hQ : ∀ r t' vs' ns' n' i' ti n2' h' tk, 0 ≤ r → r < k → IntsAre vs' ns' → (∀ x ∈ ns', 0 ≤ x ∧ x < 10 ^ 24) → 0 ≤ i' ∧ i' < 1100000 → vs'.length ≤ 10 → Fr h₀ L h' m → (∀ b o, s.heap.get? b = some o → b ≠ ca → b ≠ sa → h'.get? b = some o) → News h₀ L h' [(ca, listOf vs'.toArray n'), (sa, listOf [Value.int i' ti].toArray n2'), (dk, listOf [Value.ref ca, Value.ref sa].toArray n0)] → Q (.int r t') { s with heap := h', toks := tk }) :
    wpAny (model prog w) (Ar dp fr gd un) (call (.ref 167) [.ref dk, .int k tk]) Q E s := by
  have hX := B.keeps F.keep
  refine wpAny_call ?_
  k_dflt (refine' enterC [(Str.ofString "deck", .ref dk), (Str.ofString "many", .int k tk)] [(ca, listOf vs.toArray n), (sa, listOf [Value.int i t].toArray n2), (dk, listOf [Value.ref ca, Value.ref sa].toArray n0)] (fun p hp => (N p hp).1) hX.X hX.lim ?k6 ?k7 ?k8 ?k9 ?kB ?c2 ?c3 ?c4 ?c5 ?_)
  ((k_dflt ((case k6 => k_is); (case k7 => k_is); (case k8 => k_room); (case k9 => first | exact BindsTo.of_eq rfl | exact binds_K (by k_in) rfl (by k_is) rfl rfl rfl); (case kB => exact locs rfl); (case c2 => exact rfl); (case c3 => exact rfl); (case c4 => exact rfl); (case c5 => decide))))
  intro g L' h₁ tk₁ H hlt F₁ N₁
  have Bg := H.base B F N
  have X := Bg.X
  obtain ⟨p, loose, mean, mg, mb, T⟩ := Bg.T
  have hback : ∀ h'', Kept g h'' → Fr h₀ L h'' m := fun h'' k => H.back F N k
  have hrest : ∀ h'', Kept g h'' → h''.get? dk = some (listOf [Value.ref ca, Value.ref sa].toArray n0) → ∀ b o, s.heap.get? b = some o → b ≠ ca → b ≠ sa → h''.get? b = some o := by
    intro h'' k hdk b o e e1 e2
    by_cases e3 : b = dk
    · subst e3; rw [hdk, ← e]; exact ((N _ (.tail _ (.tail _ (.head _)))).1).symm
    · exact k _ _ (H.to _ _ e (by simp only [List.map_cons, List.map_nil, List.mem_cons, List.not_mem_nil, or_false]; rintro (q | q | q) <;> contradiction))
  have hnew : ∀ h'' o1 o2, h''.get? ca = some o1 → h''.get? sa = some o2 → h''.get? dk = some (listOf [Value.ref ca, Value.ref sa].toArray n0) → News h₀ L h'' [(ca, o1), (sa, o2), (dk, listOf [Value.ref ca, Value.ref sa].toArray n0)] := fun h'' o1 o2 a1 a2 a3 =>
    List.forall_mem_cons.mpr ⟨⟨a1, (N _ (.head _)).2⟩, List.forall_mem_cons.mpr ⟨⟨a2, (N _ (.tail _ (.head _))).2⟩, List.forall_mem_cons.mpr ⟨⟨a3, (N _ (.tail _ (.tail _ (.head _)))).2⟩, News.nil⟩⟩⟩
  clear hX
  (repeat' (first | (k_unfold; (try dsimp only)) | ((( (fail_if_success (with_reducible show wpAny _ _ (pyIter _) _ _ _)); (fail_if_success (with_reducible show wpAny _ _ (exec (Stmt.While _ _ _ _) _) _ _ _)))); (( (fail_if_success (with_reducible show wpAny _ _ (eval (Expr.ListComp _ _ _ _) _) _ _ _)); (fail_if_success (with_reducible show wpAny _ _ (exec (Stmt.Assign _ (Expr.ListComp _ _ _ _) _) _) _ _ _)); (fail_if_success (with_reducible show LCg.CompSrc _ _ _ _ _ _ _ _ _ _ _ _ _ _)))); first | (first | ((with_reducible show wpAny _ _ (execs [] _) _ _ _); (k_here; (with_reducible refine gen_toks ?_); intro zztk)) | ((with_reducible show wpAny _ _ (execs (_ :: _) _) _ _ _); (k_here; (with_reducible refine gen_toks ?_); intro zztk)) | ((with_reducible show wpAny _ _ (execs (_ :: _) _) _ _ _); (k_here; (with_reducible refine wpAny_execs_cons ?_); (try dsimp only); k_fold)) | ((with_reducible show wpAny _ _ (call (Value.builtin "list.pop") _) _ _ _); (k_here; k_dflt (refine' pop0 (by k_asm) (by k_asm) (by k_upd) (by (simp only [List.length_cons] at *; omega)) ?_); intro zzh' zzF' zzN'; (try k_sweep))) | ((k_here; (with_reducible show wpAny _ _ (setItem (Value.ref _) (Value.int _ _) (Value.int _ _)) _ _ _); k_dflt (refine' ksa_set (by k_asm) (by k_asm) (by k_upd) (by (first | with_reducible assumption | exact IntsAre.nil | exact IntsAre.cons _ _ (by first | with_reducible assumption | exact IntsAre.nil | exact IntsAre.cons _ _ (by first | with_reducible assumption | exact IntsAre.nil)))) (by (first | decide | omega | (simp only [List.length_cons, List.length_nil]; omega))) (by (first | decide | omega | (simp only [List.length_cons, List.length_nil]; omega))) (by (first | decide | omega | (simp only [List.length_cons, List.length_nil]; omega))) ?_; k_whole); intro zzh' zzF' zzN' zzhi' zzhl' zzhs'; (try k_sweep))) | (((with_reducible show wpAny _ _ (compareOp CmpOp.NotEq (Value.ref _) (Value.ref _)) _ _ _); (k_dflt (refine' ne_intsK (by is_list) (by (first | with_reducible assumption | exact IntsAre.nil | exact IntsAre.cons _ _ (by first | with_reducible assumption | exact IntsAre.nil | exact IntsAre.cons _ _ (by first | with_reducible assumption | exact IntsAre.nil)))) (by is_list) (by (first | with_reducible assumption | exact IntsAre.nil | exact IntsAre.cons _ _ (by first | with_reducible assumption | exact IntsAre.nil | exact IntsAre.cons _ _ (by first | with_reducible assumption | exact IntsAre.nil)))) (by ((have zzhcL := cLine_is; (try simp only [units_under_make, units_in1, units_deeper, Around.mark_units, units_caller]); (try dsimp only [Ar]); omega))) ?_; k_whole)); (try simp only [reduceCtorEq, decide_false, decide_true, Bool.not_true, Bool.not_false]))) | walk1) | (dsimp only; (first | ((with_reducible show wpAny _ _ (execs [] _) _ _ _); (k_here; (with_reducible refine gen_toks ?_); intro zztk)) | ((with_reducible show wpAny _ _ (execs (_ :: _) _) _ _ _); (k_here; (with_reducible refine gen_toks ?_); intro zztk)) | ((with_reducible show wpAny _ _ (execs (_ :: _) _) _ _ _); (k_here; (with_reducible refine wpAny_execs_cons ?_); (try dsimp only); k_fold)) | ((with_reducible show wpAny _ _ (call (Value.builtin "list.pop") _) _ _ _); (k_here; k_dflt (refine' pop0 (by k_asm) (by k_asm) (by k_upd) (by (simp only [List.length_cons] at *; omega)) ?_); intro zzh' zzF' zzN'; (try k_sweep))) | ((k_here; (with_reducible show wpAny _ _ (setItem (Value.ref _) (Value.int _ _) (Value.int _ _)) _ _ _); k_dflt (refine' ksa_set (by k_asm) (by k_asm) (by k_upd) (by (first | with_reducible assumption | exact IntsAre.nil | exact IntsAre.cons _ _ (by first | with_reducible assumption | exact IntsAre.nil | exact IntsAre.cons _ _ (by first | with_reducible assumption | exact IntsAre.nil)))) (by (first | decide | omega | (simp only [List.length_cons, List.length_nil]; omega))) (by (first | decide | omega | (simp only [List.length_cons, List.length_nil]; omega))) (by (first | decide | omega | (simp only [List.length_cons, List.length_nil]; omega))) ?_; k_whole); intro zzh' zzF' zzN' zzhi' zzhl' zzhs'; (try k_sweep))) | (((with_reducible show wpAny _ _ (compareOp CmpOp.NotEq (Value.ref _) (Value.ref _)) _ _ _); (k_dflt (refine' ne_intsK (by is_list) (by (first | with_reducible assumption | exact IntsAre.nil | exact IntsAre.cons _ _ (by first | with_reducible assumption | exact IntsAre.nil | exact IntsAre.cons _ _ (by first | with_reducible assumption | exact IntsAre.nil)))) (by is_list) (by (first | with_reducible assumption | exact IntsAre.nil | exact IntsAre.cons _ _ (by first | with_reducible assumption | exact IntsAre.nil | exact IntsAre.cons _ _ (by first | with_reducible assumption | exact IntsAre.nil)))) (by ((have zzhcL := cLine_is; (try simp only [units_under_make, units_in1, units_deeper, Around.mark_units, units_caller]); (try dsimp only [Ar]); omega))) ?_; k_whole)); (try simp only [reduceCtorEq, decide_false, decide_true, Bool.not_true, Bool.not_false]))) | walk1))) | fail "no step"))
  (rename Fr _ _ _ _ => F2); (rename News _ _ _ _ => N2)
  refine While_inv (fun n m news => ∃ vs ns c i t c2, n = vs.length ∧ IntsAre vs ns ∧ (∀ x ∈ ns, 0 ≤ x ∧ x < 10 ^ 24) ∧ (0 ≤ i ∧ i < 1100000) ∧ vs.length ≤ 10 ∧ news = [(ca, listOf vs.toArray c), (sa, listOf [Value.int i t].toArray c2), (dk, listOf [Value.ref ca, Value.ref sa].toArray n0)] ∧ m (Str.ofString "cells_own") = some (.ref ca) ∧ m (Str.ofString "seed") = some (.ref sa) ∧ m (Str.ofString "many") = some (.int k tk)) F2 N2
    ⟨_, _, _, _, _, _, rfl, hi, hns, hi0, hz, rfl, rfl, rfl, rfl⟩ ?_
  rintro n₁ m₁ news₁ h₂ tk₂ F₃ N₃ ⟨vs, ns, c, i, t, c2, hn, hi, hns, hi0, hz, rfl, e1, e2, e3⟩
  have F₄ := fr_know (fr_know (fr_know F₃ (a := Str.ofString "cells_own") (x := .ref ca) e1) (a := Str.ofString "seed") (x := .ref sa) e2) (a := Str.ofString "many") (x := .int k tk) e3
  clear F₃ F2 N2
  cases hi with
  | nil =>
    (repeat' (first | (k_unfold; (try dsimp only)) | ((( (fail_if_success (with_reducible show wpAny _ _ (pyIter _) _ _ _)); (fail_if_success (with_reducible show wpAny _ _ (exec (Stmt.While _ _ _ _) _) _ _ _)))); (( (fail_if_success (with_reducible show wpAny _ _ (eval (Expr.ListComp _ _ _ _) _) _ _ _)); (fail_if_success (with_reducible show wpAny _ _ (exec (Stmt.Assign _ (Expr.ListComp _ _ _ _) _) _) _ _ _)); (fail_if_success (with_reducible show LCg.CompSrc _ _ _ _ _ _ _ _ _ _ _ _ _ _)))); first | (first | ((with_reducible show wpAny _ _ (execs [] _) _ _ _); (k_here; (with_reducible refine gen_toks ?_); intro zztk)) | ((with_reducible show wpAny _ _ (execs (_ :: _) _) _ _ _); (k_here; (with_reducible refine gen_toks ?_); intro zztk)) | ((with_reducible show wpAny _ _ (execs (_ :: _) _) _ _ _); (k_here; (with_reducible refine wpAny_execs_cons ?_); (try dsimp only); k_fold)) | ((with_reducible show wpAny _ _ (call (Value.builtin "list.pop") _) _ _ _); (k_here; k_dflt (refine' pop0 (by k_asm) (by k_asm) (by k_upd) (by (simp only [List.length_cons] at *; omega)) ?_); intro zzh' zzF' zzN'; (try k_sweep))) | ((k_here; (with_reducible show wpAny _ _ (setItem (Value.ref _) (Value.int _ _) (Value.int _ _)) _ _ _); k_dflt (refine' ksa_set (by k_asm) (by k_asm) (by k_upd) (by (first | with_reducible assumption | exact IntsAre.nil | exact IntsAre.cons _ _ (by first | with_reducible assumption | exact IntsAre.nil | exact IntsAre.cons _ _ (by first | with_reducible assumption | exact IntsAre.nil)))) (by (first | decide | omega | (simp only [List.length_cons, List.length_nil]; omega))) (by (first | decide | omega | (simp only [List.length_cons, List.length_nil]; omega))) (by (first | decide | omega | (simp only [List.length_cons, List.length_nil]; omega))) ?_; k_whole); intro zzh' zzF' zzN' zzhi' zzhl' zzhs'; (try k_sweep))) | (((with_reducible show wpAny _ _ (compareOp CmpOp.NotEq (Value.ref _) (Value.ref _)) _ _ _); (k_dflt (refine' ne_intsK (by is_list) (by (first | with_reducible assumption | exact IntsAre.nil | exact IntsAre.cons _ _ (by first | with_reducible assumption | exact IntsAre.nil | exact IntsAre.cons _ _ (by first | with_reducible assumption | exact IntsAre.nil)))) (by is_list) (by (first | with_reducible assumption | exact IntsAre.nil | exact IntsAre.cons _ _ (by first | with_reducible assumption | exact IntsAre.nil | exact IntsAre.cons _ _ (by first | with_reducible assumption | exact IntsAre.nil)))) (by ((have zzhcL := cLine_is; (try simp only [units_under_make, units_in1, units_deeper, Around.mark_units, units_caller]); (try dsimp only [Ar]); omega))) ?_; k_whole)); (try simp only [reduceCtorEq, decide_false, decide_true, Bool.not_true, Bool.not_false]))) | walk1) | (dsimp only; (first | ((with_reducible show wpAny _ _ (execs [] _) _ _ _); (k_here; (with_reducible refine gen_toks ?_); intro zztk)) | ((with_reducible show wpAny _ _ (execs (_ :: _) _) _ _ _); (k_here; (with_reducible refine gen_toks ?_); intro zztk)) | ((with_reducible show wpAny _ _ (execs (_ :: _) _) _ _ _); (k_here; (with_reducible refine wpAny_execs_cons ?_); (try dsimp only); k_fold)) | ((with_reducible show wpAny _ _ (call (Value.builtin "list.pop") _) _ _ _); (k_here; k_dflt (refine' pop0 (by k_asm) (by k_asm) (by k_upd) (by (simp only [List.length_cons] at *; omega)) ?_); intro zzh' zzF' zzN'; (try k_sweep))) | ((k_here; (with_reducible show wpAny _ _ (setItem (Value.ref _) (Value.int _ _) (Value.int _ _)) _ _ _); k_dflt (refine' ksa_set (by k_asm) (by k_asm) (by k_upd) (by (first | with_reducible assumption | exact IntsAre.nil | exact IntsAre.cons _ _ (by first | with_reducible assumption | exact IntsAre.nil | exact IntsAre.cons _ _ (by first | with_reducible assumption | exact IntsAre.nil)))) (by (first | decide | omega | (simp only [List.length_cons, List.length_nil]; omega))) (by (first | decide | omega | (simp only [List.length_cons, List.length_nil]; omega))) (by (first | decide | omega | (simp only [List.length_cons, List.length_nil]; omega))) ?_; k_whole); intro zzh' zzF' zzN' zzhi' zzhl' zzhs'; (try k_sweep))) | (((with_reducible show wpAny _ _ (compareOp CmpOp.NotEq (Value.ref _) (Value.ref _)) _ _ _); (k_dflt (refine' ne_intsK (by is_list) (by (first | with_reducible assumption | exact IntsAre.nil | exact IntsAre.cons _ _ (by first | with_reducible assumption | exact IntsAre.nil | exact IntsAre.cons _ _ (by first | with_reducible assumption | exact IntsAre.nil)))) (by is_list) (by (first | with_reducible assumption | exact IntsAre.nil | exact IntsAre.cons _ _ (by first | with_reducible assumption | exact IntsAre.nil | exact IntsAre.cons _ _ (by first | with_reducible assumption | exact IntsAre.nil)))) (by ((have zzhcL := cLine_is; (try simp only [units_under_make, units_in1, units_deeper, Around.mark_units, units_caller]); (try dsimp only [Ar]); omega))) ?_; k_whole)); (try simp only [reduceCtorEq, decide_false, decide_true, Bool.not_true, Bool.not_false]))) | walk1))) | fail "no step"))
    (rename Fr _ _ _ _ => FF); (rename News _ _ _ _ => NN)
    have a1 := (NN _ (.tail _ (.tail _ (.head _)))).1
    have a2 := (NN _ (.tail _ (.tail _ (.tail _ (.head _))))).1
    have a3 := (NN _ (.tail _ (.tail _ (.tail _ (.tail _ (.head _)))))).1
    have q := fmod_in (i * i + 3 * i + 7919) (k := 1000003) (by decide)
    have r := fun z => fmod_in z hk.1
    exact hQ _ _ [] [] _ _ _ _ _ _ (r _).1 (r _).2 .nil (fun x hx => nomatch hx) ⟨q.1, Int.lt_trans q.2 (by decide)⟩ (Nat.zero_le _) (hback _ FF.keep) (hrest _ FF.keep a3) (hnew _ _ _ a1 a2 a3)
  | cons x tx hi =>
    have hx0 := hns x (.head _)
    (repeat' (first | (k_unfold; (try dsimp only)) | ((( (fail_if_success (with_reducible show wpAny _ _ (pyIter _) _ _ _)); (fail_if_success (with_reducible show wpAny _ _ (exec (Stmt.While _ _ _ _) _) _ _ _)))); (( (fail_if_success (with_reducible show wpAny _ _ (eval (Expr.ListComp _ _ _ _) _) _ _ _)); (fail_if_success (with_reducible show wpAny _ _ (exec (Stmt.Assign _ (Expr.ListComp _ _ _ _) _) _) _ _ _)); (fail_if_success (with_reducible show LCg.CompSrc _ _ _ _ _ _ _ _ _ _ _ _ _ _)))); first | (first | ((with_reducible show wpAny _ _ (execs [] _) _ _ _); (k_here; (with_reducible refine gen_toks ?_); intro zztk)) | ((with_reducible show wpAny _ _ (execs (_ :: _) _) _ _ _); (k_here; (with_reducible refine gen_toks ?_); intro zztk)) | ((with_reducible show wpAny _ _ (execs (_ :: _) _) _ _ _); (k_here; (with_reducible refine wpAny_execs_cons ?_); (try dsimp only); k_fold)) | ((with_reducible show wpAny _ _ (call (Value.builtin "list.pop") _) _ _ _); (k_here; k_dflt (refine' pop0 (by k_asm) (by k_asm) (by k_upd) (by (simp only [List.length_cons] at *; omega)) ?_); intro zzh' zzF' zzN'; (try k_sweep))) | ((k_here; (with_reducible show wpAny _ _ (setItem (Value.ref _) (Value.int _ _) (Value.int _ _)) _ _ _); k_dflt (refine' ksa_set (by k_asm) (by k_asm) (by k_upd) (by (first | with_reducible assumption | exact IntsAre.nil | exact IntsAre.cons _ _ (by first | with_reducible assumption | exact IntsAre.nil | exact IntsAre.cons _ _ (by first | with_reducible assumption | exact IntsAre.nil)))) (by (first | decide | omega | (simp only [List.length_cons, List.length_nil]; omega))) (by (first | decide | omega | (simp only [List.length_cons, List.length_nil]; omega))) (by (first | decide | omega | (simp only [List.length_cons, List.length_nil]; omega))) ?_; k_whole); intro zzh' zzF' zzN' zzhi' zzhl' zzhs'; (try k_sweep))) | (((with_reducible show wpAny _ _ (compareOp CmpOp.NotEq (Value.ref _) (Value.ref _)) _ _ _); (k_dflt (refine' ne_intsK (by is_list) (by (first | with_reducible assumption | exact IntsAre.nil | exact IntsAre.cons _ _ (by first | with_reducible assumption | exact IntsAre.nil | exact IntsAre.cons _ _ (by first | with_reducible assumption | exact IntsAre.nil)))) (by is_list) (by (first | with_reducible assumption | exact IntsAre.nil | exact IntsAre.cons _ _ (by first | with_reducible assumption | exact IntsAre.nil | exact IntsAre.cons _ _ (by first | with_reducible assumption | exact IntsAre.nil)))) (by ((have zzhcL := cLine_is; (try simp only [units_under_make, units_in1, units_deeper, Around.mark_units, units_caller]); (try dsimp only [Ar]); omega))) ?_; k_whole)); (try simp only [reduceCtorEq, decide_false, decide_true, Bool.not_true, Bool.not_false]))) | walk1) | (dsimp only; (first | ((with_reducible show wpAny _ _ (execs [] _) _ _ _); (k_here; (with_reducible refine gen_toks ?_); intro zztk)) | ((with_reducible show wpAny _ _ (execs (_ :: _) _) _ _ _); (k_here; (with_reducible refine gen_toks ?_); intro zztk)) | ((with_reducible show wpAny _ _ (execs (_ :: _) _) _ _ _); (k_here; (with_reducible refine wpAny_execs_cons ?_); (try dsimp only); k_fold)) | ((with_reducible show wpAny _ _ (call (Value.builtin "list.pop") _) _ _ _); (k_here; k_dflt (refine' pop0 (by k_asm) (by k_asm) (by k_upd) (by (simp only [List.length_cons] at *; omega)) ?_); intro zzh' zzF' zzN'; (try k_sweep))) | ((k_here; (with_reducible show wpAny _ _ (setItem (Value.ref _) (Value.int _ _) (Value.int _ _)) _ _ _); k_dflt (refine' ksa_set (by k_asm) (by k_asm) (by k_upd) (by (first | with_reducible assumption | exact IntsAre.nil | exact IntsAre.cons _ _ (by first | with_reducible assumption | exact IntsAre.nil | exact IntsAre.cons _ _ (by first | with_reducible assumption | exact IntsAre.nil)))) (by (first | decide | omega | (simp only [List.length_cons, List.length_nil]; omega))) (by (first | decide | omega | (simp only [List.length_cons, List.length_nil]; omega))) (by (first | decide | omega | (simp only [List.length_cons, List.length_nil]; omega))) ?_; k_whole); intro zzh' zzF' zzN' zzhi' zzhl' zzhs'; (try k_sweep))) | (((with_reducible show wpAny _ _ (compareOp CmpOp.NotEq (Value.ref _) (Value.ref _)) _ _ _); (k_dflt (refine' ne_intsK (by is_list) (by (first | with_reducible assumption | exact IntsAre.nil | exact IntsAre.cons _ _ (by first | with_reducible assumption | exact IntsAre.nil | exact IntsAre.cons _ _ (by first | with_reducible assumption | exact IntsAre.nil)))) (by is_list) (by (first | with_reducible assumption | exact IntsAre.nil | exact IntsAre.cons _ _ (by first | with_reducible assumption | exact IntsAre.nil | exact IntsAre.cons _ _ (by first | with_reducible assumption | exact IntsAre.nil)))) (by ((have zzhcL := cLine_is; (try simp only [units_under_make, units_in1, units_deeper, Around.mark_units, units_caller]); (try dsimp only [Ar]); omega))) ?_; k_whole)); (try simp only [reduceCtorEq, decide_false, decide_true, Bool.not_true, Bool.not_false]))) | walk1))) | fail "no step"))
    · (rename Fr _ _ _ _ => FF); (rename News _ _ _ _ => NN)
      have q := fmod_in (i + x) (k := 1000003) (by decide)
      exact ⟨rfl, _, _, _, [(ca, _), (sa, _), (dk, _)], _, rfl, FF, news_sub NN (fun p hp => by
        simp only [List.mem_cons, List.not_mem_nil, or_false] at hp ⊢
        rcases hp with hp | hp | hp
        · exact .inr (.inl hp)
        · exact .inr (.inr (.inl hp))
        · exact .inr (.inr (.inr hp))), by rw [hn]; exact Nat.lt_succ_self _, _, _, _, _, _, _, rfl, hi, fun y hy => hns y (.tail _ hy), ⟨q.1, Int.lt_trans q.2 (by decide)⟩, Nat.le_of_succ_le hz, rfl, rfl, rfl, rfl⟩
    · (rename Fr _ _ _ _ => FF); (rename News _ _ _ _ => NN)
      have d := fdiv_in hk.1 hx0.1
      have r := fmod_in x hk.1
      have a1 := (NN _ (.tail _ (.tail _ (.head _)))).1
      have a2 := (NN _ (.tail _ (.tail _ (.tail _ (.head _))))).1
      have a3 := (NN _ (.tail _ (.tail _ (.tail _ (.tail _ (.head _)))))).1
      exact hQ _ _ (.int (Int.fdiv x k) _ :: _) (Int.fdiv x k :: _) _ _ _ _ _ _ r.1 r.2 (.cons _ _ hi) (by
        intro y hy
        rcases List.mem_cons.mp hy with rfl | hy
        · exact ⟨d.1, Int.lt_of_le_of_lt d.2 hx0.2⟩
        · exact hns y (.tail _ hy)) hi0 hz (hback _ FF.keep) (hrest _ FF.keep a3) (hnew _ _ _ a1 a2 a3)

theorem zz_reset_NpDeck : True := by
  w_top off
  exact trivial
open PySem PySem.W PyProof.Rows PySem.Calls
theorem seed_frag_deck : hd.heap_39 = hd.heap_39 ∧ PySem.Challenge.rw_np0012_01 = PySem.Challenge.rw_np0012_01 := by
  k_fill
  exact ⟨rfl, rfl⟩

set_option maxHeartbeats 4000000 in
theorem deck_spec {w : World} {prog : Program} {dp un : Nat} {fr : Option (List Env)} {gd : Option (List Code)} {s : Shared} {Q : Value → Shared → Prop} {E : Value → Shared → Prop} {sc : Addr} {vs : List Value} {ns : List Int}
    (B : Base w s.heap) (hd : dp ≤ 800) (hu : un ≤ 5000) (hl : s.heap.IsList sc vs.toArray) (hi : IntsAre vs ns) (hz : vs.length ≤ 63)
    (hQ : ∀ dk ca sa n0 n n2 us ms i t h' tk, Kept s.heap h' → s.heap.get? dk = none → s.heap.get? ca = none → s.heap.get? sa = none → @Ne Nat ca sa → @Ne Nat dk ca → @Ne Nat dk sa →
      h'.get? ca = some (listOf (List.toArray us) n) → h'.get? sa = some (listOf [Value.int i t].toArray n2) → h'.get? dk = some (listOf [Value.ref ca, Value.ref sa].toArray n0) → IntsAre us ms → (∀ x ∈ ms, 0 ≤ x ∧ x < 10 ^ 24) → 0 ≤ i ∧ i < 1100000 → us.length ≤ 10 → Q (.ref dk) { s with heap := h', toks := tk }) :
    wpAny (model prog w) (Ar dp fr gd un) (call (.ref 160) [.ref sc]) Q E s := by
  have X := B.X
  obtain ⟨p, loose, mean, mg, mb, T⟩ := B.T
  k_dflt (refine' enter [(Str.ofString "script", .ref sc)] X T.nolimit ?k6 ?k7 ?k8 ?k9 ?kB ?c2 ?c3 ?c4 ?c5 ?_)
  ((k_dflt ((case k6 => k_is); (case k7 => k_is); (case k8 => k_room); (case k9 => first | exact BindsTo.of_eq rfl | exact binds_K (by k_in) rfl (by k_is) rfl rfl rfl); (case kB => exact locs rfl); (case c2 => exact rfl); (case c3 => exact rfl); (case c4 => exact rfl); (case c5 => decide))))
  intro L' h₁ tk F N
  (repeat' (first | (k_unfold; (try dsimp only)) | ((( (fail_if_success (with_reducible show wpAny _ _ (pyIter _) _ _ _)); (fail_if_success (with_reducible show wpAny _ _ (exec (Stmt.While _ _ _ _) _) _ _ _)))); first | (first | ((with_reducible show wpAny _ _ (execs (_ :: _) _) _ _ _); (k_here; (with_reducible refine gen_toks ?_); intro zztk)) | ((with_reducible show wpAny _ _ (execs [] _) _ _ _); (k_here; (with_reducible refine gen_toks ?_); intro zztk)) | ((with_reducible show wpAny _ _ (execs (_ :: _) _) _ _ _); (k_here; (with_reducible refine wpAny_execs_cons ?_); (try dsimp only); k_fold)) | ((with_reducible show wpAny _ _ (call (Value.builtin "len") [_]) _ _ _); (k_dflt (refine' call_len_list (by is_list) (by (first | decide | (simp only [List.size_toArray]; omega) | (simp only [List.size_toArray, List.length_cons, List.length_append, List.length_map, List.length_nil, List.length_take, List.length_drop]; omega))) ?_))) | walk1) | (dsimp only; (first | ((with_reducible show wpAny _ _ (execs (_ :: _) _) _ _ _); (k_here; (with_reducible refine gen_toks ?_); intro zztk)) | ((with_reducible show wpAny _ _ (execs [] _) _ _ _); (k_here; (with_reducible refine gen_toks ?_); intro zztk)) | ((with_reducible show wpAny _ _ (execs (_ :: _) _) _ _ _); (k_here; (with_reducible refine wpAny_execs_cons ?_); (try dsimp only); k_fold)) | ((with_reducible show wpAny _ _ (call (Value.builtin "len") [_]) _ _ _); (k_dflt (refine' call_len_list (by is_list) (by (first | decide | (simp only [List.size_toArray]; omega) | (simp only [List.size_toArray, List.length_cons, List.length_append, List.length_map, List.length_nil, List.length_take, List.length_drop]; omega))) ?_))) | walk1))) | fail "no step"))
  (rename Fr _ _ _ _ => FF); (rename News _ _ _ _ => NN)
  (rename _ ∧ _ ∧ _ => l2); (rename _ ∧ _ => l3)
  have e1 := NN _ (.head _)
  have e2 := NN _ (.tail _ (.head _))
  have e3 := NN _ (.tail _ (.tail _ (.head _)))
  have lz := hi.length
  have q := fmod_in (List.sum (List.map (fun k' => Int.fmod (if k' < 0 then -k' else k') (10 ^ Int.toNat 24)) (List.take 10 ns))) (k := 1000003) (by decide)
  refine hQ _ _ _ _ _ _ _ _ _ _ _ _ FF.keep e1.2.2 e3.2.2 e2.2.2 (by omega) (by omega) (by omega) e3.1 e2.1 e1.1 (by assumption) ?_ ?_ ?_
  · intro x hx
    obtain ⟨y, _, rfl⟩ := List.mem_map.mp hx
    exact fmod_in _ (by decide)
  · simp only [List.size_toArray]; omega
  · simp only [List.length_map, List.length_take] at *; omega

theorem zz_reset_NpWords : True := by
  w_top off
  exact trivial
open PySem PySem.W PyProof.Rows PySem.Calls
theorem seed_frag_words : hd.heap_39 = hd.heap_39 ∧ PySem.Challenge.rw_np0012_01 = PySem.Challenge.rw_np0012_01 := by
  k_fill
  exact ⟨rfl, rfl⟩

section
variable {prog : Program} {w : World} {A : Around} {s : Shared}
theorem enterCC {R : Result → Shared → Prop} {K : Frag} {name qual : Str} {params : Arguments} {body : List Stmt} {scope : Scope} {dV kV doc pm cdv ct oc : Value} {an od : Option Addr} {osl : Array (Option Value)} {f : Addr} {args : List Value} (binds : List (Str × Value))
    (hid : List (Addr × Obj)) (hh : ∀ p ∈ hid, s.heap.get? p.1 = some p.2)
    (X : K.In s.heap) (hlim : s.heap.NoLimit)
    (ho : K.lookup f = some ⟨oc, od, .func (fnOf name qual params body scope dV kV doc pm an cdv ct), osl⟩) (hcd : codeIn K cdv qual = true) (hroom : A.depth < recursionLimit)
    (hbind : BindsTo s (fnOf name qual params body scope dV kV doc pm an cdv ct) ⟨args, []⟩ binds)
    (hkind : (binds.all fun y => scope.names.lookup y.1 == some .local || scope.names.lookup y.1 == some .cell) = true)
    (hnd : ((cellsFrom 0 scope.names []).map (·.1)).Nodup)
    (hco : scope.isCoroutine = false) (hgen : scope.isGenerator = false) (hk : scope.kind = .function)
    (h : ∀ g L' h₁ tk cells, Hides s.heap (hid.map (·.1)) g → (∀ b o, s.heap.get? b = some o → b < L') → Fr g L' h₁ (bindL (envOfC qual scope L' f cdv).kindOf binds fun _ => none) → News g L' h₁ (cells ++ hid) →
      CellsAre (bindC (envOfC qual scope L' f cdv).kindOf binds fun _ => none) (cellsFrom (L' + 1) scope.names []) cells →
      wpAny (model prog w) (A.deeper (envOfC qual scope L' f cdv)) (execs body (envOfC qual scope L' f cdv))
        (fun fl s' => R (.ok (.ret (match fl with | .ret v => v | _ => .none))) s')
        (fun _ _ => False)
        { s with heap := h₁, toks := tk }) : codeAny (model prog w) A (.call (.ref f) ⟨args, []⟩) R s := by
  refine codeAny_call_function hroom (X _ _ ho) rfl hco hgen rfl (codeRec_of X hcd) (hbind _ _ _ _ ?_)
  refine wpAny_newFunctionEnv_cells hk (kindsX hkind _) fun env' he s' x => ?_
  subst he
  refine ⟨hlim.keeps x.toInCall.keep, codeAny_func ?_⟩
  obtain ⟨h₁, tk, rfl, _⟩ := x.done
  have hk₁ := x.toInCall.keep
  obtain ⟨cells, NC, Y⟩ := Cl.news (h₀ := s.heap) (Nat.le_refl _) fun n c hm => ⟨x.cell n c (lookup_of_mem_nodup (cellsFrom_names scope.names 0 (s.heap.objs.size + 1) [] [] rfl ▸ hnd) hm), x.above n c hm⟩
  refine wpAny_mono (h (hideAll s.heap (hid.map (·.1))) s.heap.objs.size h₁ tk cells ⟨fun b o e hb => hideAll_get _ e hb, fun b o e => of_hideAll _ e, fun b hb => hideAll_none _ hb⟩ (fun b o e => Heap.lt_size e) ⟨x.toInCall.ns, fun b o e => hk₁ b o (of_hideAll _ e), Nat.le_of_eq (hideAll_size _ _)⟩ (fun p hp => ?_) Y) (fun fl s' q => by exact q) fun _ _ x => x.elim
  rcases List.mem_append.mp hp with hp | hp
  · refine ⟨(NC p hp).1, (NC p hp).2.1, ?_⟩
    cases q : (hideAll s.heap (hid.map (·.1))).get? p.1 with
    | none => rfl
    | some o => have := of_hideAll _ q; rw [(NC p hp).2.2] at this; cases this
  · exact ⟨hk₁ _ _ (hh p hp), Nat.ne_of_lt (Heap.lt_size (hh p hp)), hideAll_none _ (List.mem_map_of_mem hp)⟩
end

theorem updF_mem {d : Addr} {o o' : Obj} {l : List (Addr × Obj)} {g : Obj → List (Addr × Obj)} (U : UpdF d o l g) : ∀ p ∈ g o', p = (d, o') ∨ (p ∈ l ∧ p.1 ≠ d) := by
  obtain ⟨pre, post, rfl, e, h1, h2⟩ := U.split
  intro p hp
  rw [e] at hp
  rcases List.mem_append.mp hp with hp | hp
  · exact .inr ⟨List.mem_append_left _ hp, h1 p hp⟩
  · rcases List.mem_cons.mp hp with rfl | hp
    · exact .inl rfl
    · exact .inr ⟨List.mem_append_right _ (.tail _ hp), h2 p hp⟩
theorem updF_old {d : Addr} {o : Obj} {l : List (Addr × Obj)} {g : Obj → List (Addr × Obj)} (U : UpdF d o l g) : (d, o) ∈ l := by
  obtain ⟨pre, post, rfl, e, h1, h2⟩ := U.split
  simp

structure Deck (news : List (Addr × Obj)) (dk ca sa : Addr) : Prop where
  cells : ∃ vs ns n, (ca, listOf (List.toArray vs) n) ∈ news ∧ IntsAre vs ns ∧ (∀ x ∈ ns, 0 ≤ x ∧ x < 10 ^ 24) ∧ vs.length ≤ 10
  seed : ∃ i t n, (sa, listOf [Value.int i t].toArray n) ∈ news ∧ 0 ≤ i ∧ i < 1100000
  both : ∃ n, (dk, listOf [Value.ref ca, Value.ref sa].toArray n) ∈ news
  ne1 : @Ne Nat ca sa
  ne2 : @Ne Nat dk ca
  ne3 : @Ne Nat dk sa

theorem draw_call {w : World} {prog : Program} {dp un : Nat} {fr : Option (List Env)} {gd : Option (List Code)} {s : Shared} {Q : Value → Shared → Prop} {E : Value → Shared → Prop} {h₀ : Heap} {L : Addr} {m : Str → Option Value} {news : List (Addr × Obj)} {dk ca sa : Addr} {n0 n n2 : Nat} {vs : List Value} {ns : List Int} {i k : Int} {t tk : Nat} {g1 : Obj → List (Addr × Obj)} {g2 : Obj → Obj → List (Addr × Obj)}
    (B : Base w h₀) (F : Fr h₀ L s.heap m) (N : News h₀ L s.heap news) (hd : dp ≤ 800) (hu : un ≤ 5000)
    (md : (dk, listOf [Value.ref ca, Value.ref sa].toArray n0) ∈ news) (hi : IntsAre vs ns) (hns : ∀ x ∈ ns, 0 ≤ x ∧ x < 10 ^ 24) (hi0 : 0 ≤ i ∧ i < 1100000) (hz : vs.length ≤ 10)
    (U1 : UpdF ca (listOf vs.toArray n) news g1) (U2 : ∀ o, UpdF sa (listOf [Value.int i t].toArray n2) (g1 o) (g2 o))
    (hcs : @Ne Nat ca sa) (hdc : @Ne Nat dk ca) (hds : @Ne Nat dk sa) (hk : 0 < k ∧ k ≤ 10)
    (hQ : ∀ r t' vs' ns' n' i' ti n2' h' tk, 0 ≤ r → r < k → IntsAre vs' ns' → (∀ x ∈ ns', 0 ≤ x ∧ x < 10 ^ 24) → 0 ≤ i' ∧ i' < 1100000 → vs'.length ≤ 10 → Fr h₀ L h' m → News h₀ L h' (g2 (listOf vs'.toArray n') (listOf [Value.int i' ti].toArray n2')) → Q (.int r t') { s with heap := h', toks := tk }) :
    wpAny (model prog w) (Ar dp fr gd un) (call (.ref 167) [.ref dk, .int k tk]) Q E s := by
  have mc := updF_old U1
  have ms : (sa, listOf [Value.int i t].toArray n2) ∈ news := by
    rcases updF_mem U1 _ (updF_old (U2 (listOf vs.toArray n))) with e | e
    · exact absurd (congrArg Prod.fst e).symm hcs
    · exact e.1
  have N3 : News h₀ L s.heap [(ca, listOf vs.toArray n), (sa, listOf [Value.int i t].toArray n2), (dk, listOf [Value.ref ca, Value.ref sa].toArray n0)] := news_sub N (by
    intro p hp
    simp only [List.mem_cons, List.not_mem_nil, or_false] at hp
    rcases hp with rfl | rfl | rfl <;> assumption)
  refine draw_spec B F N3 hd hu hcs hdc hds hi hns hi0 hz hk fun r t' vs' ns' n' i' ti n2' h' tk a1 a2 a3 a4 a5 a6 F' kp N' => hQ r t' vs' ns' n' i' ti n2' h' tk a1 a2 a3 a4 a5 a6 F' ?_
  intro p hp
  rcases updF_mem (U2 _) p hp with rfl | ⟨hp, e1⟩
  · exact N' _ (.tail _ (.head _))
  · rcases updF_mem U1 p hp with rfl | ⟨hp, e2⟩
    · exact N' _ (.head _)
    · exact ⟨kp _ _ (N p hp).1 e2 e1, (N p hp).2⟩

section
variable {prog : Program} {w : World} {A : Around} {E : Value → Shared → Prop} {s : Shared} {h₀ : Heap} {L l : Addr} {m : Str → Option Value} {news : List (Addr × Obj)} {value slice : PySem.Expr} {vs : List Value} {vl vu : Value} {lo hi : Option Int} {Q : Value → Shared → Prop}
theorem slice_sub (F : Fr h₀ L s.heap m) (N : News h₀ L s.heap news) (hl : s.heap.IsList l vs.toArray) (pl : IsPart vl lo) (pu : IsPart vu hi)
    (h : ∀ D h' zs, Fr h₀ L h' m → News h₀ L h' ((D, listOf (List.toArray zs) 0) :: news) → (∀ p ∈ news, p.1 < D) → (∀ v ∈ zs, v ∈ vs) → zs.length ≤ vs.length → Q (.ref D) { s with heap := h' })
    (hs : subscripted slice false (.ref l) (.ref s.heap.objs.size) = operate [.ref s.heap.objs.size, .ref l] (getItem (.ref l) (.ref s.heap.objs.size))) (ht : ∀ r, letTemporaryGo value (.ref l) r = pure ()) (hz : vs.length ≤ 1000) :
    wpAny (model prog w) A (subscriptTail value slice (.ref l) (.ref s.heap.objs.size)) Q E { s with heap := s.heap.push { cls := .type "slice", data := .fields #[vl, vu, .none] } } := by
  refine kms_slice_lit F N hl pl pu rfl (fun D h' F' N' l1 => h D h' _ F' N' l1 ?_ ?_) hs ht (by rw [sizeLine_eq, List.size_toArray]; omega)
  · intro v hv
    exact List.mem_of_mem_drop (List.mem_of_mem_take hv)
  · simp only [kms_pick, List.length_take, List.length_drop]; omega
theorem item_mem {k : Int} {u : Tok} (hl : s.heap.IsList l vs.toArray) (h0 : 0 ≤ k) (h1 : k < (vs.length : Int)) (hz : vs.length ≤ 1000) (h : ∀ x, x ∈ vs → vs[k.toNat]? = some x → Q x s)
    (hs : subscripted slice false (.ref l) (.int k u) = operate [.ref l, .int k u] (getItem (.ref l) (.int k u)) := by with_unfolding_all rfl) :
    wpAny (model prog w) A (subscriptTail value slice (.ref l) (.int k u)) Q E s := by
  have hk : k.toNat < vs.length := by omega
  have e : vs[k.toNat]? = some vs[k.toNat] := List.getElem?_eq_getElem hk
  exact tail_any hl.typeIs slot_list_getitem.lookup (wpAny_getItem_list hl h0 (by omega) (by simpa using e) (h _ (List.getElem_mem hk) e)) hs
end

def W8 : List Str := [Str.ofString "a", Str.ofString "b", Str.ofString "c", Str.ofString "d", Str.ofString "e", Str.ofString "&optional", Str.ofString "&rest", Str.ofString "7"]
def IsWord (v : Value) : Prop := ∃ x t, v = .str x t ∧ x ∈ W8
def AllW (us : List Value) : Prop := ∀ v ∈ us, IsWord v
theorem AllW.nil : AllW [] := fun _ h => nomatch h
theorem AllW.cons {x : Str} {t : Nat} {us : List Value} (hx : x ∈ W8) (h : AllW us) : AllW (.str x t :: us) := List.forall_mem_cons.mpr ⟨⟨x, t, rfl, hx⟩, h⟩
theorem AllW.snoc {y : Value} {us : List Value} (h : AllW us) (hy : IsWord y) : AllW (us ++ [y]) := fun v hv => by
  rcases List.mem_append.mp hv with hv | hv
  · exact h v hv
  · rw [List.mem_singleton.mp hv]; exact hy
theorem AllW.app {us ws : List Value} (h : AllW us) (h' : AllW ws) : AllW (us ++ ws) := fun v hv => (List.mem_append.mp hv).elim (h v) (h' v)
theorem AllW.sub {us ws : List Value} (k : ∀ v ∈ us, v ∈ ws) (h : AllW ws) : AllW us := fun v hv => h v (k v hv)

section
variable {prog : Program} {w : World} {A : Around} {h₀ : Heap} {L : Addr} {m : Str → Option Value} {env : Env} {elt : Expr} {x : Str} {scope : Scope} {cl : List (Str × Addr)} {s : Shared} {S : List (Addr × Obj) → Prop} {P : Nat → Value → Prop} {Fin : List Value → List (Addr × Obj) → Prop} {news : List (Addr × Obj)}
theorem rest_of {n : Nat} (J : Nat → List Value → List (Addr × Obj) → Prop) (j0 : J 0 [] news)
    (turn : ∀ i ys nx v I oI C oC D m₂ h tk (E' : Value → Shared → Prop), i < n → J i ys nx → P i v → LCg.NsObj oC m₂ → m₂ x = some v → Fr h₀ L h m → News h₀ L h ((I, oI) :: (C, oC) :: (D, LCg.lst ys) :: nx) → LCg.Off3 I C D nx → ((@Ne Nat I C) ∧ (@Ne Nat I D) ∧ (@Ne Nat C D)) →
      wpAny (model prog w) A (eval elt (compEnvC scope cl C env)) (LCg.CompEnd h₀ L m { s with heap := h, toks := tk } I oI C oC D (LCg.lst ys) S (fun y nx' => J (i + 1) (ys ++ [y]) nx')) E' { s with heap := h, toks := tk })
    (fin : ∀ ys nx, J n ys nx → Fin ys nx) : LCg.CompRest prog w A h₀ L m env elt x scope cl s S P Fin n 0 [] news := by
  have key : ∀ (j i : Nat) (ys : List Value) (nx : List (Addr × Obj)), i + j = n → J i ys nx → LCg.CompRest prog w A h₀ L m env elt x scope cl s S P Fin j i ys nx := by
    intro j
    induction j with
    | zero =>
      intro i ys nx hi hJ
      obtain rfl : i = n := by omega
      exact LCg.CompRest.zero (fin ys nx hJ)
    | succ j ih =>
      intro i ys nx hi hJ
      refine LCg.CompRest.succ ?_
      intro v I oI C oC D m₂ h tk E' hv hC hx F N off ne
      refine wpAny_mono (turn i ys nx v I oI C oC D m₂ h tk E' (by omega) hJ hv hC hx F N off ne) (fun y s₂ hq => ?_) fun _ _ e => e
      obtain ⟨h', tk', nw, e, F', N', off', hS, hJ'⟩ := hq
      exact ⟨h', tk', nw, e, F', N', off', hS, ih (i + 1) _ _ (by omega) hJ'⟩
  exact key n 0 [] news (by omega) j0
end

theorem led_six {h₀ h : Heap} {L a1 a2 a3 a4 a5 a6 a7 a8 : Addr} {o1 o2 o3 o4 o5 o6 o7 o8 : Obj} (N : News h₀ L h [(a1, o1), (a2, o2), (a3, o3), (a4, o4), (a5, o5), (a6, o6), (a7, o7), (a8, o8)]) : News h₀ L h [(a1, o1), (a4, o4), (a5, o5), (a6, o6), (a7, o7), (a8, o8)] :=
  fun p hp => N p (by
    simp only [List.mem_cons, List.not_mem_nil, or_false] at hp ⊢
    rcases hp with h | h | h | h | h | h <;> simp only [h, true_or, or_true])
structure WordsJ (pre post : List (Addr × Obj)) (ca sa : Addr) (i : Nat) (ys : List Value) (nx : List (Addr × Obj)) : Prop where
  w : AllW ys
  n : ys.length = i
  led : ∃ vs ns n k t c, IntsAre vs ns ∧ (∀ x ∈ ns, 0 ≤ x ∧ x < 10 ^ 24) ∧ (0 ≤ k ∧ k < 1100000) ∧ vs.length ≤ 10 ∧ nx = pre ++ (ca, listOf vs.toArray n) :: (sa, listOf [Value.int k t].toArray c) :: post

set_option maxHeartbeats 4000000 in
theorem words_spec {w : World} {prog : Program} {dp un : Nat} {fr : Option (List Env)} {gd : Option (List Code)} {s : Shared} {Q : Value → Shared → Prop} {E : Value → Shared → Prop} {h₀ : Heap} {L : Addr} {m : Str → Option Value} {dk ca sa : Addr} {n0 n n2 : Nat} {vs : List Value} {ns : List Int} {i : Int} {t : Nat}
    (B : Base w h₀) (F : Fr h₀ L s.heap m) (N : News h₀ L s.heap [(ca, listOf vs.toArray n), (sa, listOf [Value.int i t].toArray n2), (dk, listOf [Value.ref ca, Value.ref sa].toArray n0)]) (hd : dp ≤ 790) (hu : un ≤ 4900) (hcs : @Ne Nat ca sa) (hdc : @Ne Nat dk ca) (hds : @Ne Nat dk sa)
    (hi : IntsAre vs ns) (hns : ∀ x ∈ ns, 0 ≤ x ∧ x < 10 ^ 24) (hi0 : 0 ≤ i ∧ i < 1100000) (hz : vs.length ≤ 10)
    (hQ : ∀ wl us c vs' ns' n' i' ti n2' h' tk, s.heap.get? wl = none → AllW us → us.length ≤ 20 → IntsAre vs' ns' → (∀ x ∈ ns', 0 ≤ x ∧ x < 10 ^ 24) → 0 ≤ i' ∧ i' < 1100000 → vs'.length ≤ 10 → Fr h₀ L h' m → (∀ b o, s.heap.get? b = some o → b ≠ ca → b ≠ sa → h'.get? b = some o) →
      News h₀ L h' [(wl, listOf (List.toArray us) c), (ca, listOf vs'.toArray n'), (sa, listOf [Value.int i' ti].toArray n2'), (dk, listOf [Value.ref ca, Value.ref sa].toArray n0)] → Q (.ref wl) { s with heap := h', toks := tk }) :
    wpAny (model prog w) (Ar dp fr gd un) (call (.ref 172) [.ref dk]) Q E s := by
  have hX := B.keeps F.keep
  refine wpAny_call ?_
  k_dflt (refine' enterCC [(Str.ofString "deck", .ref dk)] [(ca, listOf vs.toArray n), (sa, listOf [Value.int i t].toArray n2), (dk, listOf [Value.ref ca, Value.ref sa].toArray n0)] (fun p hp => (N p hp).1) hX.X hX.lim ?k6 ?k7 ?k8 ?k9 ?kB ?kD ?c2 ?c3 ?c4 ?_)
  ((k_dflt ((case k6 => k_is); (case k7 => k_is); (case k8 => k_room); (case k9 => first | exact BindsTo.of_eq rfl | exact binds_K (by k_in) rfl (by k_is) rfl rfl rfl); (case kB => exact rfl); (case kD => decide +kernel); (case c2 => exact rfl); (case c3 => exact rfl); (case c4 => exact rfl))))
  intro g L' h₁ tk₁ cells H hlt F₁ N₁ Y
  k_cells Y
  rename_i oW oD dW dD
  simp only [List.cons_append, List.nil_append] at N₁
  have lt1 := ltN (hlt _ _ (N _ (.head _)).1)
  have lt2 := ltN (hlt _ _ (N _ (.tail _ (.head _))).1)
  have lt3 := ltN (hlt _ _ (N _ (.tail _ (.tail _ (.head _)))).1)
  have Bg := H.base B F N
  have X := Bg.X
  obtain ⟨p, loose, mean, mg, mb, T⟩ := Bg.T
  have hfin : ∀ wl us c vs' ns' n' i' ti n2' h' tk, @Ne Nat wl ca ∧ @Ne Nat wl sa ∧ @Ne Nat wl dk → AllW us → us.length ≤ 20 → IntsAre vs' ns' → (∀ x ∈ ns', 0 ≤ x ∧ x < 10 ^ 24) → 0 ≤ i' ∧ i' < 1100000 → vs'.length ≤ 10 → Kept g h' →
      (h'.get? wl = some (listOf (List.toArray us) c) ∧ wl ≠ L' ∧ g.get? wl = none) → h'.get? ca = some (listOf vs'.toArray n') → h'.get? sa = some (listOf [Value.int i' ti].toArray n2') → h'.get? dk = some (listOf [Value.ref ca, Value.ref sa].toArray n0) → Q (.ref wl) { s with heap := h', toks := tk } := by
    intro wl us c vs' ns' n' i' ti n2' h' tk a1 a2 a3 a4 a5 a6 a7 kp b1 b2 b3 b4
    have hw : s.heap.get? wl = none := H.newer b1.2.2 (by
      simp only [List.map_cons, List.map_nil, List.mem_cons, List.not_mem_nil, or_false]
      rintro (q | q | q)
      · exact a1.1 q
      · exact a1.2.1 q
      · exact a1.2.2 q)
    refine hQ wl us c vs' ns' n' i' ti n2' h' tk hw a2 a3 a4 a5 a6 a7 (H.back F N kp) ?_ ?_
    · intro b o e e1 e2
      by_cases e3 : b = dk
      · subst e3; rw [b4, ← e]; exact ((N _ (.tail _ (.tail _ (.head _)))).1).symm
      · exact kp _ _ (H.to _ _ e (by simp only [List.map_cons, List.map_nil, List.mem_cons, List.not_mem_nil, or_false]; rintro (q | q | q) <;> contradiction))
    · exact news_new F hw b1.1 (List.forall_mem_cons.mpr ⟨⟨b2, (N _ (.head _)).2⟩, List.forall_mem_cons.mpr ⟨⟨b3, (N _ (.tail _ (.head _))).2⟩, List.forall_mem_cons.mpr ⟨⟨b4, (N _ (.tail _ (.tail _ (.head _)))).2⟩, News.nil⟩⟩⟩)
  clear hX
  (repeat' (first | (k_unfold; (try dsimp only)) | ((( (fail_if_success (with_reducible show wpAny _ _ (pyIter _) _ _ _)); (fail_if_success (with_reducible show wpAny _ _ (exec (Stmt.While _ _ _ _) _) _ _ _)))); (( (fail_if_success (with_reducible show wpAny _ _ (eval (Expr.ListComp _ _ _ _) _) _ _ _)); (fail_if_success (with_reducible show wpAny _ _ (exec (Stmt.Assign _ (Expr.ListComp _ _ _ _) _) _) _ _ _)); (fail_if_success (with_reducible show LCg.CompSrc _ _ _ _ _ _ _ _ _ _ _ _ _ _)))); first | (first | ((with_reducible show wpAny _ _ (execs [] _) _ _ _); (k_here; (with_reducible refine gen_toks ?_); intro zztk)) | ((with_reducible show wpAny _ _ (execs (_ :: _) _) _ _ _); (k_here; (with_reducible refine gen_toks ?_); intro zztk)) | ((with_reducible show wpAny _ _ (execs (_ :: _) _) _ _ _); (k_here; (with_reducible refine wpAny_execs_cons ?_); (try dsimp only); k_fold)) | ((k_here; (with_reducible show wpAny _ _ (binaryOp _ (Value.ref _) (Value.ref _)) _ _ _); k_dflt (refine' kmk_add_lit (by k_asm) (by k_asm) (by kmk_list) (by kmk_list) (by rfl) ?_ (by (rw [sizeLine_eq]; (first | decide | omega | (simp only [List.length_append, List.length_cons, List.length_nil] at *; omega))))); intro zzD' zzh' zzF' zzN' zzl1; (try k_lt zzl1); (try k_sweep))) | ((k_here; (with_reducible show wpAny _ _ (subscriptTail _ _ (Value.ref _) (Value.int _ _)) _ _ _); k_dflt (refine' item_mem (by kmk_list) (by omega) (by (simp only [List.size_toArray] at *; omega)) (by (first | decide | omega | (simp only [List.length_append, List.length_cons, List.length_nil] at *; omega))) ?_ (by with_unfolding_all rfl)); intro zzx' zzhx1' zzhx2')) | ((k_here; (with_reducible show wpAny _ _ (subscriptTail _ (PySem.Expr.Slice _ _ none _) (Value.ref _) (Value.ref _)) _ _ _); k_dflt (refine' slice_sub (by k_asm) (by k_asm) (by kmk_list) (by kmk_part) (by kmk_part) ?_ (by with_unfolding_all rfl) (by kmk_pure) (by (first | decide | omega | (simp only [List.length_append, List.length_cons, List.length_nil] at *; omega)))); intro zzD' zzh' zzzs' zzF' zzN' zzl1 zzhzs' zzhzl'; (try k_lt zzl1); (try k_sweep))) | (((with_reducible show wpAny _ _ (call (Value.ref 167) [_, _]) _ _ _); k_dflt (refine' draw_call (by assumption) (by k_asm) (by k_asm) (by k_room) (by ((have zzhcL := cLine_is; (try simp only [units_under_make, units_in1, units_deeper, Around.mark_units, units_caller]); (try dsimp only [Ar]); omega))) (by k_mem) (by assumption) (by assumption) (by assumption) (by assumption) (by k_updF) (by (intro _; (try dsimp only); k_updF)) (by assumption) (by assumption) (by assumption) (by first | decide | exact ⟨by simp, by simp⟩) ?_; k_whole); intro zzr' zzt' zzvs' zzns' zzn' zzi' zzti' zzn2' zzh' zztk' zzhr0' zzhr1' zzhi' zzhns' zzhi0' zzhz' zzF' zzN'; (try dsimp only at zzN'); (try k_sweep))) | ((with_reducible show wpAny _ _ (call (Value.builtin "len") [_]) _ _ _); (k_dflt (refine' call_len_list (by is_list) (by (first | decide | (simp only [List.size_toArray]; omega) | (simp only [List.size_toArray, List.length_cons, List.length_append, List.length_map, List.length_nil, List.length_take, List.length_drop]; omega))) ?_))) | walk1) | (dsimp only; (first | ((with_reducible show wpAny _ _ (execs [] _) _ _ _); (k_here; (with_reducible refine gen_toks ?_); intro zztk)) | ((with_reducible show wpAny _ _ (execs (_ :: _) _) _ _ _); (k_here; (with_reducible refine gen_toks ?_); intro zztk)) | ((with_reducible show wpAny _ _ (execs (_ :: _) _) _ _ _); (k_here; (with_reducible refine wpAny_execs_cons ?_); (try dsimp only); k_fold)) | ((k_here; (with_reducible show wpAny _ _ (binaryOp _ (Value.ref _) (Value.ref _)) _ _ _); k_dflt (refine' kmk_add_lit (by k_asm) (by k_asm) (by kmk_list) (by kmk_list) (by rfl) ?_ (by (rw [sizeLine_eq]; (first | decide | omega | (simp only [List.length_append, List.length_cons, List.length_nil] at *; omega))))); intro zzD' zzh' zzF' zzN' zzl1; (try k_lt zzl1); (try k_sweep))) | ((k_here; (with_reducible show wpAny _ _ (subscriptTail _ _ (Value.ref _) (Value.int _ _)) _ _ _); k_dflt (refine' item_mem (by kmk_list) (by omega) (by (simp only [List.size_toArray] at *; omega)) (by (first | decide | omega | (simp only [List.length_append, List.length_cons, List.length_nil] at *; omega))) ?_ (by with_unfolding_all rfl)); intro zzx' zzhx1' zzhx2')) | ((k_here; (with_reducible show wpAny _ _ (subscriptTail _ (PySem.Expr.Slice _ _ none _) (Value.ref _) (Value.ref _)) _ _ _); k_dflt (refine' slice_sub (by k_asm) (by k_asm) (by kmk_list) (by kmk_part) (by kmk_part) ?_ (by with_unfolding_all rfl) (by kmk_pure) (by (first | decide | omega | (simp only [List.length_append, List.length_cons, List.length_nil] at *; omega)))); intro zzD' zzh' zzzs' zzF' zzN' zzl1 zzhzs' zzhzl'; (try k_lt zzl1); (try k_sweep))) | (((with_reducible show wpAny _ _ (call (Value.ref 167) [_, _]) _ _ _); k_dflt (refine' draw_call (by assumption) (by k_asm) (by k_asm) (by k_room) (by ((have zzhcL := cLine_is; (try simp only [units_under_make, units_in1, units_deeper, Around.mark_units, units_caller]); (try dsimp only [Ar]); omega))) (by k_mem) (by assumption) (by assumption) (by assumption) (by assumption) (by k_updF) (by (intro _; (try dsimp only); k_updF)) (by assumption) (by assumption) (by assumption) (by first | decide | exact ⟨by simp, by simp⟩) ?_; k_whole); intro zzr' zzt' zzvs' zzns' zzn' zzi' zzti' zzn2' zzh' zztk' zzhr0' zzhr1' zzhi' zzhns' zzhi0' zzhz' zzF' zzN'; (try dsimp only at zzN'); (try k_sweep))) | ((with_reducible show wpAny _ _ (call (Value.builtin "len") [_]) _ _ _); (k_dflt (refine' call_len_list (by is_list) (by (first | decide | (simp only [List.size_toArray]; omega) | (simp only [List.size_toArray, List.length_cons, List.length_append, List.length_map, List.length_nil, List.length_take, List.length_drop]; omega))) ?_))) | walk1))) | fail "no step"))
  iterate 4
    · (rename Fr _ _ _ _ => FF); (rename News _ _ _ _ => NN); (rename _ ∧ _ ∧ _ ∧ _ ∧ _ ∧ _ ∧ _ => l2)
      refine hfin _ _ _ _ _ _ _ _ _ _ _ ?_ ?_ ?_ (by assumption) (by assumption) (by assumption) (by assumption) FF.keep (NN _ (.head _)) (NN (ca, _) (by k_mem)).1 (NN (sa, _) (by k_mem)).1 (NN (dk, _) (by k_mem)).1
      · omega
      · ((repeat' (first | exact AllW.nil | refine AllW.app ?_ ?_ | refine AllW.cons (by decide +kernel) ?_ | refine AllW.sub (by assumption) ?_)))
      · simp only [List.length_append, List.length_cons, List.length_nil] at *; omega
  ((k_dflt (refine LCg.ListComp_U (F₀ := by k_asm) (by with_unfolding_all rfl) (by decide) (by rfl) (by decide) (by rfl) ?_)))
  (repeat' (first | (k_unfold; (try dsimp only)) | ((( (fail_if_success (with_reducible show wpAny _ _ (pyIter _) _ _ _)); (fail_if_success (with_reducible show wpAny _ _ (exec (Stmt.While _ _ _ _) _) _ _ _)))); (( (fail_if_success (with_reducible show wpAny _ _ (eval (Expr.ListComp _ _ _ _) _) _ _ _)); (fail_if_success (with_reducible show wpAny _ _ (exec (Stmt.Assign _ (Expr.ListComp _ _ _ _) _) _) _ _ _)); (fail_if_success (with_reducible show LCg.CompSrc _ _ _ _ _ _ _ _ _ _ _ _ _ _)))); first | (first | ((with_reducible show wpAny _ _ (execs [] _) _ _ _); (k_here; (with_reducible refine gen_toks ?_); intro zztk)) | ((with_reducible show wpAny _ _ (execs (_ :: _) _) _ _ _); (k_here; (with_reducible refine gen_toks ?_); intro zztk)) | ((with_reducible show wpAny _ _ (execs (_ :: _) _) _ _ _); (k_here; (with_reducible refine wpAny_execs_cons ?_); (try dsimp only); k_fold)) | ((k_here; (with_reducible show wpAny _ _ (binaryOp _ (Value.ref _) (Value.ref _)) _ _ _); k_dflt (refine' kmk_add_lit (by k_asm) (by k_asm) (by kmk_list) (by kmk_list) (by rfl) ?_ (by (rw [sizeLine_eq]; (first | decide | omega | (simp only [List.length_append, List.length_cons, List.length_nil] at *; omega))))); intro zzD' zzh' zzF' zzN' zzl1; (try k_lt zzl1); (try k_sweep))) | ((k_here; (with_reducible show wpAny _ _ (subscriptTail _ _ (Value.ref _) (Value.int _ _)) _ _ _); k_dflt (refine' item_mem (by kmk_list) (by omega) (by (simp only [List.size_toArray] at *; omega)) (by (first | decide | omega | (simp only [List.length_append, List.length_cons, List.length_nil] at *; omega))) ?_ (by with_unfolding_all rfl)); intro zzx' zzhx1' zzhx2')) | ((k_here; (with_reducible show wpAny _ _ (subscriptTail _ (PySem.Expr.Slice _ _ none _) (Value.ref _) (Value.ref _)) _ _ _); k_dflt (refine' slice_sub (by k_asm) (by k_asm) (by kmk_list) (by kmk_part) (by kmk_part) ?_ (by with_unfolding_all rfl) (by kmk_pure) (by (first | decide | omega | (simp only [List.length_append, List.length_cons, List.length_nil] at *; omega)))); intro zzD' zzh' zzzs' zzF' zzN' zzl1 zzhzs' zzhzl'; (try k_lt zzl1); (try k_sweep))) | (((with_reducible show wpAny _ _ (call (Value.ref 167) [_, _]) _ _ _); k_dflt (refine' draw_call (by assumption) (by k_asm) (by k_asm) (by k_room) (by ((have zzhcL := cLine_is; (try simp only [units_under_make, units_in1, units_deeper, Around.mark_units, units_caller]); (try dsimp only [Ar]); omega))) (by k_mem) (by assumption) (by assumption) (by assumption) (by assumption) (by k_updF) (by (intro _; (try dsimp only); k_updF)) (by assumption) (by assumption) (by assumption) (by first | decide | exact ⟨by simp, by simp⟩) ?_; k_whole); intro zzr' zzt' zzvs' zzns' zzn' zzi' zzti' zzn2' zzh' zztk' zzhr0' zzhr1' zzhi' zzhns' zzhi0' zzhz' zzF' zzN'; (try dsimp only at zzN'); (try k_sweep))) | ((with_reducible show wpAny _ _ (call (Value.builtin "len") [_]) _ _ _); (k_dflt (refine' call_len_list (by is_list) (by (first | decide | (simp only [List.size_toArray]; omega) | (simp only [List.size_toArray, List.length_cons, List.length_append, List.length_map, List.length_nil, List.length_take, List.length_drop]; omega))) ?_))) | walk1) | (dsimp only; (first | ((with_reducible show wpAny _ _ (execs [] _) _ _ _); (k_here; (with_reducible refine gen_toks ?_); intro zztk)) | ((with_reducible show wpAny _ _ (execs (_ :: _) _) _ _ _); (k_here; (with_reducible refine gen_toks ?_); intro zztk)) | ((with_reducible show wpAny _ _ (execs (_ :: _) _) _ _ _); (k_here; (with_reducible refine wpAny_execs_cons ?_); (try dsimp only); k_fold)) | ((k_here; (with_reducible show wpAny _ _ (binaryOp _ (Value.ref _) (Value.ref _)) _ _ _); k_dflt (refine' kmk_add_lit (by k_asm) (by k_asm) (by kmk_list) (by kmk_list) (by rfl) ?_ (by (rw [sizeLine_eq]; (first | decide | omega | (simp only [List.length_append, List.length_cons, List.length_nil] at *; omega))))); intro zzD' zzh' zzF' zzN' zzl1; (try k_lt zzl1); (try k_sweep))) | ((k_here; (with_reducible show wpAny _ _ (subscriptTail _ _ (Value.ref _) (Value.int _ _)) _ _ _); k_dflt (refine' item_mem (by kmk_list) (by omega) (by (simp only [List.size_toArray] at *; omega)) (by (first | decide | omega | (simp only [List.length_append, List.length_cons, List.length_nil] at *; omega))) ?_ (by with_unfolding_all rfl)); intro zzx' zzhx1' zzhx2')) | ((k_here; (with_reducible show wpAny _ _ (subscriptTail _ (PySem.Expr.Slice _ _ none _) (Value.ref _) (Value.ref _)) _ _ _); k_dflt (refine' slice_sub (by k_asm) (by k_asm) (by kmk_list) (by kmk_part) (by kmk_part) ?_ (by with_unfolding_all rfl) (by kmk_pure) (by (first | decide | omega | (simp only [List.length_append, List.length_cons, List.length_nil] at *; omega)))); intro zzD' zzh' zzzs' zzF' zzN' zzl1 zzhzs' zzhzl'; (try k_lt zzl1); (try k_sweep))) | (((with_reducible show wpAny _ _ (call (Value.ref 167) [_, _]) _ _ _); k_dflt (refine' draw_call (by assumption) (by k_asm) (by k_asm) (by k_room) (by ((have zzhcL := cLine_is; (try simp only [units_under_make, units_in1, units_deeper, Around.mark_units, units_caller]); (try dsimp only [Ar]); omega))) (by k_mem) (by assumption) (by assumption) (by assumption) (by assumption) (by k_updF) (by (intro _; (try dsimp only); k_updF)) (by assumption) (by assumption) (by assumption) (by first | decide | exact ⟨by simp, by simp⟩) ?_; k_whole); intro zzr' zzt' zzvs' zzns' zzn' zzi' zzti' zzn2' zzh' zztk' zzhr0' zzhr1' zzhi' zzhns' zzhi0' zzhz' zzF' zzN'; (try dsimp only at zzN'); (try k_sweep))) | ((with_reducible show wpAny _ _ (call (Value.builtin "len") [_]) _ _ _); (k_dflt (refine' call_len_list (by is_list) (by (first | decide | (simp only [List.size_toArray]; omega) | (simp only [List.size_toArray, List.length_cons, List.length_append, List.length_map, List.length_nil, List.length_take, List.length_drop]; omega))) ?_))) | walk1))) | fail "no step"))
  (rename Fr _ _ _ _ => F₅); (rename News _ _ _ _ => N₅); (rename IsRange _ _ _ _ _ _ _ _ => hr)
  (rename _ ∧ _ ∧ _ ∧ _ ∧ _ ∧ _ ∧ _ => l2)
  have N₆ := led_six N₅
  clear N₅
  refine LCg.CompSrc.range rfl F₅ N₆ hr (small_one (by omega) (by omega) (by omega) (by omega)) (rangeSize_nat _ _) (by rw [sizeLine_eq]; omega) ?_
  intro g'
  refine rest_of (WordsJ [(_, _), (_, _), (_, _)] [(dk, _)] ca sa) ⟨AllW.nil, rfl, _, _, _, _, _, _, by assumption, by assumption, by assumption, by assumption, rfl⟩ ?_ ?_
  · rintro i ys nx v I oI C oC' D m₂ h tk E' hin ⟨hys, hl, ⟨vs₂, ns₂, n₃, i₂, t₂, n₄, hi₂, hns₂, hi₂0, hz₂, rfl⟩⟩ hv hC hx F N off ne
    simp only [List.cons_append, List.nil_append] at N off
    simp only [LCg.Off3, and_true] at off
    (repeat' (first | (k_unfold; (try dsimp only)) | ((( (fail_if_success (with_reducible show wpAny _ _ (pyIter _) _ _ _)); (fail_if_success (with_reducible show wpAny _ _ (exec (Stmt.While _ _ _ _) _) _ _ _)))); (( (fail_if_success (with_reducible show wpAny _ _ (eval (Expr.ListComp _ _ _ _) _) _ _ _)); (fail_if_success (with_reducible show wpAny _ _ (exec (Stmt.Assign _ (Expr.ListComp _ _ _ _) _) _) _ _ _)); (fail_if_success (with_reducible show LCg.CompSrc _ _ _ _ _ _ _ _ _ _ _ _ _ _)))); first | (first | ((with_reducible show wpAny _ _ (execs [] _) _ _ _); (k_here; (with_reducible refine gen_toks ?_); intro zztk)) | ((with_reducible show wpAny _ _ (execs (_ :: _) _) _ _ _); (k_here; (with_reducible refine gen_toks ?_); intro zztk)) | ((with_reducible show wpAny _ _ (execs (_ :: _) _) _ _ _); (k_here; (with_reducible refine wpAny_execs_cons ?_); (try dsimp only); k_fold)) | ((k_here; (with_reducible show wpAny _ _ (binaryOp _ (Value.ref _) (Value.ref _)) _ _ _); k_dflt (refine' kmk_add_lit (by k_asm) (by k_asm) (by kmk_list) (by kmk_list) (by rfl) ?_ (by (rw [sizeLine_eq]; (first | decide | omega | (simp only [List.length_append, List.length_cons, List.length_nil] at *; omega))))); intro zzD' zzh' zzF' zzN' zzl1; (try k_lt zzl1); (try k_sweep))) | ((k_here; (with_reducible show wpAny _ _ (subscriptTail _ _ (Value.ref _) (Value.int _ _)) _ _ _); k_dflt (refine' item_mem (by kmk_list) (by omega) (by (simp only [List.size_toArray] at *; omega)) (by (first | decide | omega | (simp only [List.length_append, List.length_cons, List.length_nil] at *; omega))) ?_ (by with_unfolding_all rfl)); intro zzx' zzhx1' zzhx2')) | ((k_here; (with_reducible show wpAny _ _ (subscriptTail _ (PySem.Expr.Slice _ _ none _) (Value.ref _) (Value.ref _)) _ _ _); k_dflt (refine' slice_sub (by k_asm) (by k_asm) (by kmk_list) (by kmk_part) (by kmk_part) ?_ (by with_unfolding_all rfl) (by kmk_pure) (by (first | decide | omega | (simp only [List.length_append, List.length_cons, List.length_nil] at *; omega)))); intro zzD' zzh' zzzs' zzF' zzN' zzl1 zzhzs' zzhzl'; (try k_lt zzl1); (try k_sweep))) | (((with_reducible show wpAny _ _ (call (Value.ref 167) [_, _]) _ _ _); k_dflt (refine' draw_call (by assumption) (by k_asm) (by k_asm) (by k_room) (by ((have zzhcL := cLine_is; (try simp only [units_under_make, units_in1, units_deeper, Around.mark_units, units_caller]); (try dsimp only [Ar]); omega))) (by k_mem) (by assumption) (by assumption) (by assumption) (by assumption) (by k_updF) (by (intro _; (try dsimp only); k_updF)) (by assumption) (by assumption) (by assumption) (by first | decide | exact ⟨by simp, by simp⟩) ?_; k_whole); intro zzr' zzt' zzvs' zzns' zzn' zzi' zzti' zzn2' zzh' zztk' zzhr0' zzhr1' zzhi' zzhns' zzhi0' zzhz' zzF' zzN'; (try dsimp only at zzN'); (try k_sweep))) | ((with_reducible show wpAny _ _ (call (Value.builtin "len") [_]) _ _ _); (k_dflt (refine' call_len_list (by is_list) (by (first | decide | (simp only [List.size_toArray]; omega) | (simp only [List.size_toArray, List.length_cons, List.length_append, List.length_map, List.length_nil, List.length_take, List.length_drop]; omega))) ?_))) | walk1) | (dsimp only; (first | ((with_reducible show wpAny _ _ (execs [] _) _ _ _); (k_here; (with_reducible refine gen_toks ?_); intro zztk)) | ((with_reducible show wpAny _ _ (execs (_ :: _) _) _ _ _); (k_here; (with_reducible refine gen_toks ?_); intro zztk)) | ((with_reducible show wpAny _ _ (execs (_ :: _) _) _ _ _); (k_here; (with_reducible refine wpAny_execs_cons ?_); (try dsimp only); k_fold)) | ((k_here; (with_reducible show wpAny _ _ (binaryOp _ (Value.ref _) (Value.ref _)) _ _ _); k_dflt (refine' kmk_add_lit (by k_asm) (by k_asm) (by kmk_list) (by kmk_list) (by rfl) ?_ (by (rw [sizeLine_eq]; (first | decide | omega | (simp only [List.length_append, List.length_cons, List.length_nil] at *; omega))))); intro zzD' zzh' zzF' zzN' zzl1; (try k_lt zzl1); (try k_sweep))) | ((k_here; (with_reducible show wpAny _ _ (subscriptTail _ _ (Value.ref _) (Value.int _ _)) _ _ _); k_dflt (refine' item_mem (by kmk_list) (by omega) (by (simp only [List.size_toArray] at *; omega)) (by (first | decide | omega | (simp only [List.length_append, List.length_cons, List.length_nil] at *; omega))) ?_ (by with_unfolding_all rfl)); intro zzx' zzhx1' zzhx2')) | ((k_here; (with_reducible show wpAny _ _ (subscriptTail _ (PySem.Expr.Slice _ _ none _) (Value.ref _) (Value.ref _)) _ _ _); k_dflt (refine' slice_sub (by k_asm) (by k_asm) (by kmk_list) (by kmk_part) (by kmk_part) ?_ (by with_unfolding_all rfl) (by kmk_pure) (by (first | decide | omega | (simp only [List.length_append, List.length_cons, List.length_nil] at *; omega)))); intro zzD' zzh' zzzs' zzF' zzN' zzl1 zzhzs' zzhzl'; (try k_lt zzl1); (try k_sweep))) | (((with_reducible show wpAny _ _ (call (Value.ref 167) [_, _]) _ _ _); k_dflt (refine' draw_call (by assumption) (by k_asm) (by k_asm) (by k_room) (by ((have zzhcL := cLine_is; (try simp only [units_under_make, units_in1, units_deeper, Around.mark_units, units_caller]); (try dsimp only [Ar]); omega))) (by k_mem) (by assumption) (by assumption) (by assumption) (by assumption) (by k_updF) (by (intro _; (try dsimp only); k_updF)) (by assumption) (by assumption) (by assumption) (by first | decide | exact ⟨by simp, by simp⟩) ?_; k_whole); intro zzr' zzt' zzvs' zzns' zzn' zzi' zzti' zzn2' zzh' zztk' zzhr0' zzhr1' zzhi' zzhns' zzhi0' zzhz' zzF' zzN'; (try dsimp only at zzN'); (try k_sweep))) | ((with_reducible show wpAny _ _ (call (Value.builtin "len") [_]) _ _ _); (k_dflt (refine' call_len_list (by is_list) (by (first | decide | (simp only [List.size_toArray]; omega) | (simp only [List.size_toArray, List.length_cons, List.length_append, List.length_map, List.length_nil, List.length_take, List.length_drop]; omega))) ?_))) | walk1))) | fail "no step"))
    (rename (_ ∈ [_, _, _, _, _, _, _, _, _]) => hx1)
    refine ⟨hys.snoc ((?_ : AllW _) _ hx1), by rw [List.length_append, hl]; rfl, _, _, _, _, _, _, by assumption, by assumption, by assumption, by assumption, rfl⟩
    ((repeat' (first | exact AllW.nil | refine AllW.app ?_ ?_ | refine AllW.cons (by decide +kernel) ?_ | refine AllW.sub (by assumption) ?_)))
  · rintro ys nx ⟨hys, hl, ⟨vs₂, ns₂, n₃, i₂, t₂, n₄, hi₂, hns₂, hi₂0, hz₂, rfl⟩⟩ D h tk F N off
    simp only [List.cons_append, List.nil_append] at N off
    simp only [LCg.Off1, and_true] at off
    refine hfin D ys _ _ _ _ _ _ _ _ _ ?_ hys ?_ hi₂ hns₂ hi₂0 hz₂ F.keep (N _ (.head _)) (N (ca, _) (by k_mem)).1 (N (sa, _) (by k_mem)).1 (N (dk, _) (by k_mem)).1
    · omega
    · omega

theorem zz_reset_NpExc : True := by
  w_top off
  exact trivial
open PySem PySem.W PyProof.Rows PySem.Calls
theorem seed_frag_exc : hd.heap_39 = hd.heap_39 ∧ PySem.Challenge.rw_np0012_01 = PySem.Challenge.rw_np0012_01 := by
  k_fill
  exact ⟨rfl, rfl⟩

structure SigAt (h : Heap) : Prop where
  cls : ∃ nm q bs sn sub ab col dd k0 k1 k2 k3 k5 mN, h.get? 31 = some (excClassObj nm q 31 30 bs [.type "Exception", .type "BaseException", .type "object"] true sn sub ab col dd k0 k1 k2 k3 k5 "Exception.__new__") ∧ h.Ns 30 mN ∧
    mN "__init__" = some (.ref 28) ∧ mN "symbol" = none ∧ mN "data" = none ∧ mN "__setattr__" = none ∧ mN "__getattribute__" = none ∧ mN "__getattr__" = none
  fn : ∃ o, h.get? 28 = some o ∧ o.cls = .type "function"

theorem sig_of {K : Frag} {h : Heap} {nm q : Str} {bs : List Value} {sn : List Str} {sub : List Value} {ab : Bool} {col : Option Bool} {dd : Option Addr} {k0 k1 k2 k3 k5 : Option Value} {on oi : Obj} {es : Array DictEntry} {ep : Nat} (X : K.In h)
    (hc : K.lookup 31 = some (excClassObj nm q 31 30 bs [.type "Exception", .type "BaseException", .type "object"] true sn sub ab col dd k0 k1 k2 k3 k5 "Exception.__new__")) (ho : K.lookup 30 = some on) (hi : K.lookup 28 = some oi)
    (hd : on.data = .dict es ep) (hk : StrKeys es) (h1 : nsFind es "__init__" = some (.ref 28)) (h2 : nsFind es "symbol" = none) (h3 : nsFind es "data" = none) (h4 : nsFind es "__setattr__" = none) (h5 : nsFind es "__getattribute__" = none) (h6 : nsFind es "__getattr__" = none)
    (hf : oi.cls = .type "function") : SigAt h :=
  ⟨⟨_, _, _, _, _, _, _, _, _, _, _, _, _, nsFind es, X _ _ hc, ⟨_, _, _, X _ _ ho, hd, hk, fun _ => rfl⟩, h1, h2, h3, h4, h5, h6⟩, ⟨_, X _ _ hi, hf⟩⟩

set_option maxHeartbeats 4000000 in
theorem sig_at {w : World} {h : Heap} (X : (hd.heap_39 w.params).In h) : SigAt h := by
  k_dflt (refine' sig_of X ?hc ?ho ?hi ?hd ?hk ?h1 ?h2 ?h3 ?h4 ?h5 ?h6 ?hf; (case hc => k_is); (case ho => k_is); (case hi => k_is); (case hd => exact rfl); (case hf => exact rfl))
  case hk =>
    intro e he
    simp only [List.mem_toArray, List.mem_cons, List.not_mem_nil, or_false] at he
    rcases he with rfl | rfl | rfl | rfl | rfl | rfl <;> exact ⟨_, _, rfl⟩
  all_goals kernel_rfl

section
open Builtin Builtin.ObjectAttr
variable {prog : Program} {w : World} {A : Around} {E : Value → Shared → Prop} {h : Heap} {g : Array GenState} {d : Drawn} {t : Nat} {os : OsState} {x : Addr} {o : Obj} {name : Str} {v : Value}

theorem exc_store0 {nm q : Str} {bs : List Value} {sn : List Str} {sub : List Value} {ab : Bool} {col : Option Bool} {dd : Option Addr} {k0 k1 k2 k3 k5 : Option Value} {mN : Str → Option Value} {tk : Tok} {Q : Fin → Shared → Prop}
    (hC : h.get? 31 = some (excClassObj nm q 31 30 bs [.type "Exception", .type "BaseException", .type "object"] true sn sub ab col dd k0 k1 k2 k3 k5 "Exception.__new__")) (hn : h.Ns 30 mN) (hna : mN name = none)
    (hB : typeLookup (.type "Exception") name = pure none) (hx : h.get? x = some o) (hc : o.cls = .ref 31) (hdn : o.dict = none) (hnc : ∀ c, o.data ≠ .cls c)
    (hq : ∀ h' tk', h'.get? x = some { o with dict := some h.objs.size } → h'.Ns1 h.objs.size (fun y => if y = name then some v else none) → (∀ b ob, b ≠ x → h.get? b = some ob → h'.get? b = some ob) → Q (.done (.ret .none)) ⟨h', g, d, tk', os⟩) :
    wpAny (model prog w) A (Builtin.«object.__setattr__» ⟨[.ref x, .str name tk, v], []⟩) Q E ⟨h, g, d, t, os⟩ := by
  have SF := PySem.F.store_Exception
  have hpass := SF.passes (.ref x)
  unfold Builtin.«object.__setattr__»
  repeat (first | rw [refuse_eq] | (rw [refuseLoop_ref, hpass]) | (with_reducible refine wpAny_loadPart_at hx ?_; rw [hc]) | with_reducible refine wpAny_mroOf_exc hC ?_ | (with_reducible refine wpAny_typeLookup_exc hC hn SF.mro hB ?_; rw [hna]) | wp_step)
  rw [hdn, if_neg (by simp [typeHasDict])]
  split
  · rename_i hcd
    cases hcd
  split
  · rename_i c hcd
    exact absurd hcd (hnc c)
  have hx₁ := Heap.get?_push_of_some (h := h) { cls := .type "dict", data := .dict #[] } hx
  have hxs : x ≠ h.objs.size := Nat.ne_of_lt (Heap.lt_size hx)
  refine wpAny_bind (wpAny_alloc' ?_)
  refine wpAny_bind (wpAny_update' hx₁ ?_)
  refine wpAny_pure ?_
  have hgd : ((h.push { cls := .type "dict", data := .dict #[] }).update x fun o => { cls := o.cls, dict := some h.objs.size, data := o.data, slots := o.slots }).get? h.objs.size = some { cls := .type "dict", data := .dict #[] } :=
    (Heap.get?_update_ne _ _ _ _ hxs.symm).trans (Heap.get?_push_at rfl rfl)
  show wpAny _ _ (storeInDict h.objs.size (.str name tk) name v) _ _ _
  unfold storeInDict newKeyGuard
  refine wpAny_bind (wpAny_pure (wpAny_bind (wpAny_nsSet1 (Heap.Ns1.of_empty ⟨_, #[], _, hgd, rfl, fun e he => absurd he (by simp), fun _ => rfl⟩) fun h' hn' hs => ?_)))
  obtain ⟨oD, esD, epD, hoD, hdD, hcD⟩ := hn'.count (Within.cons name v Within.nil)
  refine wpAny_bind (wpAny_lookBehind hoD (by rw [hdD]; exact pastItsLine_dict (Nat.le_trans hcD (by rw [List.length_cons, List.length_nil, sizeLine_eq]; omega))) ?_)
  wp_walk
  refine hq h' _ ?_ hn' fun b ob hb e => (hs.2 b (Nat.ne_of_lt (Heap.lt_size e))).trans ((Heap.get?_update_ne _ _ _ _ hb).trans (Heap.get?_push_of_some _ e))
  refine (hs.2 x hxs).trans (Heap.get?_update_self _ hx₁ ?_)
  have hf := (Heap.get?_some_iff.mp hx).2
  obtain ⟨oc, od, odt, osl⟩ := o
  cases odt <;> first | rfl | exact hf
end

section
variable {prog : Program} {w : World} {A : Around} {E : Value → Shared → Prop} {s : Shared} {x : Addr} {o : Obj} {name : Str} {v : Value}
theorem exc_call0 {sa owner : String} (SF : StoreFacts "Exception" [.type "Exception", .type "BaseException", .type "object"] sa owner) {h : Heap} {g : Array GenState} {d : Drawn} {t : Nat} {os : OsState} {nm q : Str} {bs : List Value} {sn : List Str} {sub : List Value} {ab : Bool} {col : Option Bool} {dd : Option Addr} {k0 k1 k2 k3 k5 : Option Value} {mN : Str → Option Value} {tk : Tok} {R : Result → Shared → Prop}
    (hC : h.get? 31 = some (excClassObj nm q 31 30 bs [.type "Exception", .type "BaseException", .type "object"] true sn sub ab col dd k0 k1 k2 k3 k5 "Exception.__new__")) (hn : h.Ns 30 mN) (hna : mN name = none)
    (hB : typeLookup (.type "Exception") name = pure none) (hx : h.get? x = some o) (hc : o.cls = .ref 31) (hdn : o.dict = none) (hnc : ∀ c, o.data ≠ .cls c)
    (hq : ∀ h' tk', h'.get? x = some { o with dict := some h.objs.size } → h'.Ns1 h.objs.size (fun y => if y = name then some v else none) → (∀ b ob, b ≠ x → h.get? b = some ob → h'.get? b = some ob) → R (.ok (.ret .none)) ⟨h', g, d, tk', os⟩) :
    codeAny (model prog w) A (.call (.builtin sa) ⟨[.ref x, .str name tk, v], []⟩) R ⟨h, g, d, t, os⟩ :=
  codeAny_call_builtin SF.slot.plain SF.entry (wpAny_check_sa SF hC hx hc (exc_store0 hC hn hna hB hx hc hdn hnc hq))
set_option maxHeartbeats 4000000 in
theorem exc_set0 {sa owner : String} (SF : StoreFacts "Exception" [.type "Exception", .type "BaseException", .type "object"] sa owner) {h : Heap} {g : Array GenState} {d : Drawn} {t : Nat} {os : OsState} {nm q : Str} {bs : List Value} {sn : List Str} {sub : List Value} {ab : Bool} {col : Option Bool} {dd : Option Addr} {k0 k1 k2 k3 k5 : Option Value} {mN : Str → Option Value} {Q : Unit → Shared → Prop}
    (hC : h.get? 31 = some (excClassObj nm q 31 30 bs [.type "Exception", .type "BaseException", .type "object"] true sn sub ab col dd k0 k1 k2 k3 k5 "Exception.__new__")) (hn : h.Ns 30 mN) (hns : mN "__setattr__" = none) (hna : mN name = none)
    (hB : typeLookup (.type "Exception") name = pure none) (hx : h.get? x = some o) (hc : o.cls = .ref 31) (hdn : o.dict = none) (hnc : ∀ c, o.data ≠ .cls c)
    (hq : ∀ h' tk', h'.get? x = some { o with dict := some h.objs.size } → h'.Ns1 h.objs.size (fun y => if y = name then some v else none) → (∀ b ob, b ≠ x → h.get? b = some ob → h'.get? b = some ob) → Q () ⟨h', g, d, tk', os⟩) :
    wpAny (model prog w) A (setAttr (.ref x) name v) Q E ⟨h, g, d, t, os⟩ := by
  have f3 := SF.slot.bind (.ref x)
  have f1 := SF.mro
  have f2 := SF.slot.lookup
  unfold setAttr callSpecial? specialOf
  repeat (first | (with_reducible refine wpAny_loadPart_at hx ?_; rw [hc]) | (with_reducible refine wpAny_typeLookup_exc hC hn f1 f2 ?_; rw [hns]) | wp_step)
  refine exc_call0 SF hC hn hna hB hx hc hdn hnc (fun h' tk' a1 a2 a3 => ?_)
  repeat wp_step
  exact hq h' tk' a1 a2 a3
end
theorem exc_no {n : Str} (h : builtinLookup "Exception" n = some none) : typeLookup (.type "Exception") n = pure none := by rw [typeLookup_type, h]

set_option maxHeartbeats 4000000 in
theorem mk_sig {w : World} {prog : Program} {A : Around} {s : Shared} {Q : Value → Shared → Prop} {E : Value → Shared → Prop} {f1 f2 : Value}
    (B : Base w s.heap) (hd : A.depth ≤ 900)
    (hQ : ∀ e d t h' tk, Kept s.heap h' → s.heap.get? e = none → s.heap.get? d = none → d ≠ e → (∃ o, h'.get? e = some o ∧ o.cls = .ref 31 ∧ o.dict = some d ∧ o.data = .fields #[.ref t, .none, .none, .none, .bool false, .none]) →
      h'.Ns1 d (fun y => if y = Str.ofString "data" then some f2 else if y = Str.ofString "symbol" then some f1 else none) → Q (.ref e) { s with heap := h', toks := tk }) :
    wpAny (model prog w) A (call (.ref 31) [f1, f2]) Q E s := by
  obtain ⟨⟨nm, q, bs, sn, sub, ab, col, dd, k0, k1, k2, k3, k5, mN, hC0, hn, hi, hsy, hda, hsa, hga, hgt⟩, oI, hfI, hfc⟩ := sig_at B.X
  obtain ⟨hp, g, d, tk, os⟩ := s
  refine wpAny_call_exc_init PySem.F.excBase_Exception hC0 hn hi hfI hfc (fun h' e hm => ?_)
  have B' := B.keeps hm.keeps
  obtain ⟨t, het, htn, htt⟩ := hm.there
  refine wpAny_call ?_
  k_dflt (refine' enterC (s := ⟨h', g, d, tk, os⟩) [(Str.ofString "self", .ref e), (Str.ofString "symbol", f1), (Str.ofString "data", f2)] [(e, { cls := .ref 31, data := .fields #[.ref t, .none, .none, .none, .bool false, .none] })] ?hh B'.X B'.lim ?k6 ?k7 ?k8 ?k9 ?kB ?c2 ?c3 ?c4 ?c5 ?_)
  case hh => intro p hp; rw [List.mem_singleton.mp hp]; exact het
  ((k_dflt ((case k6 => k_is); (case k7 => k_is); (case k8 => k_room); (case k9 => first | exact BindsTo.of_eq rfl | exact binds_K (by k_in) rfl (by k_is) rfl rfl rfl); (case kB => exact locs rfl); (case c2 => exact rfl); (case c3 => exact rfl); (case c4 => exact rfl); (case c5 => decide))))
  intro g' L' h₁ tk₁ H hlt F₁ N₁
  have Bg : Base w g' := B.keeps fun b o eq => H.to _ _ (hm.keeps _ _ eq) (by
    simp only [List.map_cons, List.map_nil, List.mem_singleton]; rintro rfl; have := hm.new; rw [eq] at this; cases this)
  have X := Bg.X
  obtain ⟨p, loose, mean, mg, mb, T⟩ := Bg.T
  (repeat' (first | (k_unfold; (try dsimp only)) | ((( (fail_if_success (with_reducible show wpAny _ _ (pyIter _) _ _ _)); (fail_if_success (with_reducible show wpAny _ _ (exec (Stmt.While _ _ _ _) _) _ _ _)))); (( (fail_if_success (with_reducible show wpAny _ _ (eval (Expr.ListComp _ _ _ _) _) _ _ _)); (fail_if_success (with_reducible show wpAny _ _ (exec (Stmt.Assign _ (Expr.ListComp _ _ _ _) _) _) _ _ _)); (fail_if_success (with_reducible show LCg.CompSrc _ _ _ _ _ _ _ _ _ _ _ _ _ _)))); first | (first | ((with_reducible show wpAny _ _ (execs (_ :: _) _) _ _ _); (k_here; (with_reducible refine gen_toks ?_); intro zztk)) | ((with_reducible show wpAny _ _ (execs [] _) _ _ _); (k_here; (with_reducible refine gen_toks ?_); intro zztk)) | ((with_reducible show wpAny _ _ (execs (_ :: _) _) _ _ _); (k_here; (with_reducible refine wpAny_execs_cons ?_); (try dsimp only); k_fold)) | walk1) | (dsimp only; (first | ((with_reducible show wpAny _ _ (execs (_ :: _) _) _ _ _); (k_here; (with_reducible refine gen_toks ?_); intro zztk)) | ((with_reducible show wpAny _ _ (execs [] _) _ _ _); (k_here; (with_reducible refine gen_toks ?_); intro zztk)) | ((with_reducible show wpAny _ _ (execs (_ :: _) _) _ _ _); (k_here; (with_reducible refine wpAny_execs_cons ?_); (try dsimp only); k_fold)) | walk1))) | fail "no step"))
  (rename Fr _ _ _ _ => FF); (rename News _ _ _ _ => NN)
  obtain ⟨⟨nm, q, bs, sn, sub, ab, col, dd, k0, k1, k2, k3, k5, mN, hC, hn, hi, hsy, hda, hsa, hga, hgt⟩, _⟩ := sig_at (X.keeps FF.keep)
  have hL : L' ≠ e := (NN _ (.head _)).2.1.symm
  have he0 : g'.get? e = none := (NN _ (.head _)).2.2
  refine exc_set0 PySem.F.store_Exception hC hn hsa hsy (exc_no (by decide +kernel)) (NN _ (.head _)).1 rfl rfl (by intro c q; cases q) ?_
  intro h₂ tk₂ e2 n2 kp2
  have F2 : Fr g' L' h₂ _ := ⟨FF.ns.at' fun o q => kp2 _ _ hL q, fun b o q => kp2 b o (by rintro rfl; rw [he0] at q; cases q) (FF.keep b o q), FF.above⟩
  have N2 : News g' L' h₂ [] := News.nil
  have hk1 : ∀ b o, hp.get? b = some o → h₁.get? b = some o := fun b o q => FF.keep _ _ (H.to _ _ (hm.keeps _ _ q) (by
    simp only [List.map_cons, List.map_nil, List.mem_singleton]; rintro rfl; have := hm.new; rw [q] at this; cases this))
  generalize hd0 : h₁.objs.size = d0 at n2 e2
  have hdL : L' ≠ d0 := by rw [← hd0]; exact Nat.ne_of_lt FF.ns.lt
  have hde : d0 ≠ e := by rw [← hd0]; exact (Nat.ne_of_lt (Heap.lt_size (NN _ (.head _)).1)).symm
  have hdp : ∀ b o, hp.get? b = some o → b ≠ d0 := fun b o q => by rw [← hd0]; exact Nat.ne_of_lt (Heap.lt_size (hk1 b o q))
  have hep : ∀ b o, hp.get? b = some o → b ≠ e := fun b o q => by rintro rfl; have := hm.new; rw [q] at this; cases this
  have hgd : ∀ b o, g'.get? b = some o → b ≠ d0 := fun b o q => by rw [← hd0]; exact Nat.ne_of_lt (Heap.lt_size (FF.keep b o q))
  have hk2 : ∀ b o, hp.get? b = some o → h₂.get? b = some o := fun b o q => kp2 _ _ (hep _ _ q) (hk1 b o q)
  clear FF NN
  try dsimp only
  (repeat' (first | (k_unfold; (try dsimp only)) | ((( (fail_if_success (with_reducible show wpAny _ _ (pyIter _) _ _ _)); (fail_if_success (with_reducible show wpAny _ _ (exec (Stmt.While _ _ _ _) _) _ _ _)))); (( (fail_if_success (with_reducible show wpAny _ _ (eval (Expr.ListComp _ _ _ _) _) _ _ _)); (fail_if_success (with_reducible show wpAny _ _ (exec (Stmt.Assign _ (Expr.ListComp _ _ _ _) _) _) _ _ _)); (fail_if_success (with_reducible show LCg.CompSrc _ _ _ _ _ _ _ _ _ _ _ _ _ _)))); first | (first | ((with_reducible show wpAny _ _ (execs (_ :: _) _) _ _ _); (k_here; (with_reducible refine gen_toks ?_); intro zztk)) | ((with_reducible show wpAny _ _ (execs [] _) _ _ _); (k_here; (with_reducible refine gen_toks ?_); intro zztk)) | ((with_reducible show wpAny _ _ (execs (_ :: _) _) _ _ _); (k_here; (with_reducible refine wpAny_execs_cons ?_); (try dsimp only); k_fold)) | walk1) | (dsimp only; (first | ((with_reducible show wpAny _ _ (execs (_ :: _) _) _ _ _); (k_here; (with_reducible refine gen_toks ?_); intro zztk)) | ((with_reducible show wpAny _ _ (execs [] _) _ _ _); (k_here; (with_reducible refine gen_toks ?_); intro zztk)) | ((with_reducible show wpAny _ _ (execs (_ :: _) _) _ _ _); (k_here; (with_reducible refine wpAny_execs_cons ?_); (try dsimp only); k_fold)) | walk1))) | fail "no step"))
  (rename Fr _ _ _ _ => F3)
  obtain ⟨⟨nm', q', bs', sn', sub', ab', col', dd', k0', k1', k2', k3', k5', mN', hC', hn', hi', hsy', hda', hsa', hga', hgt'⟩, _⟩ := sig_at (X.keeps F3.keep)
  refine store_attr PySem.F.store_Exception hC' hn' hsa' hda' (exc_no (by decide +kernel)) (by rintro rfl; exact hep 31 _ hC0 rfl) ⟨_, e2, rfl, (by intro c q; cases q), .inr ⟨d0, rfl, hde, n2⟩⟩ ?_
  intro h₃ tk₃ I3 kp3 sm3
  obtain ⟨o1, e3, c3, dt3, _, dc3⟩ := sm3 _ e2
  have hk3 : ∀ b o, hp.get? b = some o → h₃.get? b = some o := fun b o q => kp3 _ _ (hep _ _ q) (by
    intro o₀ dx z1 z2; rw [e2] at z1; cases z1; cases z2; exact hdp _ _ q) (hk2 b o q)
  have hfr : hp.get? d0 = none := by
    cases q : hp.get? d0 with
    | none => rfl
    | some o => exact absurd rfl (hdp _ _ q)
  have n3 : h₃.Ns1 d0 (fun y => if y = Str.ofString "data" then some f2 else if y = Str.ofString "symbol" then some f1 else none) := by
    obtain ⟨o2, g1, g2, g3, g4⟩ := I3
    rw [e3] at g1; cases g1
    rcases g4 with ⟨z, _⟩ | ⟨dx, z, _, z2⟩
    · rw [dc3 _ rfl] at z; cases z
    · rw [dc3 _ rfl] at z; cases z; exact z2
  have F4 : Fr g' L' h₃ _ := ⟨F3.ns.at' fun o q => kp3 _ _ hL (by intro o₀ dx z1 z2; rw [e2] at z1; cases z1; cases z2; exact hdL) q, fun b o q => kp3 b o (by rintro rfl; rw [he0] at q; cases q) (by
    intro o₀ dx z1 z2; rw [e2] at z1; cases z1; cases z2; exact hgd _ _ q) (F3.keep b o q), F3.above⟩
  have N4 : News g' L' h₃ [] := News.nil
  clear F3
  try dsimp only
  (repeat' (first | (k_unfold; (try dsimp only)) | ((( (fail_if_success (with_reducible show wpAny _ _ (pyIter _) _ _ _)); (fail_if_success (with_reducible show wpAny _ _ (exec (Stmt.While _ _ _ _) _) _ _ _)))); (( (fail_if_success (with_reducible show wpAny _ _ (eval (Expr.ListComp _ _ _ _) _) _ _ _)); (fail_if_success (with_reducible show wpAny _ _ (exec (Stmt.Assign _ (Expr.ListComp _ _ _ _) _) _) _ _ _)); (fail_if_success (with_reducible show LCg.CompSrc _ _ _ _ _ _ _ _ _ _ _ _ _ _)))); first | (first | ((with_reducible show wpAny _ _ (execs (_ :: _) _) _ _ _); (k_here; (with_reducible refine gen_toks ?_); intro zztk)) | ((with_reducible show wpAny _ _ (execs [] _) _ _ _); (k_here; (with_reducible refine gen_toks ?_); intro zztk)) | ((with_reducible show wpAny _ _ (execs (_ :: _) _) _ _ _); (k_here; (with_reducible refine wpAny_execs_cons ?_); (try dsimp only); k_fold)) | walk1) | (dsimp only; (first | ((with_reducible show wpAny _ _ (execs (_ :: _) _) _ _ _); (k_here; (with_reducible refine gen_toks ?_); intro zztk)) | ((with_reducible show wpAny _ _ (execs [] _) _ _ _); (k_here; (with_reducible refine gen_toks ?_); intro zztk)) | ((with_reducible show wpAny _ _ (execs (_ :: _) _) _ _ _); (k_here; (with_reducible refine wpAny_execs_cons ?_); (try dsimp only); k_fold)) | walk1))) | fail "no step"))
  exact hQ e d0 t h₃ _ hk3 hm.new hfr hde ⟨o1, e3, c3, dc3 _ rfl, dt3⟩ n3

theorem zz_reset_NpWing : True := by
  w_top off
  exact trivial
open PySem PySem.W PyProof.Rows PySem.Calls

def Wing (base : Heap) (l : List Env) (e d : Addr) (fl : Value) (h : Heap) : Prop :=
  base.StaysIn h ∧ base.get? e = none ∧ h.FunFrames base l ∧ ∃ oe vs T oT ts, h.get? e = some oe ∧ (oe.cls = .ref 31 ∧ oe.dict = some d) ∧ oe.data = .fields vs ∧ vs[1]? = some (.ref T) ∧ base.get? T = none ∧ T ≠ e ∧
    h.get? T = some oT ∧ oT.data = .fields ts ∧ ts[3]? = some fl

section
variable {M : Model} {A : Around} {E : Value → Shared → Prop} {s : Shared} {base : Heap} {env : Env} {outer l : List Env} {L e d : Addr} {oe : Obj} {vs : Array Value} {Q : Unit → Shared → Prop}

theorem wing_entry {head : Value} {hadNext : Bool} (hfr : A.frames = some (env :: outer)) (hl : s.heap.FunFrames base (env :: outer)) (hf : env.frame = some L)
    (he : s.heap.get? e = some oe) (hc : oe.cls = .ref 31 ∧ oe.dict = some d) (hkb : base.StaysIn s.heap) (hen : base.get? e = none) (hd : oe.data = .fields vs) (hsz : 1 < vs.size)
    (h : ∀ h', Wing base (env :: outer) e d (rawInt L) h' → s.heap.UpToSlots h' → Q () { s with heap := h' }) :
    wpAny M A (do let a ← frameOf env; let pl ← entryPlaceOf L hadNext; let b ← EntryCells.newEntry head a .none (rawInt L) .none pl; setField (.ref e) 1 b) Q E s := by
  have off : e ∉ (env :: outer).filterMap (·.frame) := fun hm => by
    obtain ⟨_, o, ho, hnf⟩ := hl.mem hm
    rw [he] at ho; cases ho; exact hnf vs hd
  refine wpAny_bind (wpAny_frameOf_fun hfr hl hf fun h₁ hs₁ => wpAny_bind (wpAny_entryPlaceOf fun pl hpl => ?_))
  unfold EntryCells.newEntry newFields
  refine wpAny_bind (wpAny_newObj_type ?_ (hpl.sizeOk5 _ _ _ _ _))
  have e₁ : h₁.get? e = some oe := (hs₁.2.1 e off).trans he
  have b₁ : base.StaysIn h₁ := fun b o q => (hs₁.2.1 b fun hm => by rw [(hl.mem hm).1] at q; cases q).trans (hkb b o q)
  have ts3 : ([head, .ref L, .none, rawInt L, .none] ++ (if pl.isEmpty then List.replicate 6 Value.none else pl)).toArray[3]? = some (rawInt L) := by
    first | (simp; done) | (rcases hpl with rfl | ⟨_, _, _, _, _, _, _, rfl⟩ <;> simp)
  generalize ([head, .ref L, .none, rawInt L, .none] ++ (if pl.isEmpty then List.replicate 6 Value.none else pl)).toArray = ts at ts3 ⊢
  have e₂ := Heap.get?_push_of_some (h := h₁) { cls := .type "traceback", dict := none, data := .fields ts } e₁
  refine wpAny_setField e₂ hd hsz (h _ ?_ ?_)
  all_goals (
    have hTe : h₁.objs.size ≠ e := Nat.ne_of_gt (Heap.lt_size e₁)
    have hd₃ := Obj.data_mapFields hd (·.setIfInBounds 1 (Value.ref h₁.objs.size))
    have e₃ := Heap.get?_update_self (Obj.mapFields (·.setIfInBounds 1 (Value.ref h₁.objs.size))) e₂ (Obj.isFreed_of_fields hd₃)
    have T₃ := (Heap.get?_update_other (h₁.push { cls := .type "traceback", dict := none, data := .fields ts }) (Obj.mapFields (·.setIfInBounds 1 (Value.ref h₁.objs.size))) (Ne.symm hTe)).trans (Heap.get?_push_size h₁ rfl)
    have keep : ∀ b o, b ≠ e → h₁.get? b = some o → ((h₁.push { cls := .type "traceback", dict := none, data := .fields ts }).update e (Obj.mapFields (·.setIfInBounds 1 (Value.ref h₁.objs.size)))).get? b = some o :=
      fun b o hbe hb => by rw [Heap.get?_update_other _ _ (Ne.symm hbe)]; exact Heap.get?_push_of_some _ hb
    have slots : ∀ b o, s.heap.get? b = some o → (∀ vs, o.data ≠ .fields vs) → ∃ sl, ((h₁.push { cls := .type "traceback", dict := none, data := .fields ts }).update e (Obj.mapFields (·.setIfInBounds 1 (Value.ref h₁.objs.size)))).get? b = some { o with slots := sl } := fun b o hb hnf => by
      obtain ⟨sl, hs⟩ := hs₁.2.2 b o hb
      exact ⟨sl, keep b _ (fun q => by rw [q, he] at hb; cases hb; exact hnf vs hd) hs⟩)
  · refine ⟨fun b o q => keep b o (fun z => by rw [z, hen] at q; cases q) (b₁ b o q), hen, hl.of_keeps fun b o hb hnf => ?_, _, _, h₁.objs.size, _, ts, e₃, ⟨?_, ?_⟩, hd₃, by simp [hsz], b₁.fresh, hTe, T₃, rfl, ts3⟩
    · obtain ⟨sl, hs⟩ := slots b o hb hnf
      exact ⟨_, hs, rfl⟩
    · exact (Obj.cls_mapFields _ _).trans hc.1
    · obtain ⟨oc, od, odt, osl⟩ := oe
      cases odt <;> exact hc.2
  · exact slots

theorem wing_off {fl : Value} (W : Wing base l e d fl s.heap) (h : ∀ h', Wing base l e d .none h' → s.heap.UpToSlots h' → Q () { s with heap := h' }) : wpAny M A (setFlight (.ref e) none) Q E s := by
  obtain ⟨hkb, hen, hl, oe, vs, T, oT, ts, he, hc, hd, h1, hnT, hTe, hT, hdT, h3⟩ := W
  have other : ∀ b, b ≠ T → (s.heap.update T (Obj.mapFields (·.setIfInBounds 3 ((none : Option Addr).elim Value.none fun f => rawInt f)))).get? b = s.heap.get? b := fun b hb => Heap.get?_update_other _ _ (Ne.symm hb)
  have keep : ∀ b o, s.heap.get? b = some o → (∀ vs, o.data ≠ .fields vs) → (s.heap.update T (Obj.mapFields (·.setIfInBounds 3 ((none : Option Addr).elim Value.none fun f => rawInt f)))).get? b = some o := fun b o hb hnf =>
    (other b fun q => by rw [q, hT] at hb; cases hb; exact hnf ts hdT).trans hb
  unfold setFlight
  refine wpAny_bind (wpAny_field he hd h1 ?_)
  rw [if_pos (show (Value.ref T != Value.none) = true from by simp)]
  have sz : 3 < ts.size := (Array.getElem?_eq_some_iff.mp h3).1
  refine wpAny_setField hT hdT sz (h _ ⟨fun b o q => (other b fun z => by rw [z, hnT] at q; cases q).trans (hkb b o q), hen, hl.of_keeps fun b o hb hnf => ⟨o, keep b o hb hnf, rfl⟩,
    oe, vs, T, _, _, (other e (Ne.symm hTe)).trans he, hc, hd, h1, hnT, hTe, Heap.get?_update_self _ hT (Obj.isFreed_of_fields (Obj.data_mapFields hdT _)), Obj.data_mapFields hdT _, by simp [sz]⟩ fun b o hb hnf => ⟨o.slots, keep b o hb hnf⟩)

theorem wing_leave0 (hfr : A.frames = some (env :: outer)) (hl : s.heap.FunFrames base (env :: outer)) (hf : env.frame = some L) (he : s.heap.get? e = some oe) (hc : oe.cls = .ref 31 ∧ oe.dict = some d)
    (hkb : base.StaysIn s.heap) (hen : base.get? e = none) (hd : oe.data = .fields vs) (h1 : vs[1]? = some .none) (h : ∀ h', Wing base outer e d .none h' → s.heap.UpToSlots h' → Q () { s with heap := h' }) :
    wpAny M A (leaving env (.ref e)) Q E s := by
  unfold leaving noteFrame
  simp only [hf]
  refine wpAny_bind (wpAny_bind (wpAny_field he hd h1 ?_))
  rw [if_neg (by decide)]
  refine wing_entry hfr hl hf he hc hkb hen hd (Array.getElem?_eq_some_iff.mp h1).1 fun h' W u => ?_
  refine wing_off W fun h'' W' u' => ?_
  obtain ⟨k1, k2, ⟨_, _, k3⟩, k4⟩ := W'
  exact h h'' ⟨k1, k2, k3, k4⟩ (u.trans u')

theorem wing_note (hfr : A.frames = some (env :: outer)) (hf : env.frame = some L) (W : Wing base (env :: outer) e d .none s.heap)
    (h : ∀ h', Wing base (env :: outer) e d (rawInt L) h' → s.heap.UpToSlots h' → Q () { s with heap := h' }) : wpAny M A (noteFrame (.ref e) env) Q E s := by
  obtain ⟨hkb, hen, hl, oe, vs, T, oT, ts, he, hc, hd, h1, hnT, hTe, hT, hdT, h3⟩ := W
  unfold noteFrame
  simp only [hf]
  refine wpAny_bind (wpAny_field he hd h1 ?_)
  rw [if_pos (show (Value.ref T != Value.none) = true from by simp)]
  refine wpAny_bind (wpAny_field hT hdT h3 ?_)
  rw [if_neg (show ¬ ((Value.none == rawInt L) = true) from by simp [rawInt])]
  refine wpAny_bind (wpAny_setField hT hdT (Array.getElem?_eq_some_iff.mp h3).1 ?_)
  have other : ∀ b, b ≠ T → (s.heap.update T (Obj.mapFields (·.setIfInBounds 3 Value.none))).get? b = s.heap.get? b := fun b hb => Heap.get?_update_other _ _ (Ne.symm hb)
  have keep : ∀ b o, s.heap.get? b = some o → (∀ vs, o.data ≠ .fields vs) → (s.heap.update T (Obj.mapFields (·.setIfInBounds 3 Value.none))).get? b = some o := fun b o hb hnf =>
    (other b fun q => by rw [q, hT] at hb; cases hb; exact hnf ts hdT).trans hb
  exact wing_entry hfr (hl.of_keeps fun b o hb hnf => ⟨o, keep b o hb hnf, rfl⟩) hf ((other e (Ne.symm hTe)).trans he) hc (fun b o q => (other b fun z => by rw [z, hnT] at q; cases q).trans (hkb b o q)) hen hd
    (Array.getElem?_eq_some_iff.mp h1).1 fun h' W u => h h' W fun b o hb hnf => u b o (keep b o hb hnf) hnf
end

theorem zz_reset_NpLoad : True := by
  w_top off
  exact trivial
open PySem PySem.W PyProof.Rows PySem.Calls
section
open Builtin Builtin.ObjectAttr
variable {prog : Program} {w : World} {A : Around} {E : Value → Shared → Prop} {h : Heap} {g : Array GenState} {d : Drawn} {t : Nat} {os : OsState} {x dx : Addr} {o : Obj} {name : Str} {v : Value}
  {nm q : Str} {bs : List Value} {sn : List Str} {sub : List Value} {ab : Bool} {col : Option Bool} {dd : Option Addr} {k0 k1 k2 k3 k5 : Option Value} {mN mA : Str → Option Value}

theorem exc_check {nameV : Value} {Q : Unit → Shared → Prop}
    (hC : h.get? 31 = some (excClassObj nm q 31 30 bs [.type "Exception", .type "BaseException", .type "object"] true sn sub ab col dd k0 k1 k2 k3 k5 "Exception.__new__"))
    (hx : h.get? x = some o) (hc : o.cls = .ref 31) (hq : Q () ⟨h, g, d, t, os⟩) : wpAny (model prog w) A (checkBuiltinCall "BaseException.__getattribute__" ⟨[.ref x, nameV], []⟩) Q E ⟨h, g, d, t, os⟩ := by
  have hk : builtinKind "BaseException.__getattribute__" = some .slot := by decide +kernel
  have hs : splitId "BaseException.__getattribute__" = some ("BaseException", "__getattribute__") := by decide +kernel
  have hB : (Value.ref 31 :: [Value.type "Exception", .type "BaseException", .type "object"]).contains (.type "BaseException") = true := by decide +kernel
  have ha := PySem.F.args_bexc_ga (.ref x) nameV
  simp only [checkBuiltinCall, hk, hs]
  refine wpAny_bind ?_
  unfold isInstance
  repeat (first | (with_reducible refine wpAny_loadPart_at hx ?_; rw [hc]) | (with_reducible refine wpAny_isSubtype_exc hC ?_; rw [hB]) | wp_step)
  exact hq

theorem exc_entry {tk : Tok} {Q : Fin → Shared → Prop}
    (hC : h.get? 31 = some (excClassObj nm q 31 30 bs [.type "Exception", .type "BaseException", .type "object"] true sn sub ab col dd k0 k1 k2 k3 k5 "Exception.__new__")) (hn : h.Ns 30 mN) (hna : mN name = none)
    (hB : typeLookup (.type "Exception") name = pure none) (hx : h.get? x = some o) (hc : o.cls = .ref 31) (hnc : ∀ c, o.data ≠ .cls c) (hdx : o.dict = some dx) (hns : h.Ns dx mA) (hv : mA name = some v) (hq : Q (.done (.ret v)) ⟨h, g, d, t, os⟩) :
    wpAny (model prog w) A (Builtin.«object.__getattribute__» ⟨[.ref x, .str name tk], []⟩) Q E ⟨h, g, d, t, os⟩ := by
  have f1 := PySem.F.store_Exception.mro
  unfold Builtin.«object.__getattribute__»
  repeat (first | (with_reducible refine wpAny_loadPart_at hx ?_; rw [hc]) | (with_reducible refine wpAny_typeLookup_exc hC hn f1 hB ?_; rw [hna]) | wp_step)
  split
  · rename_i c hcd
    exact absurd hcd (hnc c)
  unfold instanceDict
  repeat (first | (with_reducible refine wpAny_loadPart_at hx ?_; rw [hc]) | with_reducible refine wpAny_loadPart_at hC ?_ | wp_step)
  rw [hdx]
  repeat (first | (with_reducible refine wpAny_nsGet hns ?_; rw [hv]) | wp_step)
  exact hq

set_option maxHeartbeats 4000000 in
theorem exc_attr {expr : Bool} {Q : Value → Shared → Prop} (FB : ExcAttrBase "Exception" [.type "Exception", .type "BaseException", .type "object"])
    (hC : h.get? 31 = some (excClassObj nm q 31 30 bs [.type "Exception", .type "BaseException", .type "object"] true sn sub ab col dd k0 k1 k2 k3 k5 "Exception.__new__")) (hn : h.Ns 30 mN) (hna : mN name = none) (hng : mN "__getattribute__" = none) (hnh : mN "__getattr__" = none)
    (hB : typeLookup (.type "Exception") name = pure none) (hx : h.get? x = some o) (hc : o.cls = .ref 31) (hnc : ∀ c, o.data ≠ .cls c) (hdx : o.dict = some dx) (hns : h.Ns dx mA) (hv : mA name = some v) (hh : handedOut v = pure v) (hq : Q v ⟨h, g, d, t + 1, os⟩) :
    wpAny (model prog w) A (getAttr (.ref x) name expr) Q E ⟨h, g, d, t, os⟩ := by
  have f3 := FB.ga.bind (.ref x)
  have hx0 : (expr && onTheHeap (Value.builtin "BaseException.__getattribute__")) = false := by cases expr <;> rfl
  have hx2 : (Value.builtin "BaseException.__getattribute__" == Value.builtin "object.__getattribute__") = false := by decide +kernel
  have hx1 : (onTheHeap (Value.ref 31) && Value.builtin "BaseException.__getattribute__" == Value.builtin "object.__getattribute__") = false := by rw [hx2]; rfl
  unfold getAttr getAttrBy getAttrByItsOwn hookBefore
  repeat (any_goals (first | (with_reducible refine wpAny_loadPart_at hx ?_; rw [hc]) | (with_reducible refine wpAny_typeLookup_exc hC hn FB.mro FB.ga.lookup ?_; rw [hng]) | (with_reducible refine wpAny_typeLookup_exc hC hn FB.mro FB.noGetattr ?_; rw [hnh]) | wp_step))
  refine codeAny_call_builtin FB.ga.plain PySem.F.entry_bexc_ga (exc_check hC hx hc (exc_entry hC hn hna hB hx hc hnc hdx hns hv ?_))
  repeat (any_goals (first | assumption | wp_step))
end

theorem zz_reset_NpBad : True := by
  w_top off
  exact trivial
open PySem PySem.W PyProof.Rows PySem.Calls
theorem seed_frag_bad : hd.heap_39 = hd.heap_39 ∧ PySem.Challenge.rw_np0012_01 = PySem.Challenge.rw_np0012_01 := by
  k_fill
  exact ⟨rfl, rfl⟩

section
variable {prog : Program} {w : World} {A : Around} {s : Shared}
theorem enterR {Q : Value → Shared → Prop} {E : Value → Shared → Prop} {K : Frag} {name qual : Str} {params : Arguments} {body : List Stmt} {scope : Scope} {dV kV doc pm cdv ct oc : Value} {an od : Option Addr} {osl : Array (Option Value)} {f : Addr} {args : List Value} (binds : List (Str × Value))
    (X : K.In s.heap) (hlim : s.heap.NoLimit)
    (ho : K.lookup f = some ⟨oc, od, .func (fnOf name qual params body scope dV kV doc pm an cdv ct), osl⟩) (hcd : codeIn K cdv qual = true) (hroom : A.depth < recursionLimit)
    (hbind : BindsTo s (fnOf name qual params body scope dV kV doc pm an cdv ct) ⟨args, []⟩ binds) (hloc : ∀ y ∈ binds, scope.names.lookup y.1 = some .local)
    (hco : scope.isCoroutine = false) (hgen : scope.isGenerator = false) (hk : scope.kind = .function)
    (hcell : ∀ x ∈ scope.names, x.2 ≠ .cell)
    (h : ∀ h₁ tk, Fr s.heap s.heap.objs.size h₁ (fun y => binds.reverse.lookup y) → News s.heap s.heap.objs.size h₁ [] →
      wpAny (model prog w) (A.deeper (envOf qual scope s.heap.objs.size f cdv)) (execs body (envOf qual scope s.heap.objs.size f cdv))
        (fun fl s' => Q (match fl with | .ret v => v | _ => .none) s')
        (fun e s' => wpAny (model prog w) (A.deeper (envOf qual scope s.heap.objs.size f cdv)) (leaving (envOf qual scope s.heap.objs.size f cdv) e) (fun _ s'' => E e s'') (fun e' s'' => E e' s'') s')
        { s with heap := h₁, toks := tk }) : wpAny (model prog w) A (call (.ref f) args) Q E s := by
  refine wpAny_call ?_
  refine codeAny_call_def (fd := fnOf name qual params body scope dV kV doc pm an cdv ct) (body := body) (binds := binds) hroom (X _ _ ho) rfl hlim (codeRec_of X hcd) rfl hbind hcell hloc (fun h₁ hns hk₁ => ?_) hco hgen hk
  exact wpAny_mono (h h₁ _ ⟨hns, hk₁, Nat.le_refl _⟩ News.nil) (fun fl s' q => by exact q) fun _ _ q => by exact q
end

section
variable {prog : Program} {w : World} {A : Around} {E : Value → Shared → Prop} {s : Shared} {env : Env}
theorem raise_sig {x : Sem Value} {Q : Flow → Shared → Prop} (hh : A.handled = none)
    (h : wpAny (model prog w) A x (fun v s₁ => ∃ e d t sl, v = .ref e ∧ SigAt s₁.heap ∧ s₁.heap.get? e = some ⟨.ref 31, some d, .fields #[.ref t, .none, .none, .none, .bool false, .none], sl⟩ ∧ E (.ref e) s₁) E s) : wpAny (model prog w) A (raiseStmt env (some x) none) Q E s := by
  have hB : (Value.ref 31 :: [Value.type "Exception", .type "BaseException", .type "object"]).contains (.type "BaseException") = true := by decide +kernel
  unfold raiseStmt
  refine wpAny_bind (wpAny_mono h (fun v s₁ h₁ => ?_) fun _ _ x => x)
  obtain ⟨e, d₁, t, sl, rfl, ⟨⟨nm, q, bs, sn, sub, ab, col, dd, k0, k1, k2, k3, k5, mN, hC, _⟩, _⟩, he, hE⟩ := h₁
  obtain ⟨hp, g, d, tk, os⟩ := s₁
  repeat (first | (with_reducible refine wpAny_loadPart_at he ?_) | with_reducible refine wpAny_loadPart_at hC ?_ | (with_reducible refine wpAny_isSubtype_exc hC ?_; rw [hB]) | wp_step)
  exact wpAny_raiseNew_none hh hE
theorem exec_raise_sig {c : Expr} {pos : Pos} {Q : Flow → Shared → Prop} (hh : A.handled = none)
    (h : wpAny (model prog w) A (eval c env) (fun v s₁ => ∃ e d t sl, v = .ref e ∧ SigAt s₁.heap ∧ s₁.heap.get? e = some ⟨.ref 31, some d, .fields #[.ref t, .none, .none, .none, .bool false, .none], sl⟩ ∧ E (.ref e) s₁) E s) :
    wpAny (model prog w) A (exec (.Raise (some c) none pos) env) Q E s := by
  rw [arm_exec_Raise]
  simp only [evalOpt, Option.map]
  refine wpAny_bind (wpAny_standAt (raise_sig hh ?_))
  exact wpAny_bind (wpAny_mono h (fun v s₁ q => wpAny_bind (wpAny_standAt (wpAny_pure q))) fun _ _ q => q)
end

set_option maxHeartbeats 4000000 in
theorem bad_spec {w : World} {prog : Program} {A : Around} {s : Shared} {Q : Value → Shared → Prop} {E : Value → Shared → Prop} {f : Value}
    (B : Base w s.heap) (hd : A.depth ≤ 800)
    (hQ : ∀ e d t l c tk' sl h' tk, Kept s.heap h' → s.heap.get? e = none → s.heap.get? d = none → s.heap.get? l = none → d ≠ e → h'.get? e = some ⟨.ref 31, some d, .fields #[.ref t, .none, .none, .none, .bool false, .none], sl⟩ →
      h'.Ns1 d (fun y => if y = Str.ofString "data" then some (.ref l) else if y = Str.ofString "symbol" then some (.str (Str.ofString "invalid-function") tk') else none) → h'.get? l = some (listOf [f].toArray c) → Q (.ref e) { s with heap := h', toks := tk }) :
    wpAny (model prog w) A (call (.ref 143) [f]) Q E s := by
  have X := B.X
  obtain ⟨p, loose, mean, mg, mb, T⟩ := B.T
  k_dflt (refine' enter [(Str.ofString "function", f)] X T.nolimit ?k6 ?k7 ?k8 ?k9 ?kB ?c2 ?c3 ?c4 ?c5 ?_)
  ((k_dflt ((case k6 => k_is); (case k7 => k_is); (case k8 => k_room); (case k9 => first | exact BindsTo.of_eq rfl | exact binds_K (by k_in) rfl (by k_is) rfl rfl rfl); (case kB => exact locs rfl); (case c2 => exact rfl); (case c3 => exact rfl); (case c4 => exact rfl); (case c5 => decide))))
  intro L' h₁ tk F N
  (repeat' (first | (k_unfold; (try dsimp only)) | ((( (fail_if_success (with_reducible show wpAny _ _ (pyIter _) _ _ _)); (fail_if_success (with_reducible show wpAny _ _ (exec (Stmt.While _ _ _ _) _) _ _ _)))); (( (fail_if_success (with_reducible show wpAny _ _ (eval (Expr.ListComp _ _ _ _) _) _ _ _)); (fail_if_success (with_reducible show wpAny _ _ (exec (Stmt.Assign _ (Expr.ListComp _ _ _ _) _) _) _ _ _)); (fail_if_success (with_reducible show LCg.CompSrc _ _ _ _ _ _ _ _ _ _ _ _ _ _)))); first | (first | ((with_reducible show wpAny _ _ (execs (_ :: _) _) _ _ _); (k_here; (with_reducible refine gen_toks ?_); intro zztk)) | ((with_reducible show wpAny _ _ (execs [] _) _ _ _); (k_here; (with_reducible refine gen_toks ?_); intro zztk)) | ((with_reducible show wpAny _ _ (execs (_ :: _) _) _ _ _); (k_here; (with_reducible refine wpAny_execs_cons ?_); (try dsimp only); k_fold)) | walk1) | (dsimp only; (first | ((with_reducible show wpAny _ _ (execs (_ :: _) _) _ _ _); (k_here; (with_reducible refine gen_toks ?_); intro zztk)) | ((with_reducible show wpAny _ _ (execs [] _) _ _ _); (k_here; (with_reducible refine gen_toks ?_); intro zztk)) | ((with_reducible show wpAny _ _ (execs (_ :: _) _) _ _ _); (k_here; (with_reducible refine wpAny_execs_cons ?_); (try dsimp only); k_fold)) | walk1))) | fail "no step"))
  (rename Fr _ _ _ _ => F2); (rename News _ _ _ _ => N2)
  have fresh : ∀ {a : Addr} {h₂ : Heap}, Kept s.heap h₂ → h₂.get? a = none → s.heap.get? a = none := fun {a h₂} k q => by
    cases z : s.heap.get? a with
    | none => rfl
    | some o => rw [k _ _ z] at q; cases q
  refine mk_sig (B.keeps F2.keep) (by simp only [depth_deeper]; omega) ?_
  rintro e d t h' tk' kp he hd' hne ⟨⟨oc, od, odt, sl⟩, e1, rfl, rfl, rfl⟩ n1
  exact hQ e d t _ _ _ sl h' _ (Kept.trans F2.keep kp) (fresh F2.keep he) (fresh F2.keep hd') (N2 _ (.head _)).2.2 hne e1 n1 (kp _ _ (N2 _ (.head _)).1)

theorem zz_reset_NpRll : True := by
  w_top off
  exact trivial
open PySem PySem.W PyProof.Rows PySem.Calls
theorem seed_frag_rll : hd.heap_39 = hd.heap_39 ∧ PySem.Challenge.rw_np0012_01 = PySem.Challenge.rw_np0012_01 := by
  k_fill
  exact ⟨rfl, rfl⟩

def W7 : List Str := [Str.ofString "a", Str.ofString "b", Str.ofString "c", Str.ofString "d", Str.ofString "e", Str.ofString "&optional", Str.ofString "&rest"]
inductive ItemIs (P : Addr → Obj → Prop) : Value → Str → Prop where
  | seven {t : Nat} : ItemIs P (.int 7 t) (Str.ofString "7")
  | sym {a d : Addr} {k1 k2 : Int} {t1 t2 n t : Nat} {nv : Value} {x : Str} : P a (instObj 51 d) → P d (dictOf [⟨k1, .str (Str.ofString "number") t1, nv⟩, ⟨k2, .str (Str.ofString "name") t2, .str x t⟩] n) → x ∈ W7 → ItemIs P (.ref a) x
theorem ItemIs.mono {P P' : Addr → Obj → Prop} {v : Value} {x : Str} (h : ItemIs P v x) (k : ∀ a o, P a o → P' a o) : ItemIs P' v x := by
  cases h with
  | seven => exact .seven
  | sym h1 h2 h3 => exact .sym (k _ _ h1) (k _ _ h2) h3
inductive ItemsAre (P : Addr → Obj → Prop) : List Value → List Str → Prop where
  | nil : ItemsAre P [] []
  | cons {v : Value} {x : Str} {vs : List Value} {xs : List Str} : ItemIs P v x → ItemsAre P vs xs → ItemsAre P (v :: vs) (x :: xs)
theorem ItemsAre.mono {P P' : Addr → Obj → Prop} {vs : List Value} {xs : List Str} (h : ItemsAre P vs xs) (k : ∀ a o, P a o → P' a o) : ItemsAre P' vs xs := by
  induction h with
  | nil => exact .nil
  | cons h _ ih => exact .cons (h.mono k) ih
theorem ItemsAre.length {P : Addr → Obj → Prop} {vs : List Value} {xs : List Str} (h : ItemsAre P vs xs) : vs.length = xs.length := by
  induction h with
  | nil => rfl
  | cons _ _ ih => simp only [List.length_cons, ih]
theorem ItemsAre.snoc {P : Addr → Obj → Prop} {vs : List Value} {xs : List Str} {v : Value} {x : Str} (h : ItemsAre P vs xs) (hv : ItemIs P v x) : ItemsAre P (vs ++ [v]) (xs ++ [x]) := by
  induction h with
  | nil => exact .cons hv .nil
  | cons h _ ih => exact .cons h ih
theorem ItemsAre.get {P : Addr → Obj → Prop} {vs : List Value} {xs : List Str} (h : ItemsAre P vs xs) : ∀ (i : Nat), i < vs.length → ∃ v x, vs[i]? = some v ∧ xs[i]? = some x ∧ ItemIs P v x := by
  induction h with
  | nil => intro i hi; cases hi
  | cons h _ ih =>
    intro i hi
    cases i with
    | zero => exact ⟨_, _, rfl, rfl, h⟩
    | succ i => exact ih i (Nat.lt_of_succ_lt_succ hi)
theorem ItemsAre.handed {P : Addr → Obj → Prop} {vs : List Value} {xs : List Str} (h : ItemsAre P vs xs) : ∀ v ∈ vs, handedIn v = true := by
  induction h with
  | nil => exact fun _ h => nomatch h
  | cons h _ ih => exact List.forall_mem_cons.mpr ⟨by cases h <;> rfl, ih⟩

def rdl : List Str → List Str → List Str → Option Str → Nat → Option (List Str × List Str × Option Str)
  | [], nd, op, rs, _ => some (nd, op, rs)
  | x :: r, nd, op, rs, k =>
    if x = Str.ofString "&optional" ∧ k = 0 then rdl r nd op rs 1
    else if x = Str.ofString "&rest" ∧ k < 2 ∧ r.length = 1 then rdl r nd op rs 2
    else if x = Str.ofString "&optional" ∨ x = Str.ofString "&rest" then none
    else if k = 0 then rdl r (nd ++ [x]) op rs k
    else if k = 1 then rdl r nd (op ++ [x]) rs k
    else rdl r nd op (some x) k

theorem items_call {w : World} {prog : Program} {dp un : Nat} {fr : Option (List Env)} {gd : Option (List Code)} {s : Shared} {Q : Value → Shared → Prop} {E : Value → Shared → Prop} {h₀ : Heap} {L : Addr} {m : Str → Option Value} {news : List (Addr × Obj)} {v : Value} {xs : List Value}
    (B : Base w h₀) (F : Fr h₀ L s.heap m) (N : News h₀ L s.heap news) (hd : dp ≤ 790) (hl : LstAt (At s.heap) (.ref 57) v xs) (hz : xs.length ≤ 1000) (hxs : ∀ x ∈ xs, handedIn x = true)
    (hQ : ∀ lt h' tk n2, Fr h₀ L h' m → News h₀ L h' ((lt, listOf xs.toArray n2) :: news) → (∀ p ∈ news, p.1 ≠ lt) → Kept s.heap h' → Q (.ref lt) { s with heap := h', toks := tk }) :
    wpAny (model prog w) (Ar dp fr gd un) (call (.ref 101) [v]) Q E s :=
  items_of_spec (B.keeps F.keep) hd (.inl rfl) hl hz hxs (fun _ lt h' tk n2 k e1 g1 => hQ _ _ _ _ (fr_kept F k) (news_new F e1 g1 (news_kept N k)) (fun p hp q => by
    have := (N p hp).1; rw [q, e1] at this; cases this) k) fun ⟨_, q⟩ => by cases q
theorem items_call7 {w : World} {prog : Program} {dp un : Nat} {fr : Option (List Env)} {gd : Option (List Code)} {s : Shared} {Q : Value → Shared → Prop} {E : Value → Shared → Prop} {h₀ : Heap} {L : Addr} {m : Str → Option Value} {news : List (Addr × Obj)} {v : Value} {xs : List Value} {t : Nat}
    (B : Base w h₀) (F : Fr h₀ L s.heap m) (N : News h₀ L s.heap news) (hd : dp ≤ 790) (hl : LstAt (At s.heap) (.int 7 t) v xs) (hz : xs.length ≤ 1000) (hxs : ∀ x ∈ xs, handedIn x = true)
    (hQ : ∀ h' tk, Fr h₀ L h' m → News h₀ L h' news → Q .none { s with heap := h', toks := tk }) :
    wpAny (model prog w) (Ar dp fr gd un) (call (.ref 101) [v]) Q E s :=
  items_of_spec (B.keeps F.keep) hd (.inr ⟨_, rfl⟩) hl hz hxs (fun q => by cases q) fun _ h' tk k => hQ _ _ (fr_kept F k) (news_kept N k)

inductive RestIs (P : Addr → Obj → Prop) : Value → Option Str → Prop where
  | none : RestIs P .none none
  | some {v : Value} {x : Str} : ItemIs P v x → x ≠ Str.ofString "7" → RestIs P v (some x)

local macro_rules | `(tactic| lsm_bools) => `(tactic| assumption)

theorem bools_snoc : ∀ {vs : List Value} {bs : List Bool} {b : Bool}, LSm.BoolsAre vs bs → LSm.BoolsAre (vs ++ [.bool b]) (bs ++ [b])
  | _, _, _, .nil => .cons _ .nil
  | _, _, _, .cons _ r => .cons _ (bools_snoc r)
theorem no1 {x : Str} (a : (x == Str.ofString "&optional") = true) (b : (x == Str.ofString "&rest") = true) : False := by
  rw [beq_iff_eq] at a b; subst a; revert b; decide +kernel
theorem no2 {x : Str} (a : (x == Str.ofString "&optional") = true) (b : (List.any [Str.ofString "&optional", Str.ofString "&rest"] fun y => y == x) = false) : False := by
  rw [beq_iff_eq] at a; subst a; revert b; decide +kernel
theorem no3 {x : Str} (a : (x == Str.ofString "&rest") = true) (b : (List.any [Str.ofString "&optional", Str.ofString "&rest"] fun y => y == x) = false) : False := by
  rw [beq_iff_eq] at a; subst a; revert b; decide +kernel
theorem no4 {x : Str} (a : (x == Str.ofString "&optional") = false) (b : (x == Str.ofString "&rest") = false) (c : (List.any [Str.ofString "&optional", Str.ofString "&rest"] fun y => y == x) = true) : False := by
  rw [List.any_cons, List.any_cons, List.any_nil, Bool.or_false, Bool.or_eq_true, beq_iff_eq, beq_iff_eq] at c
  rcases c with rfl | rfl
  · simp at a
  · simp at b
section
variable {x : Str} {r nd op : List Str} {rs : Option Str} {k : Int}
theorem stepO (a : (x == Str.ofString "&optional") = true) (b : k = 0) : rdl (x :: r) nd op rs k.toNat = rdl r nd op rs (1 : Int).toNat := by
  rw [beq_iff_eq] at a; subst a b; rw [rdl, if_pos ⟨rfl, rfl⟩]; rfl
theorem stepR {n i m : Nat} (a : (x == Str.ofString "&rest") = true) (b : k < 2) (hk : 0 ≤ k) (hm : (0 : Int) + (i : Int) * 1 = (m : Int) - 2) (hn : m = n) (hr : r.length = n - (i + 1)) (hi : i < n) : rdl (x :: r) nd op rs k.toNat = rdl r nd op rs (2 : Int).toNat := by
  rw [beq_iff_eq] at a; subst a
  rw [rdl, if_neg (by intro q; exact absurd q.1 (by decide +kernel)), if_pos ⟨rfl, by omega, by omega⟩]; rfl
theorem stepN {n i m : Nat} (a : (List.any [Str.ofString "&optional", Str.ofString "&rest"] fun y => y == x) = true) (h1 : (x == Str.ofString "&optional") = false ∨ k ≠ 0) (h2 : (x == Str.ofString "&rest") = false ∨ ¬ k < 2 ∨ (0 : Int) + (i : Int) * 1 ≠ (m : Int) - 2) (hk : 0 ≤ k) (hn : m = n) (hr : r.length = n - (i + 1)) (hi : i < n) :
    rdl (x :: r) nd op rs k.toNat = none := by
  have a' : x = Str.ofString "&optional" ∨ x = Str.ofString "&rest" := by
    rw [List.any_cons, List.any_cons, List.any_nil, Bool.or_false, Bool.or_eq_true, beq_iff_eq, beq_iff_eq] at a
    exact a.imp Eq.symm Eq.symm
  rw [rdl, if_neg ?_, if_neg ?_, if_pos a']
  · rintro ⟨e, e2, e3⟩
    rcases h2 with h | h | h
    · rw [beq_eq_false_iff_ne] at h; exact h e
    · omega
    · omega
  · rintro ⟨e, e2⟩
    rcases h1 with h | h
    · rw [beq_eq_false_iff_ne] at h; exact h e
    · omega
theorem stepP (a : (x == Str.ofString "&optional") = false) (b : (x == Str.ofString "&rest") = false) : rdl (x :: r) nd op rs k.toNat = if k.toNat = 0 then rdl r (nd ++ [x]) op rs k.toNat else if k.toNat = 1 then rdl r nd (op ++ [x]) rs k.toNat else rdl r nd op (some x) k.toNat := by
  rw [beq_eq_false_iff_ne] at a b
  rw [rdl, if_neg (fun q => a q.1), if_neg (fun q => b q.1), if_neg (fun q => q.elim a b)]
theorem step0 (a : (x == Str.ofString "&optional") = false) (b : (x == Str.ofString "&rest") = false) (h : k = 0) : rdl (x :: r) nd op rs k.toNat = rdl r (nd ++ [x]) op rs k.toNat := by
  rw [stepP a b, if_pos (by omega)]
theorem step1 (a : (x == Str.ofString "&optional") = false) (b : (x == Str.ofString "&rest") = false) (h0 : k ≠ 0) (hk : 0 ≤ k) (h : k = 1) : rdl (x :: r) nd op rs k.toNat = rdl r nd (op ++ [x]) rs k.toNat := by
  rw [stepP a b, if_neg (by omega), if_pos (by omega)]
theorem step2 (a : (x == Str.ofString "&optional") = false) (b : (x == Str.ofString "&rest") = false) (h0 : k ≠ 0) (hk : 0 ≤ k) (h : k ≠ 1) : rdl (x :: r) nd op rs k.toNat = rdl r nd op (some x) k.toNat := by
  rw [stepP a b, if_neg (by omega), if_neg (by omega)]
end

def RllJ (P : Addr → Obj → Prop) (ws : List Str) (zs : List Value) (f : Value) (il : Addr) (c0 i : Nat) (m : Str → Option Value) (nx : List (Addr × Obj)) : Prop :=
  ∃ (nl ol : Addr) (zn zo : List Value) (nd op : List Str) (rs : Option Str) (rv : Value) (k : Int) (kt c1 c2 : Nat), m (Str.ofString "needed") = some (.ref nl) ∧ m (Str.ofString "optional") = some (.ref ol) ∧ m (Str.ofString "rest") = some rv ∧ m (Str.ofString "sort") = some (.int k kt) ∧ m (Str.ofString "items") = some (.ref il) ∧ m (Str.ofString "function") = some f ∧
    nx = [(nl, listOf zn.toArray c1), (ol, listOf zo.toArray c2), (il, listOf zs.toArray c0)] ∧ rdl ws [] [] none 0 = rdl (ws.drop i) nd op rs k.toNat ∧ ItemsAre P zn nd ∧ ItemsAre P zo op ∧ RestIs P rv rs ∧ zn.length ≤ i ∧ zo.length ≤ i ∧ 0 ≤ k ∧
    (@Ne Nat nl ol) ∧ (@Ne Nat nl il) ∧ (@Ne Nat ol il)
theorem tb3 {h₀ h' : Heap} {L a b c : Addr} {oa ob oc : Obj} {J : (Str → Option Value) → List (Addr × Obj) → Prop} {own news' : List (Addr × Obj)} {m' : Str → Option Value} {s₁ : Shared} {tk : Nat}
    (F : Fr h₀ L h' m') (N : News h₀ L h' news') (sa : (a, oa) ∈ news') (sb : (b, ob) ∈ news') (sc : (c, oc) ∈ news') (so : ∀ p ∈ own, p ∈ news') (o1 : ∀ p ∈ own, p.1 ≠ a) (o2 : ∀ p ∈ own, p.1 ≠ b) (o3 : ∀ p ∈ own, p.1 ≠ c)
    (hj : J m' [(a, oa), (b, ob), (c, oc)]) : TbEnd h₀ L J own s₁ { s₁ with heap := h', toks := tk } := by
  refine ⟨h', tk, m', news', _, rfl, F, N, ?_, so, ?_, hj⟩
  · intro p hp
    simp only [List.mem_cons, List.not_mem_nil, or_false] at hp
    rcases hp with rfl | rfl | rfl <;> assumption
  · intro p hp q hq
    simp only [List.mem_cons, List.not_mem_nil, or_false] at hq
    rcases hq with rfl | rfl | rfl
    · exact o1 p hp
    · exact o2 p hp
    · exact o3 p hp
local macro_rules | `(tactic| k_all) => `(tactic| assumption)
structure BoolJ (news : List (Addr × Obj)) (xs : List Str) (i : Nat) (ys : List Value) (nx : List (Addr × Obj)) : Prop where
  b : LSm.BoolsAre ys ((xs.take i).map fun x => decide (x ≠ Str.ofString "7"))
  led : nx = news

theorem sig_leaves {M : Model} {A : Around} {E' E : Value → Shared → Prop} {s : Shared} {base h₂ h₃ : Heap} {env : Env} {outer : List Env} {m : Str → Option Value} {e d t l : Addr} {c tk₃ : Nat} {tk' : Tok} {sl : Array (Option Value)} {f : Value}
    (hfr : A.frames = some (env :: outer)) (hf : env.frame = some s.heap.objs.size) (hke : env.scope.kind ≠ .module) (hFF : s.heap.FunFrames base outer) (hst : base.StaysIn s.heap)
    (F : Fr s.heap s.heap.objs.size h₂ m) (kp : Kept h₂ h₃) (he : h₂.get? e = none) (hd : h₂.get? d = none) (hl : h₂.get? l = none)
    (e1 : h₃.get? e = some ⟨.ref 31, some d, .fields #[.ref t, .none, .none, .none, .bool false, .none], sl⟩)
    (n1 : h₃.Ns1 d (fun y => if y = Str.ofString "data" then some (.ref l) else if y = Str.ofString "symbol" then some (.str (Str.ofString "invalid-function") tk') else none)) (g1 : h₃.get? l = some (listOf [f].toArray c))
    (hE : ∀ e d l c tk' h' tk, Wing base outer e d .none h' → s.heap.UpToSlots h' → base.get? d = none → base.get? l = none →
      h'.Ns d (fun y => if y = Str.ofString "data" then some (.ref l) else if y = Str.ofString "symbol" then some (.str (Str.ofString "invalid-function") tk') else none) → (∃ sl, h'.get? l = some { listOf [f].toArray c with slots := sl }) → E (.ref e) { s with heap := h', toks := tk }) :
    wpAny M A (leaving env (.ref e)) (fun _ s'' => E (.ref e) s'') E' { s with heap := h₃, toks := tk₃ } := by
  have fresh : ∀ {a : Addr}, h₂.get? a = none → base.get? a = none := fun {a} q => by
    cases z : base.get? a with
    | none => rfl
    | some o => rw [F.keep _ _ (hst _ _ z)] at q; cases q
  have hL : base.get? s.heap.objs.size = none := by
    cases z : base.get? s.heap.objs.size with
    | none => rfl
    | some o => exact absurd (Heap.lt_size (hst _ _ z)) (Nat.lt_irrefl _)
  obtain ⟨oL, es, ep, hoL, hdL, _⟩ := F.ns
  refine wing_leave0 hfr ⟨hke, ⟨_, oL, hf, hL, kp _ _ hoL, fun vs q => by rw [hdL] at q; cases q⟩, hFF.of_keeps fun b o q _ => ⟨o, kp _ _ (F.keep _ _ q), rfl⟩⟩ hf e1 ⟨rfl, rfl⟩ (fun b o q => kp _ _ (F.keep _ _ (hst _ _ q))) (fresh he) rfl rfl fun h' W u => ?_
  obtain ⟨sl', g2⟩ := u _ _ g1 (by intro vs q; cases q)
  exact hE e d l c tk' h' tk₃ W ((Heap.UpToSlots.of_keeps F.keep).trans ((Heap.UpToSlots.of_keeps kp).trans u)) (fresh hd) (fresh hl) (u.ns n1.ns) ⟨sl', g2⟩

set_option maxHeartbeats 4000000 in
theorem rll_spec {w : World} {prog : Program} {dp un : Nat} {outer : List Env} {gd : Option (List Code)} {s : Shared} {Q : Value → Shared → Prop} {E : Value → Shared → Prop} {base : Heap} {P : Addr → Obj → Prop} {v f tail : Value} {zs : List Value} {ws : List Str}
    (B : Base w s.heap) (hd : dp ≤ 700) (hu : un ≤ 4000) (hFF : s.heap.FunFrames base outer) (hst : base.StaysIn s.heap)
    (ht : tail = .ref 57 ∨ ∃ t, tail = .int 7 t) (hl : LstAt (At s.heap) tail v zs) (hi : ItemsAre P zs ws) (hP : ∀ a o, P a o → s.heap.get? a = some o) (hz : zs.length ≤ 100)
    (hQ : ∀ nd op rs zn zo rv x dx nl ol k1 t1 k2 t2 k3 t3 c1 c2 h' tk, tail = .ref 57 → Str.ofString "7" ∉ ws → rdl ws [] [] none 0 = some (nd, op, rs) → ItemsAre P zn nd → ItemsAre P zo op → RestIs P rv rs → Kept s.heap h' →
      (∀ p ∈ ([(x, instObj 132 dx), (dx, dictOf [⟨k1, .str (Str.ofString "needed") t1, .ref nl⟩, ⟨k2, .str (Str.ofString "optional") t2, .ref ol⟩, ⟨k3, .str (Str.ofString "rest") t3, rv⟩] 3), (nl, listOf (List.toArray zn) c1), (ol, listOf (List.toArray zo) c2)] : List (Addr × Obj)), h'.get? p.1 = some p.2 ∧ s.heap.get? p.1 = none) →
      Q (.ref x) { s with heap := h', toks := tk })
    (hE : ∀ e d l c tk' h' tk, (tail = .ref 57 → Str.ofString "7" ∈ ws ∨ rdl ws [] [] none 0 = none) → Wing base outer e d .none h' → s.heap.UpToSlots h' → base.get? d = none → base.get? l = none →
      h'.Ns d (fun y => if y = Str.ofString "data" then some (.ref l) else if y = Str.ofString "symbol" then some (.str (Str.ofString "invalid-function") tk') else none) → (∃ sl, h'.get? l = some { listOf [f].toArray c with slots := sl }) → E (.ref e) { s with heap := h', toks := tk }) :
    wpAny (model prog w) (Ar dp (some outer) gd un) (call (.ref 148) [v, f]) Q E s := by
  have X := B.X
  obtain ⟨p, loose, mean, mg, mb, T⟩ := B.T
  k_dflt (refine' enterR [(Str.ofString "datum", v), (Str.ofString "function", f)] X T.nolimit ?k6 ?k7 ?k8 ?k9 ?kB ?c2 ?c3 ?c4 ?c5 ?_)
  ((k_dflt ((case k6 => k_is); (case k7 => k_is); (case k8 => k_room); (case k9 => first | exact BindsTo.of_eq rfl | exact binds_K (by k_in) rfl (by k_is) rfl rfl rfl); (case kB => exact locs rfl); (case c2 => exact rfl); (case c3 => exact rfl); (case c4 => exact rfl); (case c5 => decide))))
  intro h₁ tk F N
  have hout : (tail = .ref 57 → Str.ofString "7" ∈ ws ∨ rdl ws [] [] none 0 = none) → ∀ {A' : Around} {env : Env} {E' : Value → Shared → Prop} {h₂ h₃ : Heap} {m : Str → Option Value} {e d t l : Addr} {c tk₃ : Nat} {tk' : Tok} {sl : Array (Option Value)}, A'.frames = some (env :: outer) → env.frame = some s.heap.objs.size →
      Fr s.heap s.heap.objs.size h₂ m → h₃.get? e = some ⟨.ref 31, some d, .fields #[.ref t, .none, .none, .none, .bool false, .none], sl⟩ →
      h₃.Ns1 d (fun y => if y = Str.ofString "data" then some (.ref l) else if y = Str.ofString "symbol" then some (.str (Str.ofString "invalid-function") tk') else none) → h₃.get? l = some (listOf [f].toArray c) → Kept h₂ h₃ → h₂.get? e = none → h₂.get? d = none → h₂.get? l = none → env.scope.kind ≠ .module →
      wpAny (model prog w) A' (leaving env (.ref e)) (fun _ s'' => E (.ref e) s'') E' { s with heap := h₃, toks := tk₃ } :=
    fun hc {A' env E' h₂ h₃ m e d t l c tk₃ tk' sl} b1 b2 b3 b4 b5 b6 b7 b8 b9 b10 b11 => sig_leaves b1 b2 b11 hFF hst b3 b7 b8 b9 b10 b4 b5 b6 fun e d l c tk' h' tk => hE e d l c tk' h' tk hc
  rcases ht with rfl | ⟨t7, rfl⟩
  · (repeat' (first | (k_unfold; (try dsimp only)) | ((( (fail_if_success (with_reducible show wpAny _ _ (pyIter _) _ _ _)); (fail_if_success (with_reducible show wpAny _ _ (exec (Stmt.While _ _ _ _) _) _ _ _)))); (( (fail_if_success (with_reducible show wpAny _ _ (eval (Expr.ListComp _ _ _ _) _) _ _ _)); (fail_if_success (with_reducible show wpAny _ _ (exec (Stmt.Assign _ (Expr.ListComp _ _ _ _) _) _) _ _ _)); (fail_if_success (with_reducible show LCg.CompSrc _ _ _ _ _ _ _ _ _ _ _ _ _ _)))); first | (first | ((with_reducible show wpAny _ _ (execs [] _) _ _ _); (k_here; (with_reducible refine gen_toks ?_); intro zztk)) | ((with_reducible show wpAny _ _ (execs (_ :: _) _) _ _ _); (k_here; (with_reducible refine gen_toks ?_); intro zztk)) | ((with_reducible show wpAny _ _ (execs (_ :: _) _) _ _ _); (k_here; (with_reducible refine wpAny_execs_cons ?_); (try dsimp only); k_fold)) | (((with_reducible show wpAny _ _ (call (Value.ref 143) [_]) _ _ _); (rename Fr _ _ _ _ => zzlF'); (rename Base _ _ => zzlB'); k_dflt (refine' bad_spec (zzlB'.keeps zzlF'.keep) (by k_room) ?_); intro zze' zzd' zzt' zzl' zzc' zztk'' zzsl' zzh' zztk' zzkp' zzhe' zzhd' zzhl' zzhne' zze1' zzn1' zzg1'; refine ⟨_, _, _, _, rfl, sig_at ((zzlB'.keeps zzlF'.keep).keeps zzkp').X, zze1', ?_⟩; (try dsimp only))) | ((with_reducible show wpAny _ _ (exec (Stmt.Raise _ _ _) _) _ _ _); (k_here; k_dflt (refine exec_raise_sig (by rfl) ?_))) | (((with_reducible show wpAny _ _ (call (Value.ref 132) [_, _, _]) _ _ _); k_dflt (refine' mk_told (by assumption) (by k_asm) (by k_asm) (by k_room) ?_; k_whole); intro zzx' zzdx' zzh' zztk' zzk1' zzt1' zzk2' zzt2' zzk3' zzt3' zzF' zzN' zzl1' zzl2'; (try k_sweep))) | ((with_reducible show wpAny _ _ (subscriptTail (Expr.Name _ _) (Expr.Name _ _) (Value.ref _) (Value.int _ _)) _ _ _); (k_dflt (refine' item_list (by is_list) (by (first | decide | omega | (simp only [List.size_toArray] at *; omega))) (by (first | decide | omega | (simp only [List.size_toArray] at *; omega))) (by assumption) ?_))) | ((with_reducible show wpAny _ _ (exec (Stmt.For (Expr.Name _ _) (Expr.Call _ _ _ _) _ _ _) _) _ _ _); (k_here; (rename Fr _ _ _ _ => zzlF'); (with_unfolding_all refine' For_invVF zzlF' (by exact rfl) (by exact rfl) ?_; k_whole))) | ((with_reducible show wpAny _ _ (call (Value.builtin "len") [_]) _ _ _); (k_dflt (refine' call_len_list (by is_list) (by (first | decide | (simp only [List.size_toArray]; omega) | (simp only [List.size_toArray, List.length_cons, List.length_append, List.length_map, List.length_nil, List.length_take, List.length_drop]; omega))) ?_))) | walk1) | (dsimp only; (first | ((with_reducible show wpAny _ _ (execs [] _) _ _ _); (k_here; (with_reducible refine gen_toks ?_); intro zztk)) | ((with_reducible show wpAny _ _ (execs (_ :: _) _) _ _ _); (k_here; (with_reducible refine gen_toks ?_); intro zztk)) | ((with_reducible show wpAny _ _ (execs (_ :: _) _) _ _ _); (k_here; (with_reducible refine wpAny_execs_cons ?_); (try dsimp only); k_fold)) | (((with_reducible show wpAny _ _ (call (Value.ref 143) [_]) _ _ _); (rename Fr _ _ _ _ => zzlF'); (rename Base _ _ => zzlB'); k_dflt (refine' bad_spec (zzlB'.keeps zzlF'.keep) (by k_room) ?_); intro zze' zzd' zzt' zzl' zzc' zztk'' zzsl' zzh' zztk' zzkp' zzhe' zzhd' zzhl' zzhne' zze1' zzn1' zzg1'; refine ⟨_, _, _, _, rfl, sig_at ((zzlB'.keeps zzlF'.keep).keeps zzkp').X, zze1', ?_⟩; (try dsimp only))) | ((with_reducible show wpAny _ _ (exec (Stmt.Raise _ _ _) _) _ _ _); (k_here; k_dflt (refine exec_raise_sig (by rfl) ?_))) | (((with_reducible show wpAny _ _ (call (Value.ref 132) [_, _, _]) _ _ _); k_dflt (refine' mk_told (by assumption) (by k_asm) (by k_asm) (by k_room) ?_; k_whole); intro zzx' zzdx' zzh' zztk' zzk1' zzt1' zzk2' zzt2' zzk3' zzt3' zzF' zzN' zzl1' zzl2'; (try k_sweep))) | ((with_reducible show wpAny _ _ (subscriptTail (Expr.Name _ _) (Expr.Name _ _) (Value.ref _) (Value.int _ _)) _ _ _); (k_dflt (refine' item_list (by is_list) (by (first | decide | omega | (simp only [List.size_toArray] at *; omega))) (by (first | decide | omega | (simp only [List.size_toArray] at *; omega))) (by assumption) ?_))) | ((with_reducible show wpAny _ _ (exec (Stmt.For (Expr.Name _ _) (Expr.Call _ _ _ _) _ _ _) _) _ _ _); (k_here; (rename Fr _ _ _ _ => zzlF'); (with_unfolding_all refine' For_invVF zzlF' (by exact rfl) (by exact rfl) ?_; k_whole))) | ((with_reducible show wpAny _ _ (call (Value.builtin "len") [_]) _ _ _); (k_dflt (refine' call_len_list (by is_list) (by (first | decide | (simp only [List.size_toArray]; omega) | (simp only [List.size_toArray, List.length_cons, List.length_append, List.length_map, List.length_nil, List.length_take, List.length_drop]; omega))) ?_))) | walk1))) | fail "no step"))
    (rename Fr _ _ _ _ => F1); (rename News _ _ _ _ => N1)
    k_dflt (refine' items_call B F1 N1 ?d (hl.mono F1.keep) (by omega) hi.handed ?_; (case d => k_room))
    intro il h' tk' c0 F' N' off0 kp0
    clear F1 N1
    try dsimp only
    (repeat' (first | (k_unfold; (try dsimp only)) | ((( (fail_if_success (with_reducible show wpAny _ _ (pyIter _) _ _ _)); (fail_if_success (with_reducible show wpAny _ _ (exec (Stmt.While _ _ _ _) _) _ _ _)))); (( (fail_if_success (with_reducible show wpAny _ _ (eval (Expr.ListComp _ _ _ _) _) _ _ _)); (fail_if_success (with_reducible show wpAny _ _ (exec (Stmt.Assign _ (Expr.ListComp _ _ _ _) _) _) _ _ _)); (fail_if_success (with_reducible show LCg.CompSrc _ _ _ _ _ _ _ _ _ _ _ _ _ _)))); first | (first | ((with_reducible show wpAny _ _ (execs [] _) _ _ _); (k_here; (with_reducible refine gen_toks ?_); intro zztk)) | ((with_reducible show wpAny _ _ (execs (_ :: _) _) _ _ _); (k_here; (with_reducible refine gen_toks ?_); intro zztk)) | ((with_reducible show wpAny _ _ (execs (_ :: _) _) _ _ _); (k_here; (with_reducible refine wpAny_execs_cons ?_); (try dsimp only); k_fold)) | (((with_reducible show wpAny _ _ (call (Value.ref 143) [_]) _ _ _); (rename Fr _ _ _ _ => zzlF'); (rename Base _ _ => zzlB'); k_dflt (refine' bad_spec (zzlB'.keeps zzlF'.keep) (by k_room) ?_); intro zze' zzd' zzt' zzl' zzc' zztk'' zzsl' zzh' zztk' zzkp' zzhe' zzhd' zzhl' zzhne' zze1' zzn1' zzg1'; refine ⟨_, _, _, _, rfl, sig_at ((zzlB'.keeps zzlF'.keep).keeps zzkp').X, zze1', ?_⟩; (try dsimp only))) | ((with_reducible show wpAny _ _ (exec (Stmt.Raise _ _ _) _) _ _ _); (k_here; k_dflt (refine exec_raise_sig (by rfl) ?_))) | (((with_reducible show wpAny _ _ (call (Value.ref 132) [_, _, _]) _ _ _); k_dflt (refine' mk_told (by assumption) (by k_asm) (by k_asm) (by k_room) ?_; k_whole); intro zzx' zzdx' zzh' zztk' zzk1' zzt1' zzk2' zzt2' zzk3' zzt3' zzF' zzN' zzl1' zzl2'; (try k_sweep))) | ((with_reducible show wpAny _ _ (subscriptTail (Expr.Name _ _) (Expr.Name _ _) (Value.ref _) (Value.int _ _)) _ _ _); (k_dflt (refine' item_list (by is_list) (by (first | decide | omega | (simp only [List.size_toArray] at *; omega))) (by (first | decide | omega | (simp only [List.size_toArray] at *; omega))) (by assumption) ?_))) | ((with_reducible show wpAny _ _ (exec (Stmt.For (Expr.Name _ _) (Expr.Call _ _ _ _) _ _ _) _) _ _ _); (k_here; (rename Fr _ _ _ _ => zzlF'); (with_unfolding_all refine' For_invVF zzlF' (by exact rfl) (by exact rfl) ?_; k_whole))) | ((with_reducible show wpAny _ _ (call (Value.builtin "len") [_]) _ _ _); (k_dflt (refine' call_len_list (by is_list) (by (first | decide | (simp only [List.size_toArray]; omega) | (simp only [List.size_toArray, List.length_cons, List.length_append, List.length_map, List.length_nil, List.length_take, List.length_drop]; omega))) ?_))) | walk1) | (dsimp only; (first | ((with_reducible show wpAny _ _ (execs [] _) _ _ _); (k_here; (with_reducible refine gen_toks ?_); intro zztk)) | ((with_reducible show wpAny _ _ (execs (_ :: _) _) _ _ _); (k_here; (with_reducible refine gen_toks ?_); intro zztk)) | ((with_reducible show wpAny _ _ (execs (_ :: _) _) _ _ _); (k_here; (with_reducible refine wpAny_execs_cons ?_); (try dsimp only); k_fold)) | (((with_reducible show wpAny _ _ (call (Value.ref 143) [_]) _ _ _); (rename Fr _ _ _ _ => zzlF'); (rename Base _ _ => zzlB'); k_dflt (refine' bad_spec (zzlB'.keeps zzlF'.keep) (by k_room) ?_); intro zze' zzd' zzt' zzl' zzc' zztk'' zzsl' zzh' zztk' zzkp' zzhe' zzhd' zzhl' zzhne' zze1' zzn1' zzg1'; refine ⟨_, _, _, _, rfl, sig_at ((zzlB'.keeps zzlF'.keep).keeps zzkp').X, zze1', ?_⟩; (try dsimp only))) | ((with_reducible show wpAny _ _ (exec (Stmt.Raise _ _ _) _) _ _ _); (k_here; k_dflt (refine exec_raise_sig (by rfl) ?_))) | (((with_reducible show wpAny _ _ (call (Value.ref 132) [_, _, _]) _ _ _); k_dflt (refine' mk_told (by assumption) (by k_asm) (by k_asm) (by k_room) ?_; k_whole); intro zzx' zzdx' zzh' zztk' zzk1' zzt1' zzk2' zzt2' zzk3' zzt3' zzF' zzN' zzl1' zzl2'; (try k_sweep))) | ((with_reducible show wpAny _ _ (subscriptTail (Expr.Name _ _) (Expr.Name _ _) (Value.ref _) (Value.int _ _)) _ _ _); (k_dflt (refine' item_list (by is_list) (by (first | decide | omega | (simp only [List.size_toArray] at *; omega))) (by (first | decide | omega | (simp only [List.size_toArray] at *; omega))) (by assumption) ?_))) | ((with_reducible show wpAny _ _ (exec (Stmt.For (Expr.Name _ _) (Expr.Call _ _ _ _) _ _ _) _) _ _ _); (k_here; (rename Fr _ _ _ _ => zzlF'); (with_unfolding_all refine' For_invVF zzlF' (by exact rfl) (by exact rfl) ?_; k_whole))) | ((with_reducible show wpAny _ _ (call (Value.builtin "len") [_]) _ _ _); (k_dflt (refine' call_len_list (by is_list) (by (first | decide | (simp only [List.size_toArray]; omega) | (simp only [List.size_toArray, List.length_cons, List.length_append, List.length_map, List.length_nil, List.length_take, List.length_drop]; omega))) ?_))) | walk1))) | fail "no step"))
    ((k_dflt (refine LCg.ListComp_U (F₀ := by k_asm) (by with_unfolding_all rfl) (by decide) (by rfl) (by decide) (by rfl) ?_)))
    (repeat' (first | (k_unfold; (try dsimp only)) | ((( (fail_if_success (with_reducible show wpAny _ _ (pyIter _) _ _ _)); (fail_if_success (with_reducible show wpAny _ _ (exec (Stmt.While _ _ _ _) _) _ _ _)))); (( (fail_if_success (with_reducible show wpAny _ _ (eval (Expr.ListComp _ _ _ _) _) _ _ _)); (fail_if_success (with_reducible show wpAny _ _ (exec (Stmt.Assign _ (Expr.ListComp _ _ _ _) _) _) _ _ _)); (fail_if_success (with_reducible show LCg.CompSrc _ _ _ _ _ _ _ _ _ _ _ _ _ _)))); first | (first | ((with_reducible show wpAny _ _ (execs [] _) _ _ _); (k_here; (with_reducible refine gen_toks ?_); intro zztk)) | ((with_reducible show wpAny _ _ (execs (_ :: _) _) _ _ _); (k_here; (with_reducible refine gen_toks ?_); intro zztk)) | ((with_reducible show wpAny _ _ (execs (_ :: _) _) _ _ _); (k_here; (with_reducible refine wpAny_execs_cons ?_); (try dsimp only); k_fold)) | (((with_reducible show wpAny _ _ (call (Value.ref 143) [_]) _ _ _); (rename Fr _ _ _ _ => zzlF'); (rename Base _ _ => zzlB'); k_dflt (refine' bad_spec (zzlB'.keeps zzlF'.keep) (by k_room) ?_); intro zze' zzd' zzt' zzl' zzc' zztk'' zzsl' zzh' zztk' zzkp' zzhe' zzhd' zzhl' zzhne' zze1' zzn1' zzg1'; refine ⟨_, _, _, _, rfl, sig_at ((zzlB'.keeps zzlF'.keep).keeps zzkp').X, zze1', ?_⟩; (try dsimp only))) | ((with_reducible show wpAny _ _ (exec (Stmt.Raise _ _ _) _) _ _ _); (k_here; k_dflt (refine exec_raise_sig (by rfl) ?_))) | (((with_reducible show wpAny _ _ (call (Value.ref 132) [_, _, _]) _ _ _); k_dflt (refine' mk_told (by assumption) (by k_asm) (by k_asm) (by k_room) ?_; k_whole); intro zzx' zzdx' zzh' zztk' zzk1' zzt1' zzk2' zzt2' zzk3' zzt3' zzF' zzN' zzl1' zzl2'; (try k_sweep))) | ((with_reducible show wpAny _ _ (subscriptTail (Expr.Name _ _) (Expr.Name _ _) (Value.ref _) (Value.int _ _)) _ _ _); (k_dflt (refine' item_list (by is_list) (by (first | decide | omega | (simp only [List.size_toArray] at *; omega))) (by (first | decide | omega | (simp only [List.size_toArray] at *; omega))) (by assumption) ?_))) | ((with_reducible show wpAny _ _ (exec (Stmt.For (Expr.Name _ _) (Expr.Call _ _ _ _) _ _ _) _) _ _ _); (k_here; (rename Fr _ _ _ _ => zzlF'); (with_unfolding_all refine' For_invVF zzlF' (by exact rfl) (by exact rfl) ?_; k_whole))) | ((with_reducible show wpAny _ _ (call (Value.builtin "len") [_]) _ _ _); (k_dflt (refine' call_len_list (by is_list) (by (first | decide | (simp only [List.size_toArray]; omega) | (simp only [List.size_toArray, List.length_cons, List.length_append, List.length_map, List.length_nil, List.length_take, List.length_drop]; omega))) ?_))) | walk1) | (dsimp only; (first | ((with_reducible show wpAny _ _ (execs [] _) _ _ _); (k_here; (with_reducible refine gen_toks ?_); intro zztk)) | ((with_reducible show wpAny _ _ (execs (_ :: _) _) _ _ _); (k_here; (with_reducible refine gen_toks ?_); intro zztk)) | ((with_reducible show wpAny _ _ (execs (_ :: _) _) _ _ _); (k_here; (with_reducible refine wpAny_execs_cons ?_); (try dsimp only); k_fold)) | (((with_reducible show wpAny _ _ (call (Value.ref 143) [_]) _ _ _); (rename Fr _ _ _ _ => zzlF'); (rename Base _ _ => zzlB'); k_dflt (refine' bad_spec (zzlB'.keeps zzlF'.keep) (by k_room) ?_); intro zze' zzd' zzt' zzl' zzc' zztk'' zzsl' zzh' zztk' zzkp' zzhe' zzhd' zzhl' zzhne' zze1' zzn1' zzg1'; refine ⟨_, _, _, _, rfl, sig_at ((zzlB'.keeps zzlF'.keep).keeps zzkp').X, zze1', ?_⟩; (try dsimp only))) | ((with_reducible show wpAny _ _ (exec (Stmt.Raise _ _ _) _) _ _ _); (k_here; k_dflt (refine exec_raise_sig (by rfl) ?_))) | (((with_reducible show wpAny _ _ (call (Value.ref 132) [_, _, _]) _ _ _); k_dflt (refine' mk_told (by assumption) (by k_asm) (by k_asm) (by k_room) ?_; k_whole); intro zzx' zzdx' zzh' zztk' zzk1' zzt1' zzk2' zzt2' zzk3' zzt3' zzF' zzN' zzl1' zzl2'; (try k_sweep))) | ((with_reducible show wpAny _ _ (subscriptTail (Expr.Name _ _) (Expr.Name _ _) (Value.ref _) (Value.int _ _)) _ _ _); (k_dflt (refine' item_list (by is_list) (by (first | decide | omega | (simp only [List.size_toArray] at *; omega))) (by (first | decide | omega | (simp only [List.size_toArray] at *; omega))) (by assumption) ?_))) | ((with_reducible show wpAny _ _ (exec (Stmt.For (Expr.Name _ _) (Expr.Call _ _ _ _) _ _ _) _) _ _ _); (k_here; (rename Fr _ _ _ _ => zzlF'); (with_unfolding_all refine' For_invVF zzlF' (by exact rfl) (by exact rfl) ?_; k_whole))) | ((with_reducible show wpAny _ _ (call (Value.builtin "len") [_]) _ _ _); (k_dflt (refine' call_len_list (by is_list) (by (first | decide | (simp only [List.size_toArray]; omega) | (simp only [List.size_toArray, List.length_cons, List.length_append, List.length_map, List.length_nil, List.length_take, List.length_drop]; omega))) ?_))) | walk1))) | fail "no step"))
    (rename Fr _ _ _ _ => F1); (rename News _ _ _ _ => N1)
    refine LCg.CompSrc.ledger rfl F1 N1 (.head _) (by rw [sizeLine_eq, List.size_toArray]; omega) ?_
    intro g'
    refine rest_of (BoolJ [(il, _)] ws) ⟨.nil, rfl⟩ ?_ ?_
    · rintro i ys nx v1 I oI C oC' D m₂ h tk E' hin ⟨hb, rfl⟩ hv hC hx F N off ne
      simp only [LCg.Off3, and_true] at off
      rw [List.size_toArray] at hin
      obtain ⟨v2, x2, q1, q2, q3⟩ := hi.get i hin
      rw [List.getElem?_toArray, q1] at hv
      cases hv
      have htk : ws.take (i + 1) = ws.take i ++ [x2] := by rw [List.take_add_one, q2]; rfl
      cases q3 with
      | seven =>
        (repeat' (first | (k_unfold; (try dsimp only)) | ((( (fail_if_success (with_reducible show wpAny _ _ (pyIter _) _ _ _)); (fail_if_success (with_reducible show wpAny _ _ (exec (Stmt.While _ _ _ _) _) _ _ _)))); (( (fail_if_success (with_reducible show wpAny _ _ (eval (Expr.ListComp _ _ _ _) _) _ _ _)); (fail_if_success (with_reducible show wpAny _ _ (exec (Stmt.Assign _ (Expr.ListComp _ _ _ _) _) _) _ _ _)); (fail_if_success (with_reducible show LCg.CompSrc _ _ _ _ _ _ _ _ _ _ _ _ _ _)))); first | (first | ((with_reducible show wpAny _ _ (execs [] _) _ _ _); (k_here; (with_reducible refine gen_toks ?_); intro zztk)) | ((with_reducible show wpAny _ _ (execs (_ :: _) _) _ _ _); (k_here; (with_reducible refine gen_toks ?_); intro zztk)) | ((with_reducible show wpAny _ _ (execs (_ :: _) _) _ _ _); (k_here; (with_reducible refine wpAny_execs_cons ?_); (try dsimp only); k_fold)) | (((with_reducible show wpAny _ _ (call (Value.ref 143) [_]) _ _ _); (rename Fr _ _ _ _ => zzlF'); (rename Base _ _ => zzlB'); k_dflt (refine' bad_spec (zzlB'.keeps zzlF'.keep) (by k_room) ?_); intro zze' zzd' zzt' zzl' zzc' zztk'' zzsl' zzh' zztk' zzkp' zzhe' zzhd' zzhl' zzhne' zze1' zzn1' zzg1'; refine ⟨_, _, _, _, rfl, sig_at ((zzlB'.keeps zzlF'.keep).keeps zzkp').X, zze1', ?_⟩; (try dsimp only))) | ((with_reducible show wpAny _ _ (exec (Stmt.Raise _ _ _) _) _ _ _); (k_here; k_dflt (refine exec_raise_sig (by rfl) ?_))) | (((with_reducible show wpAny _ _ (call (Value.ref 132) [_, _, _]) _ _ _); k_dflt (refine' mk_told (by assumption) (by k_asm) (by k_asm) (by k_room) ?_; k_whole); intro zzx' zzdx' zzh' zztk' zzk1' zzt1' zzk2' zzt2' zzk3' zzt3' zzF' zzN' zzl1' zzl2'; (try k_sweep))) | ((with_reducible show wpAny _ _ (subscriptTail (Expr.Name _ _) (Expr.Name _ _) (Value.ref _) (Value.int _ _)) _ _ _); (k_dflt (refine' item_list (by is_list) (by (first | decide | omega | (simp only [List.size_toArray] at *; omega))) (by (first | decide | omega | (simp only [List.size_toArray] at *; omega))) (by assumption) ?_))) | ((with_reducible show wpAny _ _ (exec (Stmt.For (Expr.Name _ _) (Expr.Call _ _ _ _) _ _ _) _) _ _ _); (k_here; (rename Fr _ _ _ _ => zzlF'); (with_unfolding_all refine' For_invVF zzlF' (by exact rfl) (by exact rfl) ?_; k_whole))) | ((with_reducible show wpAny _ _ (call (Value.builtin "len") [_]) _ _ _); (k_dflt (refine' call_len_list (by is_list) (by (first | decide | (simp only [List.size_toArray]; omega) | (simp only [List.size_toArray, List.length_cons, List.length_append, List.length_map, List.length_nil, List.length_take, List.length_drop]; omega))) ?_))) | walk1) | (dsimp only; (first | ((with_reducible show wpAny _ _ (execs [] _) _ _ _); (k_here; (with_reducible refine gen_toks ?_); intro zztk)) | ((with_reducible show wpAny _ _ (execs (_ :: _) _) _ _ _); (k_here; (with_reducible refine gen_toks ?_); intro zztk)) | ((with_reducible show wpAny _ _ (execs (_ :: _) _) _ _ _); (k_here; (with_reducible refine wpAny_execs_cons ?_); (try dsimp only); k_fold)) | (((with_reducible show wpAny _ _ (call (Value.ref 143) [_]) _ _ _); (rename Fr _ _ _ _ => zzlF'); (rename Base _ _ => zzlB'); k_dflt (refine' bad_spec (zzlB'.keeps zzlF'.keep) (by k_room) ?_); intro zze' zzd' zzt' zzl' zzc' zztk'' zzsl' zzh' zztk' zzkp' zzhe' zzhd' zzhl' zzhne' zze1' zzn1' zzg1'; refine ⟨_, _, _, _, rfl, sig_at ((zzlB'.keeps zzlF'.keep).keeps zzkp').X, zze1', ?_⟩; (try dsimp only))) | ((with_reducible show wpAny _ _ (exec (Stmt.Raise _ _ _) _) _ _ _); (k_here; k_dflt (refine exec_raise_sig (by rfl) ?_))) | (((with_reducible show wpAny _ _ (call (Value.ref 132) [_, _, _]) _ _ _); k_dflt (refine' mk_told (by assumption) (by k_asm) (by k_asm) (by k_room) ?_; k_whole); intro zzx' zzdx' zzh' zztk' zzk1' zzt1' zzk2' zzt2' zzk3' zzt3' zzF' zzN' zzl1' zzl2'; (try k_sweep))) | ((with_reducible show wpAny _ _ (subscriptTail (Expr.Name _ _) (Expr.Name _ _) (Value.ref _) (Value.int _ _)) _ _ _); (k_dflt (refine' item_list (by is_list) (by (first | decide | omega | (simp only [List.size_toArray] at *; omega))) (by (first | decide | omega | (simp only [List.size_toArray] at *; omega))) (by assumption) ?_))) | ((with_reducible show wpAny _ _ (exec (Stmt.For (Expr.Name _ _) (Expr.Call _ _ _ _) _ _ _) _) _ _ _); (k_here; (rename Fr _ _ _ _ => zzlF'); (with_unfolding_all refine' For_invVF zzlF' (by exact rfl) (by exact rfl) ?_; k_whole))) | ((with_reducible show wpAny _ _ (call (Value.builtin "len") [_]) _ _ _); (k_dflt (refine' call_len_list (by is_list) (by (first | decide | (simp only [List.size_toArray]; omega) | (simp only [List.size_toArray, List.length_cons, List.length_append, List.length_map, List.length_nil, List.length_take, List.length_drop]; omega))) ?_))) | walk1))) | fail "no step"))
        exact ⟨by rw [htk, List.map_append]; exact bools_snoc (b := false) hb, rfl⟩
      | sym p1 p2 p3 =>
        have p1' := hP _ _ p1
        have p2' := hP _ _ p2
        (repeat' (first | (k_unfold; (try dsimp only)) | ((( (fail_if_success (with_reducible show wpAny _ _ (pyIter _) _ _ _)); (fail_if_success (with_reducible show wpAny _ _ (exec (Stmt.While _ _ _ _) _) _ _ _)))); (( (fail_if_success (with_reducible show wpAny _ _ (eval (Expr.ListComp _ _ _ _) _) _ _ _)); (fail_if_success (with_reducible show wpAny _ _ (exec (Stmt.Assign _ (Expr.ListComp _ _ _ _) _) _) _ _ _)); (fail_if_success (with_reducible show LCg.CompSrc _ _ _ _ _ _ _ _ _ _ _ _ _ _)))); first | (first | ((with_reducible show wpAny _ _ (execs [] _) _ _ _); (k_here; (with_reducible refine gen_toks ?_); intro zztk)) | ((with_reducible show wpAny _ _ (execs (_ :: _) _) _ _ _); (k_here; (with_reducible refine gen_toks ?_); intro zztk)) | ((with_reducible show wpAny _ _ (execs (_ :: _) _) _ _ _); (k_here; (with_reducible refine wpAny_execs_cons ?_); (try dsimp only); k_fold)) | (((with_reducible show wpAny _ _ (call (Value.ref 143) [_]) _ _ _); (rename Fr _ _ _ _ => zzlF'); (rename Base _ _ => zzlB'); k_dflt (refine' bad_spec (zzlB'.keeps zzlF'.keep) (by k_room) ?_); intro zze' zzd' zzt' zzl' zzc' zztk'' zzsl' zzh' zztk' zzkp' zzhe' zzhd' zzhl' zzhne' zze1' zzn1' zzg1'; refine ⟨_, _, _, _, rfl, sig_at ((zzlB'.keeps zzlF'.keep).keeps zzkp').X, zze1', ?_⟩; (try dsimp only))) | ((with_reducible show wpAny _ _ (exec (Stmt.Raise _ _ _) _) _ _ _); (k_here; k_dflt (refine exec_raise_sig (by rfl) ?_))) | (((with_reducible show wpAny _ _ (call (Value.ref 132) [_, _, _]) _ _ _); k_dflt (refine' mk_told (by assumption) (by k_asm) (by k_asm) (by k_room) ?_; k_whole); intro zzx' zzdx' zzh' zztk' zzk1' zzt1' zzk2' zzt2' zzk3' zzt3' zzF' zzN' zzl1' zzl2'; (try k_sweep))) | ((with_reducible show wpAny _ _ (subscriptTail (Expr.Name _ _) (Expr.Name _ _) (Value.ref _) (Value.int _ _)) _ _ _); (k_dflt (refine' item_list (by is_list) (by (first | decide | omega | (simp only [List.size_toArray] at *; omega))) (by (first | decide | omega | (simp only [List.size_toArray] at *; omega))) (by assumption) ?_))) | ((with_reducible show wpAny _ _ (exec (Stmt.For (Expr.Name _ _) (Expr.Call _ _ _ _) _ _ _) _) _ _ _); (k_here; (rename Fr _ _ _ _ => zzlF'); (with_unfolding_all refine' For_invVF zzlF' (by exact rfl) (by exact rfl) ?_; k_whole))) | ((with_reducible show wpAny _ _ (call (Value.builtin "len") [_]) _ _ _); (k_dflt (refine' call_len_list (by is_list) (by (first | decide | (simp only [List.size_toArray]; omega) | (simp only [List.size_toArray, List.length_cons, List.length_append, List.length_map, List.length_nil, List.length_take, List.length_drop]; omega))) ?_))) | walk1) | (dsimp only; (first | ((with_reducible show wpAny _ _ (execs [] _) _ _ _); (k_here; (with_reducible refine gen_toks ?_); intro zztk)) | ((with_reducible show wpAny _ _ (execs (_ :: _) _) _ _ _); (k_here; (with_reducible refine gen_toks ?_); intro zztk)) | ((with_reducible show wpAny _ _ (execs (_ :: _) _) _ _ _); (k_here; (with_reducible refine wpAny_execs_cons ?_); (try dsimp only); k_fold)) | (((with_reducible show wpAny _ _ (call (Value.ref 143) [_]) _ _ _); (rename Fr _ _ _ _ => zzlF'); (rename Base _ _ => zzlB'); k_dflt (refine' bad_spec (zzlB'.keeps zzlF'.keep) (by k_room) ?_); intro zze' zzd' zzt' zzl' zzc' zztk'' zzsl' zzh' zztk' zzkp' zzhe' zzhd' zzhl' zzhne' zze1' zzn1' zzg1'; refine ⟨_, _, _, _, rfl, sig_at ((zzlB'.keeps zzlF'.keep).keeps zzkp').X, zze1', ?_⟩; (try dsimp only))) | ((with_reducible show wpAny _ _ (exec (Stmt.Raise _ _ _) _) _ _ _); (k_here; k_dflt (refine exec_raise_sig (by rfl) ?_))) | (((with_reducible show wpAny _ _ (call (Value.ref 132) [_, _, _]) _ _ _); k_dflt (refine' mk_told (by assumption) (by k_asm) (by k_asm) (by k_room) ?_; k_whole); intro zzx' zzdx' zzh' zztk' zzk1' zzt1' zzk2' zzt2' zzk3' zzt3' zzF' zzN' zzl1' zzl2'; (try k_sweep))) | ((with_reducible show wpAny _ _ (subscriptTail (Expr.Name _ _) (Expr.Name _ _) (Value.ref _) (Value.int _ _)) _ _ _); (k_dflt (refine' item_list (by is_list) (by (first | decide | omega | (simp only [List.size_toArray] at *; omega))) (by (first | decide | omega | (simp only [List.size_toArray] at *; omega))) (by assumption) ?_))) | ((with_reducible show wpAny _ _ (exec (Stmt.For (Expr.Name _ _) (Expr.Call _ _ _ _) _ _ _) _) _ _ _); (k_here; (rename Fr _ _ _ _ => zzlF'); (with_unfolding_all refine' For_invVF zzlF' (by exact rfl) (by exact rfl) ?_; k_whole))) | ((with_reducible show wpAny _ _ (call (Value.builtin "len") [_]) _ _ _); (k_dflt (refine' call_len_list (by is_list) (by (first | decide | (simp only [List.size_toArray]; omega) | (simp only [List.size_toArray, List.length_cons, List.length_append, List.length_map, List.length_nil, List.length_take, List.length_drop]; omega))) ?_))) | walk1))) | fail "no step"))
        have e7 : decide (x2 ≠ Str.ofString "7") = true := by
          refine decide_eq_true ?_
          rintro rfl
          revert p3
          decide +kernel
        exact ⟨by rw [htk, List.map_append, List.map_cons, e7]; exact bools_snoc hb, rfl⟩
    · rintro ys nx ⟨hb, rfl⟩ D h tk F N off
      simp only [LCg.Off1, and_true] at off
      rw [List.size_toArray, hi.length, List.take_length] at hb
      (repeat' (first | (k_unfold; (try dsimp only)) | ((( (fail_if_success (with_reducible show wpAny _ _ (pyIter _) _ _ _)); (fail_if_success (with_reducible show wpAny _ _ (exec (Stmt.While _ _ _ _) _) _ _ _)))); (( (fail_if_success (with_reducible show wpAny _ _ (eval (Expr.ListComp _ _ _ _) _) _ _ _)); (fail_if_success (with_reducible show wpAny _ _ (exec (Stmt.Assign _ (Expr.ListComp _ _ _ _) _) _) _ _ _)); (fail_if_success (with_reducible show LCg.CompSrc _ _ _ _ _ _ _ _ _ _ _ _ _ _)))); first | (first | ((with_reducible show wpAny _ _ (execs [] _) _ _ _); (k_here; (with_reducible refine gen_toks ?_); intro zztk)) | ((with_reducible show wpAny _ _ (execs (_ :: _) _) _ _ _); (k_here; (with_reducible refine gen_toks ?_); intro zztk)) | ((with_reducible show wpAny _ _ (execs (_ :: _) _) _ _ _); (k_here; (with_reducible refine wpAny_execs_cons ?_); (try dsimp only); k_fold)) | (((with_reducible show wpAny _ _ (call (Value.ref 143) [_]) _ _ _); (rename Fr _ _ _ _ => zzlF'); (rename Base _ _ => zzlB'); k_dflt (refine' bad_spec (zzlB'.keeps zzlF'.keep) (by k_room) ?_); intro zze' zzd' zzt' zzl' zzc' zztk'' zzsl' zzh' zztk' zzkp' zzhe' zzhd' zzhl' zzhne' zze1' zzn1' zzg1'; refine ⟨_, _, _, _, rfl, sig_at ((zzlB'.keeps zzlF'.keep).keeps zzkp').X, zze1', ?_⟩; (try dsimp only))) | ((with_reducible show wpAny _ _ (exec (Stmt.Raise _ _ _) _) _ _ _); (k_here; k_dflt (refine exec_raise_sig (by rfl) ?_))) | (((with_reducible show wpAny _ _ (call (Value.ref 132) [_, _, _]) _ _ _); k_dflt (refine' mk_told (by assumption) (by k_asm) (by k_asm) (by k_room) ?_; k_whole); intro zzx' zzdx' zzh' zztk' zzk1' zzt1' zzk2' zzt2' zzk3' zzt3' zzF' zzN' zzl1' zzl2'; (try k_sweep))) | ((with_reducible show wpAny _ _ (subscriptTail (Expr.Name _ _) (Expr.Name _ _) (Value.ref _) (Value.int _ _)) _ _ _); (k_dflt (refine' item_list (by is_list) (by (first | decide | omega | (simp only [List.size_toArray] at *; omega))) (by (first | decide | omega | (simp only [List.size_toArray] at *; omega))) (by assumption) ?_))) | ((with_reducible show wpAny _ _ (exec (Stmt.For (Expr.Name _ _) (Expr.Call _ _ _ _) _ _ _) _) _ _ _); (k_here; (rename Fr _ _ _ _ => zzlF'); (with_unfolding_all refine' For_invVF zzlF' (by exact rfl) (by exact rfl) ?_; k_whole))) | ((with_reducible show wpAny _ _ (call (Value.builtin "len") [_]) _ _ _); (k_dflt (refine' call_len_list (by is_list) (by (first | decide | (simp only [List.size_toArray]; omega) | (simp only [List.size_toArray, List.length_cons, List.length_append, List.length_map, List.length_nil, List.length_take, List.length_drop]; omega))) ?_))) | walk1) | (dsimp only; (first | ((with_reducible show wpAny _ _ (execs [] _) _ _ _); (k_here; (with_reducible refine gen_toks ?_); intro zztk)) | ((with_reducible show wpAny _ _ (execs (_ :: _) _) _ _ _); (k_here; (with_reducible refine gen_toks ?_); intro zztk)) | ((with_reducible show wpAny _ _ (execs (_ :: _) _) _ _ _); (k_here; (with_reducible refine wpAny_execs_cons ?_); (try dsimp only); k_fold)) | (((with_reducible show wpAny _ _ (call (Value.ref 143) [_]) _ _ _); (rename Fr _ _ _ _ => zzlF'); (rename Base _ _ => zzlB'); k_dflt (refine' bad_spec (zzlB'.keeps zzlF'.keep) (by k_room) ?_); intro zze' zzd' zzt' zzl' zzc' zztk'' zzsl' zzh' zztk' zzkp' zzhe' zzhd' zzhl' zzhne' zze1' zzn1' zzg1'; refine ⟨_, _, _, _, rfl, sig_at ((zzlB'.keeps zzlF'.keep).keeps zzkp').X, zze1', ?_⟩; (try dsimp only))) | ((with_reducible show wpAny _ _ (exec (Stmt.Raise _ _ _) _) _ _ _); (k_here; k_dflt (refine exec_raise_sig (by rfl) ?_))) | (((with_reducible show wpAny _ _ (call (Value.ref 132) [_, _, _]) _ _ _); k_dflt (refine' mk_told (by assumption) (by k_asm) (by k_asm) (by k_room) ?_; k_whole); intro zzx' zzdx' zzh' zztk' zzk1' zzt1' zzk2' zzt2' zzk3' zzt3' zzF' zzN' zzl1' zzl2'; (try k_sweep))) | ((with_reducible show wpAny _ _ (subscriptTail (Expr.Name _ _) (Expr.Name _ _) (Value.ref _) (Value.int _ _)) _ _ _); (k_dflt (refine' item_list (by is_list) (by (first | decide | omega | (simp only [List.size_toArray] at *; omega))) (by (first | decide | omega | (simp only [List.size_toArray] at *; omega))) (by assumption) ?_))) | ((with_reducible show wpAny _ _ (exec (Stmt.For (Expr.Name _ _) (Expr.Call _ _ _ _) _ _ _) _) _ _ _); (k_here; (rename Fr _ _ _ _ => zzlF'); (with_unfolding_all refine' For_invVF zzlF' (by exact rfl) (by exact rfl) ?_; k_whole))) | ((with_reducible show wpAny _ _ (call (Value.builtin "len") [_]) _ _ _); (k_dflt (refine' call_len_list (by is_list) (by (first | decide | (simp only [List.size_toArray]; omega) | (simp only [List.size_toArray, List.length_cons, List.length_append, List.length_map, List.length_nil, List.length_take, List.length_drop]; omega))) ?_))) | walk1))) | fail "no step"))
      · (rename IsRange _ _ _ _ _ _ _ _ => hr); (rename Fr _ _ _ _ => F2); (rename News _ _ _ _ => N2); (rename List.all _ _ = true => hall)
        have N3 := news_sub N2 (news' := [(_, listOf (List.toArray []) 0), (_, listOf (List.toArray []) 0), (il, _)]) (by
          intro p hp
          simp only [List.mem_cons, List.not_mem_nil, or_false] at hp
          rcases hp with rfl | rfl | rfl
          · exact .tail _ (.tail _ (.head _))
          · exact .tail _ (.head _)
          · k_mem)
        refine loop_range (RllJ P ws zs f il c0) (n := ws.length) rfl hr ?_ ?_ F2 N3 ?_ ?_ ?_
        · rw [List.size_toArray]; exact small_one (by omega) (by omega) (by omega) (by omega)
        · rw [rangeSize_nat, List.size_toArray, hi.length]; simp
        · (rename _ ∧ _ ∧ _ ∧ _ => l2); (rename _ ∧ _ ∧ _ => l3)
          exact ⟨_, _, [], [], [], [], none, .none, 0, _, 0, 0, rfl, rfl, rfl, rfl, rfl, rfl, rfl, rfl, .nil, .nil, .none, Nat.zero_le _, Nat.zero_le _, Int.le_refl _, by omega, by omega, by omega⟩
        · intro i t m₁ nx h tk own hin hoff hJ F₁ N₁
          obtain ⟨nl, ol, zn, zo, nd, op, rs, rv, k, kt, c1, c2, e1, e2, e3, e4, e5, e6, rfl, hrd, hzn, hzo, hrv, z1, z2, hk, d1, d2, d3⟩ := hJ
          obtain ⟨v2, x2, q1, q2, q3⟩ := hi.get i (by rw [hi.length]; exact hin)
          have hlen := hi.length
          have x7 : x2 ≠ Str.ofString "7" := by
            have := List.all_eq_true.mp hall x2 (List.mem_of_getElem? q2)
            simpa using this
          have F₂ := fr_know (fr_know (fr_know (fr_know (fr_know (fr_know F₁ (a := Str.ofString "needed") (x := .ref nl) e1) (a := Str.ofString "optional") (x := .ref ol) e2) (a := Str.ofString "rest") (x := rv) e3) (a := Str.ofString "sort") (x := .int k kt) e4) (a := Str.ofString "items") (x := .ref il) e5) (a := Str.ofString "function") (x := f) e6
          have hdr : ws.drop i = x2 :: ws.drop (i + 1) := by
            obtain ⟨h1, h2⟩ := List.getElem?_eq_some_iff.mp q2
            rw [List.drop_eq_getElem_cons h1, h2]
          have hx : zs.toArray[((0 : Int) + (i : Int) * 1).toNat]? = some v2 := by
            rw [List.getElem?_toArray, ← q1]; congr 1; omega
          have o1 : ∀ p ∈ own, p.1 ≠ nl := fun p hp => hoff p hp (nl, _) (.head _)
          have o2 : ∀ p ∈ own, p.1 ≠ ol := fun p hp => hoff p hp (ol, _) (.tail _ (.head _))
          have o3 : ∀ p ∈ own, p.1 ≠ il := fun p hp => hoff p hp (il, _) (.tail _ (.tail _ (.head _)))
          have hrl : (ws.drop (i + 1)).length = ws.length - (i + 1) := List.length_drop
          have hsz : zs.toArray.size = ws.length := by rw [List.size_toArray, hlen]
          rw [hdr] at hrd
          simp only [List.cons_append, List.nil_append] at N₁
          clear F₁ F2 N2 N3 hr
          cases q3 with
          | seven => exact absurd rfl x7
          | sym p1 p2 p3 =>
            have p1' := hP _ _ p1
            have p2' := hP _ _ p2
            (repeat' (first | (k_unfold; (try dsimp only)) | ((( (fail_if_success (with_reducible show wpAny _ _ (pyIter _) _ _ _)); (fail_if_success (with_reducible show wpAny _ _ (exec (Stmt.While _ _ _ _) _) _ _ _)))); (( (fail_if_success (with_reducible show wpAny _ _ (eval (Expr.ListComp _ _ _ _) _) _ _ _)); (fail_if_success (with_reducible show wpAny _ _ (exec (Stmt.Assign _ (Expr.ListComp _ _ _ _) _) _) _ _ _)); (fail_if_success (with_reducible show LCg.CompSrc _ _ _ _ _ _ _ _ _ _ _ _ _ _)))); first | (first | ((with_reducible show wpAny _ _ (execs [] _) _ _ _); (k_here; (with_reducible refine gen_toks ?_); intro zztk)) | ((with_reducible show wpAny _ _ (execs (_ :: _) _) _ _ _); (k_here; (with_reducible refine gen_toks ?_); intro zztk)) | ((with_reducible show wpAny _ _ (execs (_ :: _) _) _ _ _); (k_here; (with_reducible refine wpAny_execs_cons ?_); (try dsimp only); k_fold)) | (((with_reducible show wpAny _ _ (call (Value.ref 143) [_]) _ _ _); (rename Fr _ _ _ _ => zzlF'); (rename Base _ _ => zzlB'); k_dflt (refine' bad_spec (zzlB'.keeps zzlF'.keep) (by k_room) ?_); intro zze' zzd' zzt' zzl' zzc' zztk'' zzsl' zzh' zztk' zzkp' zzhe' zzhd' zzhl' zzhne' zze1' zzn1' zzg1'; refine ⟨_, _, _, _, rfl, sig_at ((zzlB'.keeps zzlF'.keep).keeps zzkp').X, zze1', ?_⟩; (try dsimp only))) | ((with_reducible show wpAny _ _ (exec (Stmt.Raise _ _ _) _) _ _ _); (k_here; k_dflt (refine exec_raise_sig (by rfl) ?_))) | (((with_reducible show wpAny _ _ (call (Value.ref 132) [_, _, _]) _ _ _); k_dflt (refine' mk_told (by assumption) (by k_asm) (by k_asm) (by k_room) ?_; k_whole); intro zzx' zzdx' zzh' zztk' zzk1' zzt1' zzk2' zzt2' zzk3' zzt3' zzF' zzN' zzl1' zzl2'; (try k_sweep))) | ((with_reducible show wpAny _ _ (subscriptTail (Expr.Name _ _) (Expr.Name _ _) (Value.ref _) (Value.int _ _)) _ _ _); (k_dflt (refine' item_list (by is_list) (by (first | decide | omega | (simp only [List.size_toArray] at *; omega))) (by (first | decide | omega | (simp only [List.size_toArray] at *; omega))) (by assumption) ?_))) | ((with_reducible show wpAny _ _ (exec (Stmt.For (Expr.Name _ _) (Expr.Call _ _ _ _) _ _ _) _) _ _ _); (k_here; (rename Fr _ _ _ _ => zzlF'); (with_unfolding_all refine' For_invVF zzlF' (by exact rfl) (by exact rfl) ?_; k_whole))) | ((with_reducible show wpAny _ _ (call (Value.builtin "len") [_]) _ _ _); (k_dflt (refine' call_len_list (by is_list) (by (first | decide | (simp only [List.size_toArray]; omega) | (simp only [List.size_toArray, List.length_cons, List.length_append, List.length_map, List.length_nil, List.length_take, List.length_drop]; omega))) ?_))) | walk1) | (dsimp only; (first | ((with_reducible show wpAny _ _ (execs [] _) _ _ _); (k_here; (with_reducible refine gen_toks ?_); intro zztk)) | ((with_reducible show wpAny _ _ (execs (_ :: _) _) _ _ _); (k_here; (with_reducible refine gen_toks ?_); intro zztk)) | ((with_reducible show wpAny _ _ (execs (_ :: _) _) _ _ _); (k_here; (with_reducible refine wpAny_execs_cons ?_); (try dsimp only); k_fold)) | (((with_reducible show wpAny _ _ (call (Value.ref 143) [_]) _ _ _); (rename Fr _ _ _ _ => zzlF'); (rename Base _ _ => zzlB'); k_dflt (refine' bad_spec (zzlB'.keeps zzlF'.keep) (by k_room) ?_); intro zze' zzd' zzt' zzl' zzc' zztk'' zzsl' zzh' zztk' zzkp' zzhe' zzhd' zzhl' zzhne' zze1' zzn1' zzg1'; refine ⟨_, _, _, _, rfl, sig_at ((zzlB'.keeps zzlF'.keep).keeps zzkp').X, zze1', ?_⟩; (try dsimp only))) | ((with_reducible show wpAny _ _ (exec (Stmt.Raise _ _ _) _) _ _ _); (k_here; k_dflt (refine exec_raise_sig (by rfl) ?_))) | (((with_reducible show wpAny _ _ (call (Value.ref 132) [_, _, _]) _ _ _); k_dflt (refine' mk_told (by assumption) (by k_asm) (by k_asm) (by k_room) ?_; k_whole); intro zzx' zzdx' zzh' zztk' zzk1' zzt1' zzk2' zzt2' zzk3' zzt3' zzF' zzN' zzl1' zzl2'; (try k_sweep))) | ((with_reducible show wpAny _ _ (subscriptTail (Expr.Name _ _) (Expr.Name _ _) (Value.ref _) (Value.int _ _)) _ _ _); (k_dflt (refine' item_list (by is_list) (by (first | decide | omega | (simp only [List.size_toArray] at *; omega))) (by (first | decide | omega | (simp only [List.size_toArray] at *; omega))) (by assumption) ?_))) | ((with_reducible show wpAny _ _ (exec (Stmt.For (Expr.Name _ _) (Expr.Call _ _ _ _) _ _ _) _) _ _ _); (k_here; (rename Fr _ _ _ _ => zzlF'); (with_unfolding_all refine' For_invVF zzlF' (by exact rfl) (by exact rfl) ?_; k_whole))) | ((with_reducible show wpAny _ _ (call (Value.builtin "len") [_]) _ _ _); (k_dflt (refine' call_len_list (by is_list) (by (first | decide | (simp only [List.size_toArray]; omega) | (simp only [List.size_toArray, List.length_cons, List.length_append, List.length_map, List.length_nil, List.length_take, List.length_drop]; omega))) ?_))) | walk1))) | fail "no step"))
            all_goals first
              | exact (no1 (by assumption) (by assumption)).elim
              | exact (no2 (by assumption) (by assumption)).elim
              | exact (no3 (by assumption) (by assumption)).elim
              | exact (no4 (by assumption) (by assumption) (by assumption)).elim
              | (exfalso; omega)
              | (with_reducible rename Kept _ _ => kp
                 (rename Fr _ _ _ _ => F2)
                 refine hout (fun _ => .inr ?_) (Around.frames_deeper rfl) rfl F2 (by assumption) (by assumption) (by assumption) kp (by assumption) (by assumption) (by assumption) (by intro q; cases q)
                 rw [hrd]
                 exact stepN (i := i) (by assumption) (by first | exact .inl (by assumption) | exact .inr (by assumption)) (by first | exact .inl (by assumption) | exact .inr (.inl (by assumption)) | exact .inr (.inr (by assumption))) hk hsz hrl hin)
              | ((rename Fr _ _ _ _ => FF); (rename News _ _ _ _ => NN)
                 refine tb3 (a := nl) (b := ol) (c := il) FF NN (by k_mem) (by k_mem) (by k_mem) (by intro p hp; repeat' (first | exact hp | refine List.Mem.tail _ ?_)) o1 o2 o3 ?_
                 have it := ItemIs.sym p1 p2 p3
                 refine ⟨nl, ol, _, _, _, _, _, _, _, _, _, _, rfl, rfl, rfl, rfl, rfl, rfl, rfl, hrd.trans (by first | exact stepO (by assumption) (by assumption) | exact stepR (i := i) (by assumption) (by assumption) hk (by assumption) hsz hrl hin | exact step0 (by assumption) (by assumption) (by assumption) | exact step1 (by assumption) (by assumption) (by assumption) hk (by assumption) | exact step2 (by assumption) (by assumption) (by assumption) hk (by assumption)),
                   by first | exact hzn | (rw [List.concat_eq_append]; exact hzn.snoc it), by first | exact hzo | (rw [List.concat_eq_append]; exact hzo.snoc it), by first | exact hrv | exact .some it x7, by first | omega | (rw [List.length_concat]; exact Nat.succ_le_succ z1), by first | omega | (rw [List.length_concat]; exact Nat.succ_le_succ z2), by omega, d1, d2, d3⟩)
        · intro m₁ nx h tk hJ F₁ N₁
          obtain ⟨nl, ol, zn, zo, nd, op, rs, rv, k, kt, c1, c2, e1, e2, e3, e4, e5, e6, rfl, hrd, hzn, hzo, hrv, z1, z2, hk, d1, d2, d3⟩ := hJ
          have F₂ := fr_know (fr_know (fr_know F₁ (a := Str.ofString "needed") (x := .ref nl) e1) (a := Str.ofString "optional") (x := .ref ol) e2) (a := Str.ofString "rest") (x := rv) e3
          rw [List.drop_length, rdl] at hrd
          have h7 : Str.ofString "7" ∉ ws := fun q => by
            have := List.all_eq_true.mp hall _ q
            revert this; decide +kernel
          clear F₁ F2 N2 N3 hr
          (repeat' (first | (k_unfold; (try dsimp only)) | ((( (fail_if_success (with_reducible show wpAny _ _ (pyIter _) _ _ _)); (fail_if_success (with_reducible show wpAny _ _ (exec (Stmt.While _ _ _ _) _) _ _ _)))); (( (fail_if_success (with_reducible show wpAny _ _ (eval (Expr.ListComp _ _ _ _) _) _ _ _)); (fail_if_success (with_reducible show wpAny _ _ (exec (Stmt.Assign _ (Expr.ListComp _ _ _ _) _) _) _ _ _)); (fail_if_success (with_reducible show LCg.CompSrc _ _ _ _ _ _ _ _ _ _ _ _ _ _)))); first | (first | ((with_reducible show wpAny _ _ (execs [] _) _ _ _); (k_here; (with_reducible refine gen_toks ?_); intro zztk)) | ((with_reducible show wpAny _ _ (execs (_ :: _) _) _ _ _); (k_here; (with_reducible refine gen_toks ?_); intro zztk)) | ((with_reducible show wpAny _ _ (execs (_ :: _) _) _ _ _); (k_here; (with_reducible refine wpAny_execs_cons ?_); (try dsimp only); k_fold)) | (((with_reducible show wpAny _ _ (call (Value.ref 143) [_]) _ _ _); (rename Fr _ _ _ _ => zzlF'); (rename Base _ _ => zzlB'); k_dflt (refine' bad_spec (zzlB'.keeps zzlF'.keep) (by k_room) ?_); intro zze' zzd' zzt' zzl' zzc' zztk'' zzsl' zzh' zztk' zzkp' zzhe' zzhd' zzhl' zzhne' zze1' zzn1' zzg1'; refine ⟨_, _, _, _, rfl, sig_at ((zzlB'.keeps zzlF'.keep).keeps zzkp').X, zze1', ?_⟩; (try dsimp only))) | ((with_reducible show wpAny _ _ (exec (Stmt.Raise _ _ _) _) _ _ _); (k_here; k_dflt (refine exec_raise_sig (by rfl) ?_))) | (((with_reducible show wpAny _ _ (call (Value.ref 132) [_, _, _]) _ _ _); k_dflt (refine' mk_told (by assumption) (by k_asm) (by k_asm) (by k_room) ?_; k_whole); intro zzx' zzdx' zzh' zztk' zzk1' zzt1' zzk2' zzt2' zzk3' zzt3' zzF' zzN' zzl1' zzl2'; (try k_sweep))) | ((with_reducible show wpAny _ _ (subscriptTail (Expr.Name _ _) (Expr.Name _ _) (Value.ref _) (Value.int _ _)) _ _ _); (k_dflt (refine' item_list (by is_list) (by (first | decide | omega | (simp only [List.size_toArray] at *; omega))) (by (first | decide | omega | (simp only [List.size_toArray] at *; omega))) (by assumption) ?_))) | ((with_reducible show wpAny _ _ (exec (Stmt.For (Expr.Name _ _) (Expr.Call _ _ _ _) _ _ _) _) _ _ _); (k_here; (rename Fr _ _ _ _ => zzlF'); (with_unfolding_all refine' For_invVF zzlF' (by exact rfl) (by exact rfl) ?_; k_whole))) | ((with_reducible show wpAny _ _ (call (Value.builtin "len") [_]) _ _ _); (k_dflt (refine' call_len_list (by is_list) (by (first | decide | (simp only [List.size_toArray]; omega) | (simp only [List.size_toArray, List.length_cons, List.length_append, List.length_map, List.length_nil, List.length_take, List.length_drop]; omega))) ?_))) | walk1) | (dsimp only; (first | ((with_reducible show wpAny _ _ (execs [] _) _ _ _); (k_here; (with_reducible refine gen_toks ?_); intro zztk)) | ((with_reducible show wpAny _ _ (execs (_ :: _) _) _ _ _); (k_here; (with_reducible refine gen_toks ?_); intro zztk)) | ((with_reducible show wpAny _ _ (execs (_ :: _) _) _ _ _); (k_here; (with_reducible refine wpAny_execs_cons ?_); (try dsimp only); k_fold)) | (((with_reducible show wpAny _ _ (call (Value.ref 143) [_]) _ _ _); (rename Fr _ _ _ _ => zzlF'); (rename Base _ _ => zzlB'); k_dflt (refine' bad_spec (zzlB'.keeps zzlF'.keep) (by k_room) ?_); intro zze' zzd' zzt' zzl' zzc' zztk'' zzsl' zzh' zztk' zzkp' zzhe' zzhd' zzhl' zzhne' zze1' zzn1' zzg1'; refine ⟨_, _, _, _, rfl, sig_at ((zzlB'.keeps zzlF'.keep).keeps zzkp').X, zze1', ?_⟩; (try dsimp only))) | ((with_reducible show wpAny _ _ (exec (Stmt.Raise _ _ _) _) _ _ _); (k_here; k_dflt (refine exec_raise_sig (by rfl) ?_))) | (((with_reducible show wpAny _ _ (call (Value.ref 132) [_, _, _]) _ _ _); k_dflt (refine' mk_told (by assumption) (by k_asm) (by k_asm) (by k_room) ?_; k_whole); intro zzx' zzdx' zzh' zztk' zzk1' zzt1' zzk2' zzt2' zzk3' zzt3' zzF' zzN' zzl1' zzl2'; (try k_sweep))) | ((with_reducible show wpAny _ _ (subscriptTail (Expr.Name _ _) (Expr.Name _ _) (Value.ref _) (Value.int _ _)) _ _ _); (k_dflt (refine' item_list (by is_list) (by (first | decide | omega | (simp only [List.size_toArray] at *; omega))) (by (first | decide | omega | (simp only [List.size_toArray] at *; omega))) (by assumption) ?_))) | ((with_reducible show wpAny _ _ (exec (Stmt.For (Expr.Name _ _) (Expr.Call _ _ _ _) _ _ _) _) _ _ _); (k_here; (rename Fr _ _ _ _ => zzlF'); (with_unfolding_all refine' For_invVF zzlF' (by exact rfl) (by exact rfl) ?_; k_whole))) | ((with_reducible show wpAny _ _ (call (Value.builtin "len") [_]) _ _ _); (k_dflt (refine' call_len_list (by is_list) (by (first | decide | (simp only [List.size_toArray]; omega) | (simp only [List.size_toArray, List.length_cons, List.length_append, List.length_map, List.length_nil, List.length_take, List.length_drop]; omega))) ?_))) | walk1))) | fail "no step"))
          (rename Fr _ _ _ _ => FF); (rename News _ _ _ _ => NN)
          have m1 := NN _ (.head _)
          have m2 := NN _ (.tail _ (.head _))
          have m3 := NN _ (.tail _ (.tail _ (.head _)))
          have m4 := NN _ (.tail _ (.tail _ (.tail _ (.head _))))
          exact hQ nd op rs zn zo rv _ _ nl ol _ _ _ _ _ _ c1 c2 _ _ rfl h7 hrd hzn hzo hrv FF.keep (List.forall_mem_cons.mpr ⟨⟨m1.1, m1.2.2⟩, List.forall_mem_cons.mpr ⟨⟨m2.1, m2.2.2⟩, List.forall_mem_cons.mpr ⟨⟨m3.1, m3.2.2⟩, List.forall_mem_cons.mpr ⟨⟨m4.1, m4.2.2⟩, List.forall_mem_nil _⟩⟩⟩⟩)
      · (rename Fr _ _ _ _ => F2); (with_reducible rename Kept _ _ => kp); (rename List.all _ _ = false => hall)
        refine hout (fun _ => .inl ?_) (Around.frames_deeper rfl) rfl F2 (by assumption) (by assumption) (by assumption) kp (by assumption) (by assumption) (by assumption) ?_
        · obtain ⟨x, hx, hx7⟩ := List.all_eq_false.mp hall
          simp only [ne_eq, decide_not, Bool.not_eq_true, Bool.not_eq_false', decide_eq_true_eq] at hx7
          exact hx7 ▸ hx
        · intro q; cases q
  · (repeat' (first | (k_unfold; (try dsimp only)) | ((( (fail_if_success (with_reducible show wpAny _ _ (pyIter _) _ _ _)); (fail_if_success (with_reducible show wpAny _ _ (exec (Stmt.While _ _ _ _) _) _ _ _)))); (( (fail_if_success (with_reducible show wpAny _ _ (eval (Expr.ListComp _ _ _ _) _) _ _ _)); (fail_if_success (with_reducible show wpAny _ _ (exec (Stmt.Assign _ (Expr.ListComp _ _ _ _) _) _) _ _ _)); (fail_if_success (with_reducible show LCg.CompSrc _ _ _ _ _ _ _ _ _ _ _ _ _ _)))); first | (first | ((with_reducible show wpAny _ _ (execs [] _) _ _ _); (k_here; (with_reducible refine gen_toks ?_); intro zztk)) | ((with_reducible show wpAny _ _ (execs (_ :: _) _) _ _ _); (k_here; (with_reducible refine gen_toks ?_); intro zztk)) | ((with_reducible show wpAny _ _ (execs (_ :: _) _) _ _ _); (k_here; (with_reducible refine wpAny_execs_cons ?_); (try dsimp only); k_fold)) | (((with_reducible show wpAny _ _ (call (Value.ref 143) [_]) _ _ _); (rename Fr _ _ _ _ => zzlF'); (rename Base _ _ => zzlB'); k_dflt (refine' bad_spec (zzlB'.keeps zzlF'.keep) (by k_room) ?_); intro zze' zzd' zzt' zzl' zzc' zztk'' zzsl' zzh' zztk' zzkp' zzhe' zzhd' zzhl' zzhne' zze1' zzn1' zzg1'; refine ⟨_, _, _, _, rfl, sig_at ((zzlB'.keeps zzlF'.keep).keeps zzkp').X, zze1', ?_⟩; (try dsimp only))) | ((with_reducible show wpAny _ _ (exec (Stmt.Raise _ _ _) _) _ _ _); (k_here; k_dflt (refine exec_raise_sig (by rfl) ?_))) | (((with_reducible show wpAny _ _ (call (Value.ref 132) [_, _, _]) _ _ _); k_dflt (refine' mk_told (by assumption) (by k_asm) (by k_asm) (by k_room) ?_; k_whole); intro zzx' zzdx' zzh' zztk' zzk1' zzt1' zzk2' zzt2' zzk3' zzt3' zzF' zzN' zzl1' zzl2'; (try k_sweep))) | ((with_reducible show wpAny _ _ (subscriptTail (Expr.Name _ _) (Expr.Name _ _) (Value.ref _) (Value.int _ _)) _ _ _); (k_dflt (refine' item_list (by is_list) (by (first | decide | omega | (simp only [List.size_toArray] at *; omega))) (by (first | decide | omega | (simp only [List.size_toArray] at *; omega))) (by assumption) ?_))) | ((with_reducible show wpAny _ _ (exec (Stmt.For (Expr.Name _ _) (Expr.Call _ _ _ _) _ _ _) _) _ _ _); (k_here; (rename Fr _ _ _ _ => zzlF'); (with_unfolding_all refine' For_invVF zzlF' (by exact rfl) (by exact rfl) ?_; k_whole))) | ((with_reducible show wpAny _ _ (call (Value.builtin "len") [_]) _ _ _); (k_dflt (refine' call_len_list (by is_list) (by (first | decide | (simp only [List.size_toArray]; omega) | (simp only [List.size_toArray, List.length_cons, List.length_append, List.length_map, List.length_nil, List.length_take, List.length_drop]; omega))) ?_))) | walk1) | (dsimp only; (first | ((with_reducible show wpAny _ _ (execs [] _) _ _ _); (k_here; (with_reducible refine gen_toks ?_); intro zztk)) | ((with_reducible show wpAny _ _ (execs (_ :: _) _) _ _ _); (k_here; (with_reducible refine gen_toks ?_); intro zztk)) | ((with_reducible show wpAny _ _ (execs (_ :: _) _) _ _ _); (k_here; (with_reducible refine wpAny_execs_cons ?_); (try dsimp only); k_fold)) | (((with_reducible show wpAny _ _ (call (Value.ref 143) [_]) _ _ _); (rename Fr _ _ _ _ => zzlF'); (rename Base _ _ => zzlB'); k_dflt (refine' bad_spec (zzlB'.keeps zzlF'.keep) (by k_room) ?_); intro zze' zzd' zzt' zzl' zzc' zztk'' zzsl' zzh' zztk' zzkp' zzhe' zzhd' zzhl' zzhne' zze1' zzn1' zzg1'; refine ⟨_, _, _, _, rfl, sig_at ((zzlB'.keeps zzlF'.keep).keeps zzkp').X, zze1', ?_⟩; (try dsimp only))) | ((with_reducible show wpAny _ _ (exec (Stmt.Raise _ _ _) _) _ _ _); (k_here; k_dflt (refine exec_raise_sig (by rfl) ?_))) | (((with_reducible show wpAny _ _ (call (Value.ref 132) [_, _, _]) _ _ _); k_dflt (refine' mk_told (by assumption) (by k_asm) (by k_asm) (by k_room) ?_; k_whole); intro zzx' zzdx' zzh' zztk' zzk1' zzt1' zzk2' zzt2' zzk3' zzt3' zzF' zzN' zzl1' zzl2'; (try k_sweep))) | ((with_reducible show wpAny _ _ (subscriptTail (Expr.Name _ _) (Expr.Name _ _) (Value.ref _) (Value.int _ _)) _ _ _); (k_dflt (refine' item_list (by is_list) (by (first | decide | omega | (simp only [List.size_toArray] at *; omega))) (by (first | decide | omega | (simp only [List.size_toArray] at *; omega))) (by assumption) ?_))) | ((with_reducible show wpAny _ _ (exec (Stmt.For (Expr.Name _ _) (Expr.Call _ _ _ _) _ _ _) _) _ _ _); (k_here; (rename Fr _ _ _ _ => zzlF'); (with_unfolding_all refine' For_invVF zzlF' (by exact rfl) (by exact rfl) ?_; k_whole))) | ((with_reducible show wpAny _ _ (call (Value.builtin "len") [_]) _ _ _); (k_dflt (refine' call_len_list (by is_list) (by (first | decide | (simp only [List.size_toArray]; omega) | (simp only [List.size_toArray, List.length_cons, List.length_append, List.length_map, List.length_nil, List.length_take, List.length_drop]; omega))) ?_))) | walk1))) | fail "no step"))
    (rename Fr _ _ _ _ => F1); (rename News _ _ _ _ => N1)
    k_dflt (refine' items_call7 B F1 N1 ?d (hl.mono F1.keep) (by omega) hi.handed ?_; (case d => k_room))
    intro h' tk' F' N'
    clear F1 N1
    try dsimp only
    (repeat' (first | (k_unfold; (try dsimp only)) | ((( (fail_if_success (with_reducible show wpAny _ _ (pyIter _) _ _ _)); (fail_if_success (with_reducible show wpAny _ _ (exec (Stmt.While _ _ _ _) _) _ _ _)))); (( (fail_if_success (with_reducible show wpAny _ _ (eval (Expr.ListComp _ _ _ _) _) _ _ _)); (fail_if_success (with_reducible show wpAny _ _ (exec (Stmt.Assign _ (Expr.ListComp _ _ _ _) _) _) _ _ _)); (fail_if_success (with_reducible show LCg.CompSrc _ _ _ _ _ _ _ _ _ _ _ _ _ _)))); first | (first | ((with_reducible show wpAny _ _ (execs [] _) _ _ _); (k_here; (with_reducible refine gen_toks ?_); intro zztk)) | ((with_reducible show wpAny _ _ (execs (_ :: _) _) _ _ _); (k_here; (with_reducible refine gen_toks ?_); intro zztk)) | ((with_reducible show wpAny _ _ (execs (_ :: _) _) _ _ _); (k_here; (with_reducible refine wpAny_execs_cons ?_); (try dsimp only); k_fold)) | (((with_reducible show wpAny _ _ (call (Value.ref 143) [_]) _ _ _); (rename Fr _ _ _ _ => zzlF'); (rename Base _ _ => zzlB'); k_dflt (refine' bad_spec (zzlB'.keeps zzlF'.keep) (by k_room) ?_); intro zze' zzd' zzt' zzl' zzc' zztk'' zzsl' zzh' zztk' zzkp' zzhe' zzhd' zzhl' zzhne' zze1' zzn1' zzg1'; refine ⟨_, _, _, _, rfl, sig_at ((zzlB'.keeps zzlF'.keep).keeps zzkp').X, zze1', ?_⟩; (try dsimp only))) | ((with_reducible show wpAny _ _ (exec (Stmt.Raise _ _ _) _) _ _ _); (k_here; k_dflt (refine exec_raise_sig (by rfl) ?_))) | (((with_reducible show wpAny _ _ (call (Value.ref 132) [_, _, _]) _ _ _); k_dflt (refine' mk_told (by assumption) (by k_asm) (by k_asm) (by k_room) ?_; k_whole); intro zzx' zzdx' zzh' zztk' zzk1' zzt1' zzk2' zzt2' zzk3' zzt3' zzF' zzN' zzl1' zzl2'; (try k_sweep))) | ((with_reducible show wpAny _ _ (subscriptTail (Expr.Name _ _) (Expr.Name _ _) (Value.ref _) (Value.int _ _)) _ _ _); (k_dflt (refine' item_list (by is_list) (by (first | decide | omega | (simp only [List.size_toArray] at *; omega))) (by (first | decide | omega | (simp only [List.size_toArray] at *; omega))) (by assumption) ?_))) | ((with_reducible show wpAny _ _ (exec (Stmt.For (Expr.Name _ _) (Expr.Call _ _ _ _) _ _ _) _) _ _ _); (k_here; (rename Fr _ _ _ _ => zzlF'); (with_unfolding_all refine' For_invVF zzlF' (by exact rfl) (by exact rfl) ?_; k_whole))) | ((with_reducible show wpAny _ _ (call (Value.builtin "len") [_]) _ _ _); (k_dflt (refine' call_len_list (by is_list) (by (first | decide | (simp only [List.size_toArray]; omega) | (simp only [List.size_toArray, List.length_cons, List.length_append, List.length_map, List.length_nil, List.length_take, List.length_drop]; omega))) ?_))) | walk1) | (dsimp only; (first | ((with_reducible show wpAny _ _ (execs [] _) _ _ _); (k_here; (with_reducible refine gen_toks ?_); intro zztk)) | ((with_reducible show wpAny _ _ (execs (_ :: _) _) _ _ _); (k_here; (with_reducible refine gen_toks ?_); intro zztk)) | ((with_reducible show wpAny _ _ (execs (_ :: _) _) _ _ _); (k_here; (with_reducible refine wpAny_execs_cons ?_); (try dsimp only); k_fold)) | (((with_reducible show wpAny _ _ (call (Value.ref 143) [_]) _ _ _); (rename Fr _ _ _ _ => zzlF'); (rename Base _ _ => zzlB'); k_dflt (refine' bad_spec (zzlB'.keeps zzlF'.keep) (by k_room) ?_); intro zze' zzd' zzt' zzl' zzc' zztk'' zzsl' zzh' zztk' zzkp' zzhe' zzhd' zzhl' zzhne' zze1' zzn1' zzg1'; refine ⟨_, _, _, _, rfl, sig_at ((zzlB'.keeps zzlF'.keep).keeps zzkp').X, zze1', ?_⟩; (try dsimp only))) | ((with_reducible show wpAny _ _ (exec (Stmt.Raise _ _ _) _) _ _ _); (k_here; k_dflt (refine exec_raise_sig (by rfl) ?_))) | (((with_reducible show wpAny _ _ (call (Value.ref 132) [_, _, _]) _ _ _); k_dflt (refine' mk_told (by assumption) (by k_asm) (by k_asm) (by k_room) ?_; k_whole); intro zzx' zzdx' zzh' zztk' zzk1' zzt1' zzk2' zzt2' zzk3' zzt3' zzF' zzN' zzl1' zzl2'; (try k_sweep))) | ((with_reducible show wpAny _ _ (subscriptTail (Expr.Name _ _) (Expr.Name _ _) (Value.ref _) (Value.int _ _)) _ _ _); (k_dflt (refine' item_list (by is_list) (by (first | decide | omega | (simp only [List.size_toArray] at *; omega))) (by (first | decide | omega | (simp only [List.size_toArray] at *; omega))) (by assumption) ?_))) | ((with_reducible show wpAny _ _ (exec (Stmt.For (Expr.Name _ _) (Expr.Call _ _ _ _) _ _ _) _) _ _ _); (k_here; (rename Fr _ _ _ _ => zzlF'); (with_unfolding_all refine' For_invVF zzlF' (by exact rfl) (by exact rfl) ?_; k_whole))) | ((with_reducible show wpAny _ _ (call (Value.builtin "len") [_]) _ _ _); (k_dflt (refine' call_len_list (by is_list) (by (first | decide | (simp only [List.size_toArray]; omega) | (simp only [List.size_toArray, List.length_cons, List.length_append, List.length_map, List.length_nil, List.length_take, List.length_drop]; omega))) ?_))) | walk1))) | fail "no step"))
    (rename Fr _ _ _ _ => F2); (with_reducible rename Kept _ _ => kp)
    refine hout (fun q => by cases q) (Around.frames_deeper rfl) rfl F2 (by assumption) (by assumption) (by assumption) kp (by assumption) (by assumption) (by assumption) ?_
    intro q; cases q

theorem zz_reset_NpLrd : True := by
  w_top off
  exact trivial
open PySem PySem.W PyProof.Rows PySem.Calls
theorem seed_frag_lrd : hd.heap_39 = hd.heap_39 ∧ PySem.Challenge.rw_np0012_01 = PySem.Challenge.rw_np0012_01 := by
  k_fill
  exact ⟨rfl, rfl⟩

theorem isStrOf_at (k : Str) : ∀ {vs : List Value} {ws : List Str}, StrsAre vs ws → ∀ (j : Nat) (h1 : j < vs.length) (h2 : j < ws.length), isStrOf k vs[j] = (ws[j] == k)
  | _, _, .cons n t _, 0, _, _ => rfl
  | _, _, .cons n t r, j + 1, h1, h2 => isStrOf_at k r j (Nat.lt_of_succ_lt_succ h1) (Nat.lt_of_succ_lt_succ h2)
theorem before_idx {k : Str} : ∀ {ws : List Str} {j : Nat}, j < ws.idxOf k → ∀ (h2 : j < ws.length), (ws[j] == k) = false
  | n :: r, 0, h, _ => by
    by_cases e : n = k
    · subst e; simp at h
    · simpa using e
  | n :: r, j + 1, h, h2 => by
    by_cases e : n = k
    · subst e; simp at h
    · have hb : (n == k) = false := by simpa using e
      rw [List.idxOf_cons, hb] at h
      exact before_idx (Nat.lt_of_succ_lt_succ h) (Nat.lt_of_succ_lt_succ h2)

section
variable {prog : Program} {w : World} {A : Around} {E : Value → Shared → Prop} {s : Shared}
theorem index_strs {l : Addr} {vs : List Value} {ws : List Str} {k : Str} {t : Tok} {Q : Value → Shared → Prop} (hl : s.heap.IsList l vs.toArray) (hi : StrsAre vs ws) (hz : vs.length ≤ 1000) (hk : ws.any (· == k) = true)
    (h : Q (.int (ws.idxOf k : Nat) s.toks) { s with toks := s.toks + 1 }) : wpAny (model prog w) A (call (.builtin "list.index") [.ref l, .str k t]) Q E s := by
  obtain ⟨⟨cls, dd, data, sl⟩, ho, hc, n, hd⟩ := id hl
  simp only at hc hd
  subst hc hd
  have hlen : vs.length = ws.length := StrsAre.length hi
  have hk' : k ∈ ws := by obtain ⟨x, hx, e⟩ := List.any_eq_true.mp hk; rw [beq_iff_eq] at e; exact e ▸ hx
  have hj : ws.idxOf k < ws.length := List.idxOf_lt_length_iff.mpr hk'
  refine call_meets PySem.F.slot_list_index ⟨_, ho, rfl⟩ PySem.F.entry_list_index (PySem.F.args_list_index_2 _ _)
    (SeqAt.list_indexAt l vs.toArray n dd sl (.str k t) (isStrOf k) (ws.idxOf k) (by simpa [hlen] using hj) (by omega) ?_ ?_) ⟨ho, fun y hy => (eq_isStrOf k t hi y (by simpa using hy)).at _ _, h⟩
  · show isStrOf k vs[ws.idxOf k] = true
    rw [isStrOf_at k hi _ (by omega) hj]
    simpa using List.getElem_idxOf hj
  · intro j hjs hlt
    show isStrOf k vs[j] = false
    rw [isStrOf_at k hi j (by simpa using hjs) (by omega)]
    exact before_idx hlt _
theorem list_meth {h₀ : Heap} {L D : Addr} {m : Str → Option Value} {its : Array Value} {n : Nat} {name : Str} {id : String} {pl : Sem Bool} {Q : Value × List Value → Shared → Prop} (F : Fr h₀ L s.heap m) (ho : h₀.get? D = some (listOf its n)) (slot : Slot "list" name id) (hty : typeOf (.builtin id) = pure (.type "method_descriptor"))
    (h : Q (.builtin id, [.ref D]) s) : wpAny (model prog w) A (getMethod (.ref D) name pl) Q E s :=
  getMethod_builtin ⟨_, F.keep _ _ ho, rfl⟩ PySem.F.plainAttrs_list slot hty (fun a e => by cases e; exact ⟨_, F.keep _ _ ho, rfl⟩) h
theorem slice_ex {h₀ : Heap} {L l : Addr} {m : Str → Option Value} {news : List (Addr × Obj)} {value slice : PySem.Expr} {vs : List Value} {vl vu : Value} {lo hi : Option Int} {Q : Value → Shared → Prop}
    (F : Fr h₀ L s.heap m) (N : News h₀ L s.heap news) (hl : s.heap.IsList l vs.toArray) (pl : IsPart vl lo) (pu : IsPart vu hi)
    (h : ∀ D h', Fr h₀ L h' m → News h₀ L h' ((D, listOf (List.toArray (kms_pick vs lo hi)) 0) :: news) → (∀ p ∈ news, p.1 < D) → Q (.ref D) { s with heap := h' })
    (hs : subscripted slice false (.ref l) (.ref s.heap.objs.size) = operate [.ref s.heap.objs.size, .ref l] (getItem (.ref l) (.ref s.heap.objs.size))) (ht : ∀ r, letTemporaryGo value (.ref l) r = pure ()) (hz : vs.length ≤ 1000) :
    wpAny (model prog w) A (subscriptTail value slice (.ref l) (.ref s.heap.objs.size)) Q E { s with heap := s.heap.push { cls := .type "slice", data := .fields #[vl, vu, .none] } } :=
  kms_slice_lit F N hl pl pu rfl (fun D h' F' N' l1 => h D h' F' N' l1) hs ht (by rw [sizeLine_eq, List.size_toArray]; omega)
theorem item_last {value slice : Expr} {l : Addr} {vs : List Value} {x : Value} {u : Tok} {Q : Value → Shared → Prop} (hl : s.heap.IsList l vs.toArray) (hx : vs.getLast? = some x) (hz : vs.length ≤ 1000) (h : Q x s)
    (hs : subscripted slice false (.ref l) (.int (-1) u) = operate [.ref l, .int (-1) u] (getItem (.ref l) (.int (-1) u)) := by with_unfolding_all rfl) :
    wpAny (model prog w) A (subscriptTail value slice (.ref l) (.int (-1) u)) Q E s := by
  have h1 : 0 < vs.length := by cases vs with
    | nil => cases hx
    | cons _ _ => exact Nat.succ_pos _
  refine tail_any hl.typeIs slot_list_getitem.lookup (wpAny_getItem_list_neg hl (by decide) (by rw [List.size_toArray]; omega) (by decide) ?_ h) hs
  rw [List.size_toArray, List.getElem?_toArray, ← hx, List.getLast?_eq_getElem?]
  congr 1; omega
end

theorem pick_take {us : List Value} {ws : List Str} (hi : StrsAre us ws) (k : Nat) : StrsAre (kms_pick us none (some (k : Int))) (ws.take k) := by
  have hl : us.length = ws.length := StrsAre.length hi
  have e : kms_pick us none (some (k : Int)) = us.take k := by
    unfold kms_pick kms_lo kms_hi
    simp only [List.drop_zero, Nat.sub_zero]
    rw [if_neg (by omega)]
    by_cases h : k ≤ us.length
    · congr 1; omega
    · rw [List.take_of_length_le (by omega), List.take_of_length_le (by omega)]
  rw [e]; exact hi.take' k
theorem pick_drop {us : List Value} {ws : List Str} (hi : StrsAre us ws) (k : Nat) : StrsAre (kms_pick us (some ((k : Int) + 1)) none) (ws.drop (k + 1)) := by
  have hl : us.length = ws.length := StrsAre.length hi
  have e : kms_pick us (some ((k : Int) + 1)) none = us.drop (k + 1) := by
    unfold kms_pick kms_lo kms_hi
    try dsimp only
    rw [if_neg (by omega)]
    rw [List.take_of_length_le (by rw [List.length_drop]; omega)]
    by_cases h : k + 1 ≤ us.length
    · congr 1; omega
    · rw [List.drop_of_length_le (by omega), List.drop_of_length_le (by omega)]
  rw [e]; exact hi.drop' (k + 1)
theorem pick_two {us : List Value} {ws : List Str} (hi : StrsAre us ws) : StrsAre (kms_pick us none (some (-2))) (ws.take (ws.length - 2)) := by
  have hl : us.length = ws.length := StrsAre.length hi
  have e : kms_pick us none (some (-2)) = us.take (us.length - 2) := by
    unfold kms_pick kms_lo kms_hi
    simp only [List.drop_zero, Nat.sub_zero]
    rw [if_pos (by decide)]
    rfl
  rw [e, hl]; exact hi.take' _
theorem strs_last {us : List Value} {ws : List Str} (hi : StrsAre us ws) (h : ws ≠ []) : ∃ x t, us.getLast? = some (.str x t) ∧ ws.getLast? = some x := by
  induction hi with
  | nil => exact absurd rfl h
  | cons n t r ih =>
    cases r with
    | nil => exact ⟨_, _, rfl, rfl⟩
    | cons n2 t2 r2 =>
      obtain ⟨x, t', e1, e2⟩ := ih (by simp)
      exact ⟨x, t', by rw [List.getLast?_cons_cons]; exact e1, by rw [List.getLast?_cons_cons]; exact e2⟩
theorem w8_len {x : Str} (h : x ∈ W8) : 0 < x.length ∧ x.length ≤ 16 := by
  simp only [W8, List.mem_cons, List.not_mem_nil, or_false] at h
  rcases h with rfl | rfl | rfl | rfl | rfl | rfl | rfl | rfl <;> decide +kernel
theorem w8_amp {x : Str} (h : x ∈ W8) : (Txt.item x 0 == Str.ofString "&") = decide (x = Str.ofString "&optional" ∨ x = Str.ofString "&rest") := by
  simp only [W8, List.mem_cons, List.not_mem_nil, or_false] at h
  rcases h with rfl | rfl | rfl | rfl | rfl | rfl | rfl | rfl <;> decide +kernel

def lrs (ws : List Str) (rs : Option Str) : Option (List Str × List Str × Option Str) :=
  if ws.any (· == Str.ofString "&optional") = true then some (ws.take (ws.idxOf (Str.ofString "&optional")), ws.drop (ws.idxOf (Str.ofString "&optional") + 1), rs) else some (ws, [], rs)
def lrd (ws : List Str) : Option (List Str × List Str × Option Str) :=
  if ws.any (· == Str.ofString "7") = true then none
  else if 1 < Spec.countIn (PyData.str (Str.ofString "&optional")) (ws.map PyData.str) then none
  else if 1 < Spec.countIn (PyData.str (Str.ofString "&rest")) (ws.map PyData.str) then none
  else if ws.any (· == Str.ofString "&rest") = true then
    if ((ws.idxOf (Str.ofString "&rest") : Nat) : Int) ≠ (ws.length : Int) - 2 then none
    else match ws.getLast? with
      | some x => if x = Str.ofString "&optional" ∨ x = Str.ofString "&rest" then none else lrs (ws.take (ws.length - 2)) (some x)
      | none => none
  else lrs ws none
def DueR (v : Value) (rs : Option Str) : Prop := (v = .none ∧ rs = none) ∨ ∃ x t, v = .str x t ∧ rs = some x

set_option maxHeartbeats 4000000 in
theorem lrd_spec {w : World} {prog : Program} {dp un : Nat} {fr : Option (List Env)} {gd : Option (List Code)} {s : Shared} {Q : Value → Shared → Prop} {E : Value → Shared → Prop} {wl : Addr} {us : List Value} {ws : List Str} {cw : Nat}
    (B : Base w s.heap) (hd : dp ≤ 790) (hu : un ≤ 4000) (hwl : s.heap.get? wl = some (listOf us.toArray cw)) (hi : StrsAre us ws) (hz : us.length ≤ 20) (h8 : ∀ x ∈ ws, x ∈ W8)
    (hQ0 : lrd ws = none → ∀ h' tk, Kept s.heap h' → Q .none { s with heap := h', toks := tk })
    (hQ1 : ∀ nd op rs vn vo rv tp a b c1 c2 ct h' tk, lrd ws = some (nd, op, rs) → StrsAre vn nd → StrsAre vo op → DueR rv rs → Kept s.heap h' → (h'.get? tp = some { cls := .type "tuple", data := .seq #[.ref a, .ref b, rv] ct } ∧ s.heap.get? tp = none) →
      (h'.get? a = some (listOf (List.toArray vn) c1) ∧ (s.heap.get? a = none ∨ a = wl)) → (h'.get? b = some (listOf (List.toArray vo) c2) ∧ s.heap.get? b = none) → Q (.ref tp) { s with heap := h', toks := tk }) :
    wpAny (model prog w) (Ar dp fr gd un) (call (.ref 179) [.ref wl]) Q E s := by
  have X := B.X
  obtain ⟨p, loose, mean, mg, mb, T⟩ := B.T
  have hl : s.heap.IsList wl us.toArray := ⟨_, hwl, rfl, _, rfl⟩
  have hsz : us.toArray.size = ws.length := by rw [List.size_toArray]; exact StrsAre.length hi
  k_dflt (refine' enter [(Str.ofString "words_own", .ref wl)] X T.nolimit ?k6 ?k7 ?k8 ?k9 ?kB ?c2 ?c3 ?c4 ?c5 ?_)
  ((k_dflt ((case k6 => k_is); (case k7 => k_is); (case k8 => k_room); (case k9 => first | exact BindsTo.of_eq rfl | exact binds_K (by k_in) rfl (by k_is) rfl rfl rfl); (case kB => exact locs rfl); (case c2 => exact rfl); (case c3 => exact rfl); (case c4 => exact rfl); (case c5 => decide))))
  intro L' h₁ tk F N
  by_cases hR : (ws.any fun x => x == Str.ofString "&rest") = true
  · obtain ⟨x, t, hx, hx2⟩ := strs_last hi (by rintro rfl; cases hR)
    have hx8 : x ∈ W8 := h8 x (List.mem_of_mem_getLast? hx2)
    have hxl := w8_len hx8
    have hpk := pick_two hi
    have hpz : (kms_pick us none (some (-2))).length ≤ 20 := by rw [StrsAre.length hpk, List.length_take, ← StrsAre.length hi]; omega
    (repeat' (first | (k_unfold; (try dsimp only)) | ((( (fail_if_success (with_reducible show wpAny _ _ (pyIter _) _ _ _)); (fail_if_success (with_reducible show wpAny _ _ (exec (Stmt.While _ _ _ _) _) _ _ _)))); (( (fail_if_success (with_reducible show wpAny _ _ (eval (Expr.ListComp _ _ _ _) _) _ _ _)); (fail_if_success (with_reducible show wpAny _ _ (exec (Stmt.Assign _ (Expr.ListComp _ _ _ _) _) _) _ _ _)); (fail_if_success (with_reducible show LCg.CompSrc _ _ _ _ _ _ _ _ _ _ _ _ _ _)))); first | (first | ((with_reducible show wpAny _ _ (execs [] _) _ _ _); (k_here; (with_reducible refine gen_toks ?_); intro zztk)) | ((with_reducible show wpAny _ _ (execs (_ :: _) _) _ _ _); (k_here; (with_reducible refine gen_toks ?_); intro zztk)) | ((with_reducible show wpAny _ _ (execs (_ :: _) _) _ _ _); (k_here; (with_reducible refine wpAny_execs_cons ?_); (try dsimp only); k_fold)) | ((k_here; (with_reducible show wpAny _ _ (subscriptTail _ _ (Value.str _ _) (Value.int _ _)) _ _ _); k_dflt (refine KXi.item rfl (by omega) (by omega) (by omega) ?_); intro zzkxiE)) | ((k_here; (with_reducible show wpAny _ _ (getMethod (Value.ref _) (PySem.Str.ofString "count") _) _ _ _); k_dflt (refine' list_meth (by k_asm) (by assumption) PySem.F.slot_list_count PySem.F.type_list_count ?_))) | ((k_here; (with_reducible show wpAny _ _ (getMethod (Value.ref _) (PySem.Str.ofString "index") _) _ _ _); k_dflt (refine' list_meth (by k_asm) (by assumption) PySem.F.slot_list_index PySem.F.type_list_index ?_))) | ((k_here; (with_reducible show wpAny _ _ (subscriptTail _ _ (Value.ref _) (Value.int _ _)) _ _ _); k_dflt (refine' item_last (by is_list) (by assumption) (by omega) ?_ (by with_unfolding_all rfl)))) | ((k_here; (with_reducible show wpAny _ _ (subscriptTail _ (PySem.Expr.Slice _ _ none _) (Value.ref _) (Value.ref _)) _ _ _); k_dflt (refine' slice_ex (by k_asm) (by k_asm) (by kmk_list) (by kmk_part) (by kmk_part) ?_ (by with_unfolding_all rfl) (by kmk_pure) (by (first | decide | omega | (simp only [List.length_append, List.length_cons, List.length_nil] at *; omega)))); intro zzD' zzh' zzF' zzN' zzl1; (try k_lt zzl1); (try k_sweep))) | ((with_reducible show wpAny _ _ (call (Value.builtin "list.index") _) _ _ _); (k_dflt (refine' index_strs (by is_list) (by assumption) (by omega) (by assumption) ?_))) | ((with_reducible show wpAny _ _ (call (Value.builtin "list.count") _) _ _ _); (k_dflt (refine' count_list_strs (by is_list) (by assumption) ?_))) | ((with_reducible show wpAny _ _ (compareOp CmpOp.In (Value.str _ _) (Value.ref _)) _ _ _); (k_dflt (refine' in_list_strs (by is_list) (by assumption) ?_))) | ((with_reducible show wpAny _ _ (call (Value.builtin "len") [_]) _ _ _); (k_dflt (refine' call_len_list (by is_list) (by (first | decide | (simp only [List.size_toArray]; omega) | (simp only [List.size_toArray, List.length_cons, List.length_append, List.length_map, List.length_nil, List.length_take, List.length_drop]; omega))) ?_))) | walk1) | (dsimp only; (first | ((with_reducible show wpAny _ _ (execs [] _) _ _ _); (k_here; (with_reducible refine gen_toks ?_); intro zztk)) | ((with_reducible show wpAny _ _ (execs (_ :: _) _) _ _ _); (k_here; (with_reducible refine gen_toks ?_); intro zztk)) | ((with_reducible show wpAny _ _ (execs (_ :: _) _) _ _ _); (k_here; (with_reducible refine wpAny_execs_cons ?_); (try dsimp only); k_fold)) | ((k_here; (with_reducible show wpAny _ _ (subscriptTail _ _ (Value.str _ _) (Value.int _ _)) _ _ _); k_dflt (refine KXi.item rfl (by omega) (by omega) (by omega) ?_); intro zzkxiE)) | ((k_here; (with_reducible show wpAny _ _ (getMethod (Value.ref _) (PySem.Str.ofString "count") _) _ _ _); k_dflt (refine' list_meth (by k_asm) (by assumption) PySem.F.slot_list_count PySem.F.type_list_count ?_))) | ((k_here; (with_reducible show wpAny _ _ (getMethod (Value.ref _) (PySem.Str.ofString "index") _) _ _ _); k_dflt (refine' list_meth (by k_asm) (by assumption) PySem.F.slot_list_index PySem.F.type_list_index ?_))) | ((k_here; (with_reducible show wpAny _ _ (subscriptTail _ _ (Value.ref _) (Value.int _ _)) _ _ _); k_dflt (refine' item_last (by is_list) (by assumption) (by omega) ?_ (by with_unfolding_all rfl)))) | ((k_here; (with_reducible show wpAny _ _ (subscriptTail _ (PySem.Expr.Slice _ _ none _) (Value.ref _) (Value.ref _)) _ _ _); k_dflt (refine' slice_ex (by k_asm) (by k_asm) (by kmk_list) (by kmk_part) (by kmk_part) ?_ (by with_unfolding_all rfl) (by kmk_pure) (by (first | decide | omega | (simp only [List.length_append, List.length_cons, List.length_nil] at *; omega)))); intro zzD' zzh' zzF' zzN' zzl1; (try k_lt zzl1); (try k_sweep))) | ((with_reducible show wpAny _ _ (call (Value.builtin "list.index") _) _ _ _); (k_dflt (refine' index_strs (by is_list) (by assumption) (by omega) (by assumption) ?_))) | ((with_reducible show wpAny _ _ (call (Value.builtin "list.count") _) _ _ _); (k_dflt (refine' count_list_strs (by is_list) (by assumption) ?_))) | ((with_reducible show wpAny _ _ (compareOp CmpOp.In (Value.str _ _) (Value.ref _)) _ _ _); (k_dflt (refine' in_list_strs (by is_list) (by assumption) ?_))) | ((with_reducible show wpAny _ _ (call (Value.builtin "len") [_]) _ _ _); (k_dflt (refine' call_len_list (by is_list) (by (first | decide | (simp only [List.size_toArray]; omega) | (simp only [List.size_toArray, List.length_cons, List.length_append, List.length_map, List.length_nil, List.length_take, List.length_drop]; omega))) ?_))) | walk1))) | fail "no step"))
    all_goals ((rename Fr _ _ _ _ => FF))
    · exact hQ0 (by unfold lrd; rw [if_pos (by assumption)]) _ _ FF.keep
    · exact hQ0 (by unfold lrd; rw [if_neg (by rw [Bool.not_eq_true]; assumption), if_pos (by assumption)]) _ _ FF.keep
    · exact hQ0 (by unfold lrd; rw [if_neg (by rw [Bool.not_eq_true]; assumption), if_neg (by assumption), if_pos (by assumption)]) _ _ FF.keep
    · exact hQ0 (by unfold lrd; rw [if_neg (by rw [Bool.not_eq_true]; assumption), if_neg (by assumption), if_neg (by assumption), if_pos hR, if_pos (by rw [← hsz]; assumption)]) _ _ FF.keep
    · (rename (_ == _) = true => ha)
      rw [w8_amp hx8, decide_eq_true_eq] at ha
      exact hQ0 (by unfold lrd; rw [if_neg (by rw [Bool.not_eq_true]; assumption), if_neg (by assumption), if_neg (by assumption), if_pos hR, if_neg (by rw [← hsz, ne_eq, Decidable.not_not]; assumption), hx2]; exact if_pos ha) _ _ FF.keep
    all_goals (
      (rename News _ _ _ _ => NN); (rename (_ == _) = false => ha)
      rw [w8_amp hx8, decide_eq_false_iff_not] at ha
      have hlr : lrd ws = lrs (ws.take (ws.length - 2)) (some x) := by
        unfold lrd; rw [if_neg (by rw [Bool.not_eq_true]; assumption), if_neg (by assumption), if_neg (by assumption), if_pos hR, if_neg (by rw [← hsz, ne_eq, Decidable.not_not]; assumption), hx2]; exact if_neg ha
      have m1 := NN _ (.head _)
      have m2 := NN _ (.tail _ (.head _)))
    · have m3 := NN _ (.tail _ (.tail _ (.head _)))
      exact hQ1 _ _ _ _ _ _ _ _ _ _ _ _ _ _ (hlr.trans (by unfold lrs; rw [if_pos (by assumption)])) (pick_take hpk _) (pick_drop hpk _) (.inr ⟨_, _, rfl, rfl⟩) FF.keep ⟨m1.1, m1.2.2⟩ ⟨m3.1, .inl m3.2.2⟩ ⟨m2.1, m2.2.2⟩
    · have m4 := NN _ (.tail _ (.tail _ (.tail _ (.head _))))
      exact hQ1 _ _ _ _ [] _ _ _ _ _ _ _ _ _ (hlr.trans (by unfold lrs; rw [if_neg (by rw [Bool.not_eq_true]; assumption)])) hpk .nil (.inr ⟨_, _, rfl, rfl⟩) FF.keep ⟨m1.1, m1.2.2⟩ ⟨m4.1, .inl m4.2.2⟩ ⟨m2.1, m2.2.2⟩
  · rw [Bool.not_eq_true] at hR
    (repeat' (first | (k_unfold; (try dsimp only)) | ((( (fail_if_success (with_reducible show wpAny _ _ (pyIter _) _ _ _)); (fail_if_success (with_reducible show wpAny _ _ (exec (Stmt.While _ _ _ _) _) _ _ _)))); (( (fail_if_success (with_reducible show wpAny _ _ (eval (Expr.ListComp _ _ _ _) _) _ _ _)); (fail_if_success (with_reducible show wpAny _ _ (exec (Stmt.Assign _ (Expr.ListComp _ _ _ _) _) _) _ _ _)); (fail_if_success (with_reducible show LCg.CompSrc _ _ _ _ _ _ _ _ _ _ _ _ _ _)))); first | (first | ((with_reducible show wpAny _ _ (execs [] _) _ _ _); (k_here; (with_reducible refine gen_toks ?_); intro zztk)) | ((with_reducible show wpAny _ _ (execs (_ :: _) _) _ _ _); (k_here; (with_reducible refine gen_toks ?_); intro zztk)) | ((with_reducible show wpAny _ _ (execs (_ :: _) _) _ _ _); (k_here; (with_reducible refine wpAny_execs_cons ?_); (try dsimp only); k_fold)) | ((k_here; (with_reducible show wpAny _ _ (subscriptTail _ _ (Value.str _ _) (Value.int _ _)) _ _ _); k_dflt (refine KXi.item rfl (by omega) (by omega) (by omega) ?_); intro zzkxiE)) | ((k_here; (with_reducible show wpAny _ _ (getMethod (Value.ref _) (PySem.Str.ofString "count") _) _ _ _); k_dflt (refine' list_meth (by k_asm) (by assumption) PySem.F.slot_list_count PySem.F.type_list_count ?_))) | ((k_here; (with_reducible show wpAny _ _ (getMethod (Value.ref _) (PySem.Str.ofString "index") _) _ _ _); k_dflt (refine' list_meth (by k_asm) (by assumption) PySem.F.slot_list_index PySem.F.type_list_index ?_))) | ((k_here; (with_reducible show wpAny _ _ (subscriptTail _ _ (Value.ref _) (Value.int _ _)) _ _ _); k_dflt (refine' item_last (by is_list) (by assumption) (by omega) ?_ (by with_unfolding_all rfl)))) | ((k_here; (with_reducible show wpAny _ _ (subscriptTail _ (PySem.Expr.Slice _ _ none _) (Value.ref _) (Value.ref _)) _ _ _); k_dflt (refine' slice_ex (by k_asm) (by k_asm) (by kmk_list) (by kmk_part) (by kmk_part) ?_ (by with_unfolding_all rfl) (by kmk_pure) (by (first | decide | omega | (simp only [List.length_append, List.length_cons, List.length_nil] at *; omega)))); intro zzD' zzh' zzF' zzN' zzl1; (try k_lt zzl1); (try k_sweep))) | ((with_reducible show wpAny _ _ (call (Value.builtin "list.index") _) _ _ _); (k_dflt (refine' index_strs (by is_list) (by assumption) (by omega) (by assumption) ?_))) | ((with_reducible show wpAny _ _ (call (Value.builtin "list.count") _) _ _ _); (k_dflt (refine' count_list_strs (by is_list) (by assumption) ?_))) | ((with_reducible show wpAny _ _ (compareOp CmpOp.In (Value.str _ _) (Value.ref _)) _ _ _); (k_dflt (refine' in_list_strs (by is_list) (by assumption) ?_))) | ((with_reducible show wpAny _ _ (call (Value.builtin "len") [_]) _ _ _); (k_dflt (refine' call_len_list (by is_list) (by (first | decide | (simp only [List.size_toArray]; omega) | (simp only [List.size_toArray, List.length_cons, List.length_append, List.length_map, List.length_nil, List.length_take, List.length_drop]; omega))) ?_))) | walk1) | (dsimp only; (first | ((with_reducible show wpAny _ _ (execs [] _) _ _ _); (k_here; (with_reducible refine gen_toks ?_); intro zztk)) | ((with_reducible show wpAny _ _ (execs (_ :: _) _) _ _ _); (k_here; (with_reducible refine gen_toks ?_); intro zztk)) | ((with_reducible show wpAny _ _ (execs (_ :: _) _) _ _ _); (k_here; (with_reducible refine wpAny_execs_cons ?_); (try dsimp only); k_fold)) | ((k_here; (with_reducible show wpAny _ _ (subscriptTail _ _ (Value.str _ _) (Value.int _ _)) _ _ _); k_dflt (refine KXi.item rfl (by omega) (by omega) (by omega) ?_); intro zzkxiE)) | ((k_here; (with_reducible show wpAny _ _ (getMethod (Value.ref _) (PySem.Str.ofString "count") _) _ _ _); k_dflt (refine' list_meth (by k_asm) (by assumption) PySem.F.slot_list_count PySem.F.type_list_count ?_))) | ((k_here; (with_reducible show wpAny _ _ (getMethod (Value.ref _) (PySem.Str.ofString "index") _) _ _ _); k_dflt (refine' list_meth (by k_asm) (by assumption) PySem.F.slot_list_index PySem.F.type_list_index ?_))) | ((k_here; (with_reducible show wpAny _ _ (subscriptTail _ _ (Value.ref _) (Value.int _ _)) _ _ _); k_dflt (refine' item_last (by is_list) (by assumption) (by omega) ?_ (by with_unfolding_all rfl)))) | ((k_here; (with_reducible show wpAny _ _ (subscriptTail _ (PySem.Expr.Slice _ _ none _) (Value.ref _) (Value.ref _)) _ _ _); k_dflt (refine' slice_ex (by k_asm) (by k_asm) (by kmk_list) (by kmk_part) (by kmk_part) ?_ (by with_unfolding_all rfl) (by kmk_pure) (by (first | decide | omega | (simp only [List.length_append, List.length_cons, List.length_nil] at *; omega)))); intro zzD' zzh' zzF' zzN' zzl1; (try k_lt zzl1); (try k_sweep))) | ((with_reducible show wpAny _ _ (call (Value.builtin "list.index") _) _ _ _); (k_dflt (refine' index_strs (by is_list) (by assumption) (by omega) (by assumption) ?_))) | ((with_reducible show wpAny _ _ (call (Value.builtin "list.count") _) _ _ _); (k_dflt (refine' count_list_strs (by is_list) (by assumption) ?_))) | ((with_reducible show wpAny _ _ (compareOp CmpOp.In (Value.str _ _) (Value.ref _)) _ _ _); (k_dflt (refine' in_list_strs (by is_list) (by assumption) ?_))) | ((with_reducible show wpAny _ _ (call (Value.builtin "len") [_]) _ _ _); (k_dflt (refine' call_len_list (by is_list) (by (first | decide | (simp only [List.size_toArray]; omega) | (simp only [List.size_toArray, List.length_cons, List.length_append, List.length_map, List.length_nil, List.length_take, List.length_drop]; omega))) ?_))) | walk1))) | fail "no step"))
    all_goals ((rename Fr _ _ _ _ => FF))
    · exact hQ0 (by unfold lrd; rw [if_pos (by assumption)]) _ _ FF.keep
    · exact hQ0 (by unfold lrd; rw [if_neg (by rw [Bool.not_eq_true]; assumption), if_pos (by assumption)]) _ _ FF.keep
    · exact hQ0 (by unfold lrd; rw [if_neg (by rw [Bool.not_eq_true]; assumption), if_neg (by assumption), if_pos (by assumption)]) _ _ FF.keep
    all_goals (
      (rename News _ _ _ _ => NN)
      have hlr : lrd ws = lrs ws none := by
        unfold lrd; rw [if_neg (by rw [Bool.not_eq_true]; assumption), if_neg (by assumption), if_neg (by assumption), if_neg (by rw [Bool.not_eq_true]; assumption)]
      have m1 := NN _ (.head _)
      have m2 := NN _ (.tail _ (.head _)))
    · have m3 := NN _ (.tail _ (.tail _ (.head _)))
      exact hQ1 _ _ _ _ _ _ _ _ _ _ _ _ _ _ (hlr.trans (by unfold lrs; rw [if_pos (by assumption)])) (pick_take hi _) (pick_drop hi _) (.inl ⟨rfl, rfl⟩) FF.keep ⟨m1.1, m1.2.2⟩ ⟨m3.1, .inl m3.2.2⟩ ⟨m2.1, m2.2.2⟩
    · exact hQ1 _ _ _ _ [] _ _ _ _ _ _ _ _ _ (hlr.trans (by unfold lrs; rw [if_neg (by rw [Bool.not_eq_true]; assumption)])) hi .nil (.inl ⟨rfl, rfl⟩) FF.keep ⟨m1.1, m1.2.2⟩ ⟨FF.keep _ _ hwl, .inr rfl⟩ ⟨m2.1, m2.2.2⟩

theorem zz_reset_NpEnum : True := by
  w_top off
  exact trivial
open PySem PySem.W PyProof.Rows PySem.Calls
section
variable {prog : Program} {w : World} {A : Around} {E : Value → Shared → Prop} {s : Shared} {env : Env} {h₀ : Heap}

def EnEnd (h₀ : Heap) (L : Addr) (J : (Str → Option Value) → List (Addr × Obj) → Prop) (e it : Addr) (own : List (Addr × Obj)) (s₁ s₂ : Shared) : Prop :=
  ∃ h' tk m' nx, s₂ = { s₁ with heap := h', toks := tk } ∧ Fr h₀ L h' m' ∧ News h₀ L h' (own ++ nx) ∧ (∀ p ∈ nx, p.1 ≠ e ∧ p.1 ≠ it) ∧ J m' nx
def EnPost (h₀ : Heap) (L : Addr) (J : (Str → Option Value) → List (Addr × Obj) → Prop) (e it : Addr) (own : List (Addr × Obj)) (s₁ : Shared) (Q : Flow → Shared → Prop) (f : Flow) (s₂ : Shared) : Prop :=
  match f with
  | .ret v => Q (.ret v) s₂
  | .brk => Q .next s₂
  | _ => EnEnd h₀ L J e it own s₁ s₂
def EnAt (prog : Program) (w : World) (A : Around) (h₀ : Heap) (env : Env) (xi xc : Str) (body : List Stmt) (Q : Flow → Shared → Prop) (E : Value → Shared → Prop) (xv : Value) (s : Shared) : Prop :=
  ∃ (e it l : Addr) (its : Array Value) (c : Nat) (m : Str → Option Value) (news : List (Addr × Obj)) (J : Nat → (Str → Option Value) → List (Addr × Obj) → Prop),
    xv = .ref e ∧ (e ≠ it ∧ l ≠ e ∧ l ≠ it) ∧ IsEnum s.heap e it 0 .none ∧ s.heap.IsListIter it l 0 ∧ (env.locals ≠ e ∧ env.locals ≠ it) ∧ (h₀.get? e = none ∧ h₀.get? it = none) ∧
    Fr h₀ env.locals s.heap m ∧ News h₀ env.locals s.heap ((l, listOf its c) :: news) ∧ (∀ p ∈ news, p.1 ≠ e ∧ p.1 ≠ it) ∧ J 0 m news ∧
    (∀ i t v m₁ nx h tk oe oi, its[i]? = some v → J i m₁ nx → (∀ p ∈ nx, p.1 ≠ e ∧ p.1 ≠ it) → Fr h₀ env.locals h (fun y => if y = xc then some v else if y = xi then some (.int i t) else m₁ y) → News h₀ env.locals h ((e, oe) :: (it, oi) :: (l, listOf its c) :: nx) →
      wpAny (model prog w) A (execs body env) (EnPost h₀ env.locals (J (i + 1)) e it [(e, oe), (it, oi), (l, listOf its c)] { s with heap := h, toks := tk } Q) E { s with heap := h, toks := tk }) ∧
    (∀ m₁ nx h tk, J its.size m₁ nx → Fr h₀ env.locals h m₁ → News h₀ env.locals h nx → Q .next { s with heap := h, toks := tk })

theorem For_enum {xi xc : Str} {pk pv pt pos : Pos} {x1 : Nat} {iter : Expr} {body : List Stmt} {Q : Flow → Shared → Prop} (hh : A.handled = none) (hxi : env.kindOf xi = some .local) (hxc : env.kindOf xc = some .local)
    (hp : (env.scope.kind == .class || (env.scope.kind == .module && env.locals != env.globals)) = false)
    (h : wpAny (model prog w) A (eval iter env) (EnAt prog w A h₀ env xi xc body Q E) E s) (hs : ∀ x, foldedSetIterable iter env x = pure x := by intro _; rfl) (hE : PassesOwn (model prog w) A env E := by passes_own) :
    wpAny (model prog w) A (exec (.For (.Tuple [.Name xi pk, .Name xc pv] x1 pt) iter body [] pos) env) Q E s := by
  refine wpAny_For (wpAny_mono h (fun xv s₁ h₁ => ?_) fun _ _ e => e) hs
  obtain ⟨e, it, l, its, c, m, news, J, rfl, ⟨hei, hle, hli⟩, he, hit, ⟨hLe, hLi⟩, ⟨he₀, hi₀⟩, F, N, hoff, h0, turn, done⟩ := h₁
  have W := WalksT.enumerate (prog := prog) (w := w) (A := A) hh e it l hei hle hli its
  have hl₀ := (N _ (.head _)).2
  have hLf : ∀ b ∈ [e, it, l], b ≠ env.locals := by
    intro b hb
    simp only [List.mem_cons, List.not_mem_nil, or_false] at hb
    rcases hb with rfl | rfl | rfl
    · exact hLe.symm
    · exact hLi.symm
    · exact hl₀.1
  have wr : ∀ {b : Addr}, b ≠ e → b ≠ it → b ∉ [e, it] := fun h1 h2 hb => by
    simp only [List.mem_cons, List.not_mem_nil, or_false] at hb
    exact hb.elim h1 h2
  have base : ∀ b o, h₀.get? b = some o → b ∉ [e, it] := fun b o q => wr (by rintro rfl; rw [he₀] at q; cases q) (by rintro rfl; rw [hi₀] at q; cases q)
  refine wpAny_pyIter_enum he ?_
  refine codeAny_forLoop_any (fun k s' => ∃ h' tk m' nx, ∃ i : Nat, s' = { s₁ with heap := h', toks := tk } ∧ ((∃ old, IsEnum h' e it (i : Int) old) ∧ h'.IsListIter it l i ∧ h'.IsList l its) ∧ Fr h₀ env.locals h' m' ∧ News h₀ env.locals h' ((l, listOf its c) :: nx) ∧
      (∀ p ∈ nx, p.1 ≠ e ∧ p.1 ≠ it) ∧ J i m' nx ∧ i ≤ its.size ∧ k = its.size + 1 - i) ?_ (its.size + 1)
    ⟨s₁.heap, s₁.toks, m, news, 0, rfl, ⟨⟨_, he⟩, hit, ⟨_, (N _ (.head _)).1, rfl, _, rfl⟩⟩, F, N, hoff, h0, Nat.zero_le _, rfl⟩
  rintro k s' ⟨H, tk, m', nx, i, rfl, hst, F', N', off', hJ, hi, rfl⟩
  have next : ∀ h₁ : Heap, (∀ b o, b ∉ [e, it] → H.get? b = some o → h₁.get? b = some o) → Fr h₀ env.locals h₁ m' ∧ News h₀ env.locals h₁ ((l, listOf its c) :: nx) := fun h₁ k₁ =>
    ⟨⟨F'.ns.at' fun o q => k₁ _ o (wr hLe hLi) q, fun b o q => k₁ b o (base b o q) (F'.keep b o q), F'.above⟩, List.forall_mem_cons.mpr ⟨⟨k₁ _ _ (wr hle hli) (N' _ (.head _)).1, hl₀⟩,
      fun p hp => ⟨k₁ _ _ (wr (off' p hp).1 (off' p hp).2) (N' p (.tail _ hp)).1, (N' p (.tail _ hp)).2⟩⟩⟩
  by_cases hlt : i < its.size
  · refine W.item i _ _ _ hlt hst fun T vals h₁ tk₁ hPt _ hT hMid hk₁ => ?_
    obtain ⟨t, v, hv, rfl⟩ := hPt
    refine W.go _ x1 pt i T _ _ _ hMid fun h₂ hst₂ hk₂ => ?_
    have hT₂ : h₂.IsTuple T #[.int i t, v] := hT.at fun o q => hk₂ T o (W.apart i T h₁ hMid) q
    refine wpAny_assign_Tuple hh hT₂ rfl rfl fun h₃ hx₃ => ?_
    have up₃ : ∀ b o, h₂.get? b = some o → h₃.get? b = some o := fun b o q => hx₃ b o (Nat.ne_of_lt (Heap.lt_size q)) q
    obtain ⟨F₃, N₃⟩ := next h₃ fun b o hb q => up₃ b o (hk₂ b o hb (hk₁ b o hb q))
    show wpAny _ A (do holding [v] (assign (.Name xi pk) env (.int i t)); do holding [] (assign (.Name xc pv) env v); pure ()) _ _ _
    refine wpAny_bind (wpAny_holding (wpAny_assign_Name (wpAny_storeName_local hxi F₃.ns (fun h₄ hn₄ hs₄ => ?_) hp)))
    have F₄ := F₃.set hn₄ hs₄
    refine wpAny_bind (wpAny_holding (wpAny_assign_Name (wpAny_storeName_local hxc F₄.ns (fun h₅ hn₅ hs₅ => wpAny_pure ?_) hp)))
    have F₅ := F₄.set hn₅ hs₅
    have N₅ : News h₀ env.locals h₅ ((l, listOf its c) :: nx) := (N₃.set hs₄).set hs₅
    have hst₅ : (∃ old, IsEnum h₅ e it (i + 1 : Nat) old) ∧ h₅.IsListIter it l (i + 1) ∧ h₅.IsList l its := W.frame _ _ _ hst₂ fun b hb o q => hs₅.extBut b o (hLf b hb) (hs₄.extBut b o (hLf b hb) (up₃ b o q))
    obtain ⟨⟨old, ge⟩, ⟨oi, gi, gi1, gi2⟩, gl⟩ := id hst₅
    refine wpAny_mono (wpAny_passesOwn hE (turn i t v m' nx h₅ _ _ oi hv hJ off' F₅ (List.forall_mem_cons.mpr ⟨⟨ge, hLe.symm, he₀⟩, List.forall_mem_cons.mpr ⟨⟨gi, hLi.symm, hi₀⟩, N₅⟩⟩))) (fun f s₃ q => ?_) fun _ _ q => q
    cases f with
    | ret v => exact q
    | brk => exact q
    | next =>
      obtain ⟨h₆, tk₆, m₆, nx₆, rfl, F₆, N₆, off₆, hJ₆⟩ := q
      exact ⟨its.size + 1 - (i + 1), by omega, h₆, tk₆, m₆, nx₆, i + 1, rfl, ⟨⟨old, (N₆ _ (.head _)).1⟩, ⟨oi, (N₆ _ (.tail _ (.head _))).1, gi1, gi2⟩, ⟨_, (N₆ _ (.tail _ (.tail _ (.head _)))).1, rfl, _, rfl⟩⟩, F₆, fun p hp => N₆ p (.tail _ (.tail _ hp)), off₆, hJ₆, hlt, rfl⟩
    | cont =>
      obtain ⟨h₆, tk₆, m₆, nx₆, rfl, F₆, N₆, off₆, hJ₆⟩ := q
      exact ⟨its.size + 1 - (i + 1), by omega, h₆, tk₆, m₆, nx₆, i + 1, rfl, ⟨⟨old, (N₆ _ (.head _)).1⟩, ⟨oi, (N₆ _ (.tail _ (.head _))).1, gi1, gi2⟩, ⟨_, (N₆ _ (.tail _ (.tail _ (.head _)))).1, rfl, _, rfl⟩⟩, F₆, fun p hp => N₆ p (.tail _ (.tail _ hp)), off₆, hJ₆, hlt, rfl⟩
  · have hin : i = its.size := by omega
    subst hin
    refine W.done _ _ _ hst fun h₁ tk₁ hk₁ => wpAny_execs_nil ?_
    obtain ⟨F₁, N₁⟩ := next h₁ hk₁
    exact done m' nx h₁ tk₁ hJ F₁ fun p hp => N₁ p (.tail _ hp)

def EcEnd (h₀ : Heap) (L : Addr) (m : Str → Option Value) (J : List Value → List (Addr × Obj) → Prop) (e it : Addr) (own : List (Addr × Obj)) (C D : Addr) (oC : Obj) (ys : List Value) (s₁ : Shared) (y : Value) (s₂ : Shared) : Prop :=
  ∃ h' tk nx, s₂ = { s₁ with heap := h', toks := tk } ∧ Fr h₀ L h' m ∧ News h₀ L h' ((C, oC) :: (D, LCg.lst ys) :: (own ++ nx)) ∧ (∀ p ∈ nx, p.1 ≠ e ∧ p.1 ≠ it ∧ p.1 ≠ C ∧ p.1 ≠ D) ∧ J (ys ++ [y]) nx
def EcAt (prog : Program) (w : World) (A : Around) (h₀ : Heap) (env : Env) (elt : Expr) (xi xc : Str) (scope : Scope) (cl : List (Str × Addr)) (m : Str → Option Value) (Fin : List Value → List (Addr × Obj) → Prop) (xv : Value) (s : Shared) : Prop :=
  ∃ (e it l : Addr) (its : Array Value) (c : Nat) (news : List (Addr × Obj)) (J : Nat → List Value → List (Addr × Obj) → Prop),
    xv = .ref e ∧ (e ≠ it ∧ l ≠ e ∧ l ≠ it) ∧ IsEnum s.heap e it 0 .none ∧ s.heap.IsListIter it l 0 ∧ (env.locals ≠ e ∧ env.locals ≠ it) ∧ (h₀.get? e = none ∧ h₀.get? it = none) ∧
    Fr h₀ env.locals s.heap m ∧ News h₀ env.locals s.heap ((l, listOf its c) :: news) ∧ (∀ p ∈ news, p.1 ≠ e ∧ p.1 ≠ it) ∧ J 0 [] news ∧ its.size ≤ sizeLine ∧ A.handled = none ∧
    (∀ i t v ys nx h tk oe oi C oC D m₂ (E' : Value → Shared → Prop), its[i]? = some v → J i ys nx → (∀ p ∈ nx, p.1 ≠ e ∧ p.1 ≠ it ∧ p.1 ≠ C ∧ p.1 ≠ D) → LCg.NsObj oC m₂ → m₂ xi = some (.int i t) → m₂ xc = some v → Fr h₀ env.locals h m →
      News h₀ env.locals h ((C, oC) :: (D, LCg.lst ys) :: (e, oe) :: (it, oi) :: (l, listOf its c) :: nx) → ((@Ne Nat C D) ∧ (@Ne Nat C e) ∧ (@Ne Nat C it) ∧ (@Ne Nat C l) ∧ (@Ne Nat D e) ∧ (@Ne Nat D it) ∧ (@Ne Nat D l)) →
      wpAny (model prog w) A (eval elt (compEnvC scope cl C env)) (EcEnd h₀ env.locals m (J (i + 1)) e it [(e, oe), (it, oi), (l, listOf its c)] C D oC ys { s with heap := h, toks := tk }) E' { s with heap := h, toks := tk }) ∧
    (∀ ys nx, J its.size ys nx → Fin ys nx)

theorem comp_enum {elt iter : Expr} {xi xc : Str} {pi pc tp : Pos} {x1 : Nat} {scope : Scope} {cl : List (Str × Addr)} {pos : Pos} {m : Str → Option Value} {xv : Value} {Fin : List Value → List (Addr × Obj) → Prop} {RR : Value → Addr → Result → Shared → Prop}
    (hcell : ∀ y ∈ scope.names, y.2 ≠ .cell) (hkind : scope.kind = .function) (hxi : scope.names.lookup xi = some .local) (hxc : scope.names.lookup xc = some .local) (hxx : xi ≠ xc)
    (h : EcAt prog w A h₀ env elt xi xc scope cl m Fin xv s)
    (hRR : ∀ D C h tk m' ys nx, Fr h₀ env.locals h m → News h₀ env.locals h ((D, LCg.lst ys) :: nx) → h.Ns C m' → h₀.get? C = none → C ≠ env.locals → C ≠ D → (∀ p ∈ nx, p.1 ≠ C ∧ p.1 ≠ D) → h₀.get? D = none → D ≠ env.locals → Fin ys nx →
      RR (.ref D) C (.ok .next) { s with heap := h, toks := tk }) :
    wpAny (model prog w) A (pyIter xv) (fun it s₂ => wpAny (model prog w) A (newList []) (fun acc s₃ => wpAny (model prog w) A (newFunctionEnv scope env.globals cl [] env.qual none .none (some env)) (fun cenv s₄ =>
      codeAny (model prog w) A (.compStart (.ListComp elt [⟨.Tuple [.Name xi pi, .Name xc pc] x1 tp, iter, [], 0⟩] scope pos) 0 it acc { cenv with scope := relabel scope env }) (RR acc cenv.locals) s₄) E s₃) E s₂) E s := by
  obtain ⟨e, it, l, its, c, news, J, rfl, ⟨hei, hle, hli⟩, he, hit, ⟨hLe, hLi⟩, ⟨he₀, hi₀⟩, F, N, hoff, h0, hsz, hh, turn, done⟩ := h
  refine wpAny_pyIter_enum he ?_
  have W := WalksT.enumerate (prog := prog) (w := w) (A := A) hh e it l hei hle hli its
  have hl₀ := (N _ (.head _)).2
  refine wpAny_newObj_type (wpAny_newFunctionEnv hcell (by intro y hy; simp at hy) (fun h₁ hns₁ hsb₁ => ?_) hkind)
  dsimp only at hns₁ hsb₁ ⊢
  generalize hH : s.heap.push { cls := .type "list", dict := none, data := .seq ([] : List Value).toArray } = H at hns₁ hsb₁ ⊢
  have hC : H.objs.size = s.heap.objs.size + 1 := by rw [← hH, Heap.size_push]
  generalize hCa : H.objs.size = C at hC hns₁ hsb₁ ⊢
  generalize hDa : s.heap.objs.size = D at hC ⊢
  have low : ∀ b o, s.heap.get? b = some o → b < D := fun b o q => hDa ▸ Heap.lt_size q
  have ne : ∀ b o, s.heap.get? b = some o → b ≠ C ∧ b ≠ D := fun b o q => ⟨Nat.ne_of_lt (by rw [hC]; exact Nat.lt_succ_of_lt (low b o q)), Nat.ne_of_lt (low b o q)⟩
  have hDC : D ≠ C := by rw [hC]; exact Nat.ne_of_lt (Nat.lt_succ_self _)
  have old : ∀ b o, s.heap.get? b = some o → h₁.get? b = some o := fun b o q => hsb₁.extBut b o (ne b o q).1 (Heap.get?_push_of_some _ (hH ▸ Heap.get?_push_of_some _ q))
  have hacc : h₁.get? D = some (LCg.lst []) := hsb₁.extBut _ _ hDC (Heap.get?_push_of_some _ (hH ▸ hDa ▸ Heap.get?_push_size _ rfl))
  have fresh : ∀ a, D ≤ a → h₀.get? a = none := fun a ha => by
    cases q : h₀.get? a with
    | none => rfl
    | some o => exact absurd (low a o (F.keep _ _ q)) (Nat.not_lt.mpr ha)
  have hD₀ := fresh D (Nat.le_refl _)
  have hC₀ := fresh C (by rw [hC]; exact Nat.le_succ _)
  have hL : env.locals ≠ C ∧ env.locals ≠ D := by
    obtain ⟨o, _, _, q, _⟩ := F.ns
    exact ne _ o q
  have gE : ∃ o, s.heap.get? e = some o := ⟨_, he⟩
  have gI : ∃ o, s.heap.get? it = some o := let ⟨o, q, _⟩ := hit; ⟨o, q⟩
  have eC : e ≠ C ∧ e ≠ D := let ⟨o, q⟩ := gE; ne _ o q
  have iC : it ≠ C ∧ it ≠ D := let ⟨o, q⟩ := gI; ne _ o q
  have lC : l ≠ C ∧ l ≠ D := ne _ _ (N _ (.head _)).1
  have wr : ∀ {b : Addr}, b ≠ e → b ≠ it → b ∉ [e, it] := fun h1 h2 hb => by
    simp only [List.mem_cons, List.not_mem_nil, or_false] at hb
    exact hb.elim h1 h2
  have fp : ∀ b ∈ [e, it, l], b ≠ C ∧ b ≠ D := by
    intro b hb
    simp only [List.mem_cons, List.not_mem_nil, or_false] at hb
    rcases hb with rfl | rfl | rfl <;> assumption
  have base : ∀ b o, h₀.get? b = some o → b ∉ [e, it] := fun b o q => wr (by rintro rfl; rw [he₀] at q; cases q) (by rintro rfl; rw [hi₀] at q; cases q)
  have hst₀ : (∃ old, IsEnum h₁ e it (0 : Nat) old) ∧ h₁.IsListIter it l 0 ∧ h₁.IsList l its := W.frame _ _ _ ⟨⟨_, he⟩, hit, ⟨_, (N _ (.head _)).1, rfl, _, rfl⟩⟩ fun b _ o q => old b o q
  have loop : ∀ s₃ : Shared, s₃ = { s with heap := h₁, toks := s.toks + ([] : List (Str × Value)).length } →
      codeAny (model prog w) A (.compLoop (.ListComp elt [⟨.Tuple [.Name xi pi, .Name xc pc] x1 tp, iter, [], 0⟩] scope pos) 0 (.ref e) (.ref D) (compEnvC scope cl C env)) (RR (.ref D) C) s₃ := by
    rintro s₃ rfl
    refine LCp.codeAny_compLoop_pair (fun k s' => ∃ h' tk ys m' nx, ∃ i : Nat, s' = { s with heap := h', toks := tk } ∧ ((∃ old, IsEnum h' e it (i : Int) old) ∧ h'.IsListIter it l i ∧ h'.IsList l its) ∧ Fr h₀ env.locals h' m ∧ h'.Ns C m' ∧
        News h₀ env.locals h' ((D, LCg.lst ys) :: (l, listOf its c) :: nx) ∧ (∀ p ∈ nx, p.1 ≠ e ∧ p.1 ≠ it ∧ p.1 ≠ C ∧ p.1 ≠ D) ∧ J i ys nx ∧ ys.length = i ∧ i ≤ its.size ∧ k = its.size + 1 - i) ?_ (its.size + 1)
      ⟨h₁, _, [], _, news, 0, rfl, hst₀, F.keeps old, hns₁, List.forall_mem_cons.mpr ⟨⟨hacc, hL.2.symm, hD₀⟩, fun p hp => ⟨old _ _ (N p hp).1, (N p hp).2⟩⟩,
        fun p hp => ⟨(hoff p hp).1, (hoff p hp).2, ne _ _ (N p (.tail _ hp)).1⟩, h0, rfl, Nat.zero_le _, rfl⟩
    rintro k s' ⟨H', tk, ys, m', nx, i, rfl, hst, F', hn', N', off', hJ, hyl, hi, rfl⟩
    have next : ∀ h₂ : Heap, (∀ b o, b ∉ [e, it] → H'.get? b = some o → h₂.get? b = some o) → Fr h₀ env.locals h₂ m ∧ h₂.Ns C m' ∧ News h₀ env.locals h₂ ((D, LCg.lst ys) :: (l, listOf its c) :: nx) := fun h₂ k₂ =>
      ⟨⟨F'.ns.at' fun o q => k₂ _ o (wr hLe hLi) q, fun b o q => k₂ b o (base b o q) (F'.keep b o q), F'.above⟩, hn'.at' fun o q => k₂ _ o (wr eC.1.symm iC.1.symm) q,
        List.forall_mem_cons.mpr ⟨⟨k₂ _ _ (wr eC.2.symm iC.2.symm) (N' _ (.head _)).1, hL.2.symm, hD₀⟩, List.forall_mem_cons.mpr ⟨⟨k₂ _ _ (wr hle hli) (N' _ (.tail _ (.head _))).1, hl₀⟩,
          fun p hp => ⟨k₂ _ _ (wr (off' p hp).1 (off' p hp).2.1) (N' p (.tail _ (.tail _ hp))).1, (N' p (.tail _ (.tail _ hp))).2⟩⟩⟩⟩
    by_cases hlt : i < its.size
    · refine W.item i _ _ _ hlt hst fun T vals h₂ tk₂ hPt _ hT hMid hk₂ => ?_
      obtain ⟨t, v, hv, rfl⟩ := hPt
      refine W.go _ x1 tp i T _ _ _ hMid fun h₃ hst₃ hk₃ => ?_
      have hT₃ : h₃.IsTuple T #[.int i t, v] := hT.at fun o q => hk₃ T o (W.apart i T h₂ hMid) q
      refine wpAny_assign_Tuple hh hT₃ rfl rfl fun h₄ hx₄ => ?_
      have up₄ : ∀ b o, h₃.get? b = some o → h₄.get? b = some o := fun b o q => hx₄ b o (Nat.ne_of_lt (Heap.lt_size q)) q
      obtain ⟨F₄, n₄, N₄⟩ := next h₄ fun b o hb q => up₄ b o (hk₃ b o hb (hk₂ b o hb q))
      show wpAny _ A (do holding [v] (assign (.Name xi pi) _ (.int i t)); do holding [] (assign (.Name xc pc) _ v); pure ()) _ _ _
      refine wpAny_bind (wpAny_holding (wpAny_assign_Name (wpAny_storeName_local (lookup_relabel_local hxi) n₄ (fun h₅ n₅ hs₅ => ?_) (by simp [compEnvC, relabel, hkind]))))
      refine wpAny_bind (wpAny_holding (wpAny_assign_Name (wpAny_storeName_local (lookup_relabel_local hxc) n₅ (fun h₆ n₆ hs₆ => wpAny_pure ?_) (by simp [compEnvC, relabel, hkind]))))
      have k₆ : ∀ b o, b ≠ C → h₄.get? b = some o → h₆.get? b = some o := fun b o hb q => hs₆.extBut b o hb (hs₅.extBut b o hb q)
      have F₆ : Fr h₀ env.locals h₆ m := (F₄.change hs₅ hL.1.symm hC₀).change hs₆ hL.1.symm hC₀
      have hst₆ : (∃ old, IsEnum h₆ e it (i + 1 : Nat) old) ∧ h₆.IsListIter it l (i + 1) ∧ h₆.IsList l its := W.frame _ _ _ hst₃ fun b hb o q => k₆ b o (fp b hb).1 (up₄ b o q)
      obtain ⟨⟨oldv, ge⟩, ⟨oi, gi, gi1, gi2⟩, gl⟩ := id hst₆
      obtain ⟨oC, gC, hoC⟩ := LCg.ns_obj n₆
      have N₆ : News h₀ env.locals h₆ ((C, oC) :: (D, LCg.lst ys) :: (e, _) :: (it, oi) :: (l, listOf its c) :: nx) :=
        List.forall_mem_cons.mpr ⟨⟨gC, hL.1.symm, hC₀⟩, List.forall_mem_cons.mpr ⟨⟨k₆ _ _ hDC (N₄ _ (.head _)).1, hL.2.symm, hD₀⟩, List.forall_mem_cons.mpr ⟨⟨ge, hLe.symm, he₀⟩, List.forall_mem_cons.mpr ⟨⟨gi, hLi.symm, hi₀⟩,
          List.forall_mem_cons.mpr ⟨⟨k₆ _ _ lC.1 (N₄ _ (.tail _ (.head _))).1, hl₀⟩, fun p hp => ⟨k₆ _ _ (off' p hp).2.2.1 (N₄ p (.tail _ (.tail _ hp))).1, (N₄ p (.tail _ (.tail _ hp))).2⟩⟩⟩⟩⟩⟩
      refine wpAny_mono (turn i t v ys nx h₆ _ _ oi C oC D _ _ hv hJ off' hoC (by simp [hxx]) (by simp) F₆ N₆ ⟨hDC.symm, eC.1.symm, iC.1.symm, lC.1.symm, eC.2.symm, iC.2.symm, lC.2.symm⟩) (fun y s₄ q => ?_) fun _ _ q => q
      obtain ⟨h₇, tk₇, nx₇, rfl, F₇, N₇, off₇, hJ₇⟩ := q
      have zC := (N₇ _ (.head _)).1
      have zD := (N₇ _ (.tail _ (.head _))).1
      refine append_at (hsz := by show ys.toArray.size ≤ sizeLine; rw [List.size_toArray, hyl]; exact Nat.le_trans hi hsz) zD fun h₈ hs₈ hD₈ => ?_
      have k₈ : ∀ b o, b ≠ D → h₇.get? b = some o → h₈.get? b = some o := fun b o hb q => hs₈.extBut b o hb q
      refine ⟨its.size + 1 - (i + 1), by omega, h₈, tk₇, ys ++ [y], _, nx₇, i + 1, rfl, ⟨⟨oldv, k₈ _ _ eC.2 (N₇ _ (.tail _ (.tail _ (.head _)))).1⟩, ⟨oi, k₈ _ _ iC.2 (N₇ _ (.tail _ (.tail _ (.tail _ (.head _))))).1, gi1, gi2⟩, ⟨_, k₈ _ _ lC.2 (N₇ _ (.tail _ (.tail _ (.tail _ (.tail _ (.head _)))))).1, rfl, _, rfl⟩⟩,
        F₇.change hs₈ hL.2.symm hD₀, (hoC.ns zC).sameBut hs₈ hDC.symm, ?_, ?_, hJ₇, by rw [List.length_append, List.length_singleton, hyl], hlt, rfl⟩
      · exact List.forall_mem_cons.mpr ⟨⟨hD₈.trans (congrArg some (LCg.lst_snoc ys y)), hL.2.symm, hD₀⟩, List.forall_mem_cons.mpr ⟨⟨k₈ _ _ lC.2 (N₇ _ (.tail _ (.tail _ (.tail _ (.tail _ (.head _)))))).1, hl₀⟩, fun p hp => ⟨k₈ _ _ (off₇ p hp).2.2.2 (N₇ p (.tail _ (.tail _ (.tail _ (.tail _ (.tail _ hp)))))).1, (N₇ p (.tail _ (.tail _ (.tail _ (.tail _ (.tail _ hp)))))).2⟩⟩⟩
      · exact off₇
    · have hin : i = its.size := by omega
      subst hin
      refine W.done _ _ _ hst fun h₂ tk₂ hk₂ => ?_
      obtain ⟨F₂, n₂, N₂⟩ := next h₂ hk₂
      have N₃ : News h₀ env.locals h₂ ((D, LCg.lst ys) :: nx) := fun p hp => by
        rcases List.mem_cons.mp hp with rfl | hp
        · exact N₂ _ (.head _)
        · exact N₂ _ (.tail _ (.tail _ hp))
      exact hRR D C h₂ tk₂ m' ys nx F₂ N₃ n₂ hC₀ hL.1.symm hDC.symm (fun p hp => (off' p hp).2.2) hD₀ hL.2.symm (done ys nx hJ)
  exact codeAny_compStart_list (loop _ rfl) (W.self 0 _ _ _ hst₀ (loop _ rfl))

theorem Assign_enum {elt iter : Expr} {xi xc y : Str} {pi pc tp py : Pos} {x1 : Nat} {scope : Scope} {cl : List (Str × Addr)} {pos spos : Pos} {m : Str → Option Value} {Q : Flow → Shared → Prop}
    (hsw : swapsWith (.ListComp elt [⟨.Tuple [.Name xi pi, .Name xc pc] x1 tp, iter, [], 0⟩] scope pos) (some (.Name y py)) spos.line env = pure true)
    (hclos : closureFor scope env = pure cl) (hcell : ∀ z ∈ scope.names, z.2 ≠ .cell) (hkind : scope.kind = .function)
    (hnames : ∀ z ∈ scope.names, z.2 = .local → scope.names.lookup z.1 = some .local) (hxi : scope.names.lookup xi = some .local) (hxc : scope.names.lookup xc = some .local) (hxx : xi ≠ xc)
    (hy : env.kindOf y = some .local) (hp : (env.scope.kind == .class || (env.scope.kind == .module && env.locals != env.globals)) = false)
    (h : wpAny (model prog w) A (eval iter env) (fun xv s₁ => EcAt prog w A h₀ env elt xi xc scope cl m (fun ys nx => ∀ D h' tk, Fr h₀ env.locals h' (fun z => if z = y then some (.ref D) else m z) → News h₀ env.locals h' ((D, LCg.lst ys) :: nx) → (∀ p ∈ nx, p.1 ≠ D) →
      Q .next { s₁ with heap := h', toks := tk }) xv s₁) E s)
    (hs : ∀ x, foldedSetIterable iter env x = pure x := by intro _; rfl) :
    wpAny (model prog w) A (exec (.Assign [.Name y py] (.ListComp elt [⟨.Tuple [.Name xi pi, .Name xc pc] x1 tp, iter, [], 0⟩] scope pos) spos) env) Q E s := by
  rw [exec_Assign_Name_used _ _ _ _ hsw]
  refine wpAny_bind (wpAny_standAt (wpAny_bind ?_))
  show wpAny _ A (do let _ ← comprehension (.ListComp elt [⟨.Tuple [.Name xi pi, .Name xc pc] x1 tp, iter, [], 0⟩] scope pos) scope env _ (newList []) false (eval iter env) (some (assign (.Name y py) env))) _ _ s
  refine wpAny_bind (wpAny_mono (wpAny_comprehension_free (use := some (assign (.Name y py) env)) (Q := fun _ s' => Q .next s') rfl hs hclos hkind hnames
    (wpAny_mono h (fun xv s₁ h₁ => ?_) fun _ _ q => q)) (fun _ s' hq => wpAny_pure (wpAny_pure hq)) fun _ _ q => q)
  refine comp_enum hcell hkind hxi hxc hxx h₁ fun D C h₂ tk m' ys nx F N hn hC₀ hCL hCD offC hD₀ hDL fin => ?_
  show wpAny _ A (assign (.Name y py) env (.ref D)) _ _ _
  refine wpAny_assign_Name (wpAny_storeName_local hy F.ns (fun h₃ hn₃ hs₃ => ?_) hp)
  have F₃ := F.set hn₃ hs₃
  refine ⟨m', hn.sameBut hs₃ hCL, fun h'' hs'' => fin D h'' _ (F₃.change hs'' hCL hC₀) (fun p hp => ?_) fun p hp => (offC p hp).2⟩
  refine ⟨hs''.extBut _ _ ?_ (hs₃.extBut _ _ (N p hp).2.1 (N p hp).1), (N p hp).2⟩
  rcases List.mem_cons.mp hp with rfl | hp
  · exact hCD.symm
  · exact (offC p hp).1
end

theorem zz_reset_NpVals : True := by
  w_top off
  exact trivial
open PySem PySem.W PyProof.Rows PySem.Calls
theorem seed_frag_vals : hd.heap_39 = hd.heap_39 ∧ PySem.Challenge.rw_np0012_01 = PySem.Challenge.rw_np0012_01 := by
  k_fill
  exact ⟨rfl, rfl⟩

inductive PV where
  | int (n : Int)
  | list (ns : List Int)
def pvAt (ans : List Int) (i : Nat) : PV := match ans[i]? with
  | some n => .int n
  | none => .list []
inductive ValV (P : Addr → Obj → Prop) : Value → PV → Prop where
  | int {n : Int} {t : Nat} : ValV P (.int n t) (.int n)
  | list {v : Value} {ivs : List Value} {ns : List Int} : LstAt P (.ref 57) v ivs → IntsAre ivs ns → ValV P v (.list ns)
inductive PairV (P : Addr → Obj → Prop) : Value → Str × PV → Prop where
  | mk {t : Addr} {n : Nat} {sv val : Value} {x : Str} {pv : PV} : P t { cls := .type "tuple", data := .seq #[sv, val] n } → ItemIs P sv x → ValV P val pv → PairV P (.ref t) (x, pv)
inductive PairsV (P : Addr → Obj → Prop) : List Value → List (Str × PV) → Prop where
  | nil : PairsV P [] []
  | cons {v : Value} {d : Str × PV} {vs : List Value} {ds : List (Str × PV)} : PairV P v d → PairsV P vs ds → PairsV P (v :: vs) (d :: ds)
section
variable {P P' : Addr → Obj → Prop}
theorem ValV.mono {v : Value} {pv : PV} (h : ValV P v pv) (k : ∀ a o, P a o → P' a o) : ValV P' v pv := by
  cases h with
  | int => exact .int
  | list h1 h2 => exact .list (h1.mono k) h2
theorem PairV.mono {v : Value} {d : Str × PV} (h : PairV P v d) (k : ∀ a o, P a o → P' a o) : PairV P' v d := by
  cases h with
  | mk h1 h2 h3 => exact .mk (k _ _ h1) (h2.mono k) (h3.mono k)
theorem PairsV.mono {vs : List Value} {ds : List (Str × PV)} (h : PairsV P vs ds) (k : ∀ a o, P a o → P' a o) : PairsV P' vs ds := by
  induction h with
  | nil => exact .nil
  | cons h _ ih => exact .cons (h.mono k) ih
theorem PairsV.snoc {vs : List Value} {ds : List (Str × PV)} {v : Value} {d : Str × PV} (h : PairsV P vs ds) (hv : PairV P v d) : PairsV P (vs ++ [v]) (ds ++ [d]) := by
  induction h with
  | nil => exact .cons hv .nil
  | cons h _ ih => exact .cons h ih
theorem PairsV.length {vs : List Value} {ds : List (Str × PV)} (h : PairsV P vs ds) : vs.length = ds.length := by
  induction h with
  | nil => rfl
  | cons _ _ ih => simp only [List.length_cons, ih]
theorem PairsV.get {vs : List Value} {ds : List (Str × PV)} (h : PairsV P vs ds) : ∀ (i : Nat), i < vs.length → ∃ v d, vs[i]? = some v ∧ ds[i]? = some d ∧ PairV P v d := by
  induction h with
  | nil => intro i hi; cases hi
  | cons h _ ih =>
    intro i hi
    cases i with
    | zero => exact ⟨_, _, rfl, rfl, h⟩
    | succ i => exact ih i (Nat.lt_of_succ_lt_succ hi)
end
theorem ItemsAre.app {P : Addr → Obj → Prop} {vs us : List Value} {xs ys : List Str} (h : ItemsAre P vs xs) (h' : ItemsAre P us ys) : ItemsAre P (vs ++ us) (xs ++ ys) := by
  induction h with
  | nil => exact h'
  | cons h _ ih => exact .cons h ih

def vdat (ans : List Int) (xs : List Str) : List (Str × PV) := xs.mapIdx fun i x => (x, pvAt ans i)
def vdatR (ans : List Int) (n : Nat) : Option Str → List (Str × PV)
  | none => []
  | some r => [(r, .list (ans.drop n))]
theorem vdat_take {ans : List Int} {xs : List Str} {i : Nat} {x : Str} (h : xs[i]? = some x) : vdat ans (xs.take (i + 1)) = vdat ans (xs.take i) ++ [(x, pvAt ans i)] := by
  have hl : i < xs.length := (List.getElem?_eq_some_iff.mp h).1
  unfold vdat
  rw [List.take_add_one, h]
  show List.mapIdx _ (_ ++ [x]) = _
  rw [List.mapIdx_append]
  simp [Nat.min_eq_left (Nat.le_of_lt hl)]

section
variable {prog : Program} {w : World} {A : Around} {E : Value → Shared → Prop} {s : Shared} {env : Env} {h₀ : Heap}
theorem enum_call {L l : Addr} {m : Str → Option Value} {news : List (Addr × Obj)} {its : Array Value} {c : Nat} {Q : Value → Shared → Prop} (F : Fr h₀ L s.heap m) (N : News h₀ L s.heap news) (hm : (l, listOf its c) ∈ news)
    (h : ∀ e it h', IsEnum h' e it 0 .none → h'.IsListIter it l 0 → e ≠ it → (∀ p ∈ news, p.1 ≠ e ∧ p.1 ≠ it) → (h₀.get? e = none ∧ h₀.get? it = none) → (L ≠ e ∧ L ≠ it) → Fr h₀ L h' m → News h₀ L h' news → Q (.ref e) { s with heap := h' }) :
    wpAny (model prog w) A (call (.type "enumerate") [.ref l]) Q E s := by
  refine call_enumerate_1 (N _ hm).1 fun h' he hi _ k => ?_
  have fr : ∀ a, s.heap.objs.size ≤ a → s.heap.get? a = none := fun a ha => by
    cases q : s.heap.get? a with
    | none => rfl
    | some o => exact absurd (Heap.lt_size q) (Nat.not_lt.mpr ha)
  have fr0 : ∀ a, s.heap.objs.size ≤ a → h₀.get? a = none := fun a ha => by
    cases q : h₀.get? a with
    | none => rfl
    | some o => have := F.keep _ _ q; rw [fr a ha] at this; cases this
  have lt : ∀ a o, s.heap.get? a = some o → a ≠ s.heap.objs.size + 1 ∧ a ≠ s.heap.objs.size := fun a o q => ⟨Nat.ne_of_lt (Nat.lt_succ_of_lt (Heap.lt_size q)), Nat.ne_of_lt (Heap.lt_size q)⟩
  obtain ⟨oL, _, _, gL, _⟩ := F.ns
  exact h _ _ h' he hi (Nat.succ_ne_self _) (fun p hp => lt _ _ (N p hp).1) ⟨fr0 _ (Nat.le_succ _), fr0 _ (Nat.le_refl _)⟩ (lt _ _ gL) (F.keeps k) (N.grown k)
theorem For_enumF {xi xc : Str} {pk pv pt pos : Pos} {x1 : Nat} {iter : Expr} {body : List Stmt} {Q : Flow → Shared → Prop} {L : Addr} {m : Str → Option Value} (_F : Fr h₀ L s.heap m) (hh : A.handled = none) (hxi : env.kindOf xi = some .local) (hxc : env.kindOf xc = some .local)
    (hp : (env.scope.kind == .class || (env.scope.kind == .module && env.locals != env.globals)) = false)
    (h : wpAny (model prog w) A (eval iter env) (EnAt prog w A h₀ env xi xc body Q E) E s) (hs : ∀ x, foldedSetIterable iter env x = pure x := by intro _; rfl) (hE : PassesOwn (model prog w) A env E := by passes_own) :
    wpAny (model prog w) A (exec (.For (.Tuple [.Name xi pk, .Name xc pv] x1 pt) iter body [] pos) env) Q E s := For_enum hh hxi hxc hp h hs hE
end
def EnMark : Prop := True

theorem list_of_call {w : World} {prog : Program} {dp un : Nat} {fr : Option (List Env)} {gd : Option (List Code)} {s : Shared} {Q : Value → Shared → Prop} {E : Value → Shared → Prop} {h₀ : Heap} {L : Addr} {m : Str → Option Value} {news : List (Addr × Obj)} {l : Addr} {vs : List Value}
    (B : Base w h₀) (F : Fr h₀ L s.heap m) (N : News h₀ L s.heap news) (hd : dp ≤ 800) (hl : s.heap.IsList l vs.toArray) (hz : vs.length ≤ 1000)
    (hQ : ∀ r nx h' tk, Fr h₀ L h' m → News h₀ L h' (nx ++ news) → LstAt (fun a o => (a, o) ∈ nx) (.ref 57) r vs → (∀ p ∈ nx, s.heap.get? p.1 = none) → Q r { s with heap := h', toks := tk }) :
    wpAny (model prog w) (Ar dp fr gd un) (call (.ref 87) [.ref l]) Q E s :=
  list_of_spec (B.keeps F.keep) hd hl hz fun r nx h' tk k e R => hQ r nx h' tk (fr_kept F k) (news_news F e (news_kept N k)) R fun p hp => (e p hp).2

theorem name2 {h₀ h : Heap} {L a b : Addr} {oa ob : Obj} (_N : News h₀ L h [(a, oa), (b, ob)]) : ∃ a' b', a' = a ∧ b' = b := ⟨a, b, rfl, rfl⟩
def ValsJ (P : Addr → Obj → Prop) (ans : List Int) (xs : List Str) (x al l : Addr) (i : Nat) (m : Str → Option Value) (nx : List (Addr × Obj)) : Prop :=
  ∃ (pl : Addr) (pls : List Value) (c : Nat) (tl : List (Addr × Obj)), m (Str.ofString "pairs") = some (.ref pl) ∧ m (Str.ofString "told") = some (.ref x) ∧ m (Str.ofString "arguments") = some (.ref al) ∧ nx = (pl, listOf pls.toArray c) :: tl ∧ (∀ q ∈ tl, q.1 ≠ pl) ∧ (@Ne Nat l pl) ∧
    PairsV (fun a o => (a, o) ∈ tl ∨ P a o) pls (vdat ans (xs.take i)) ∧ pls.length ≤ i

theorem allLt_mem {d : Addr} : ∀ {l : List (Addr × Obj)}, AllLt d l → ∀ p ∈ l, @LT.lt Nat _ p.1 d
  | [], _, _, h => nomatch h
  | _ :: _, ⟨h1, h2⟩, p, h => by
    rcases List.mem_cons.mp h with rfl | h
    · exact h1
    · exact allLt_mem h2 p h
theorem vals_turn {h₀ h' : Heap} {L T e it lq pl x al : Addr} {P : Addr → Obj → Prop} {ans : List Int} {xs : List Str} {i n c tk : Nat} {m' : Str → Option Value} {sv val : Value} {oe oi ol : Obj} {tl : List (Addr × Obj)} {pls : List Value} {y : Str} {pv : PV} {s₁ : Shared} {Q : Flow → Shared → Prop}
    (F : Fr h₀ L h' m') (N : News h₀ L h' ((T, { cls := .type "tuple", data := .seq #[sv, val] n }) :: (e, oe) :: (it, oi) :: (lq, ol) :: (pl, listOf (pls.toArray.push (.ref T)) (c + 1)) :: tl)) (l1 : @LT.lt Nat _ e T ∧ @LT.lt Nat _ it T ∧ @LT.lt Nat _ lq T ∧ @LT.lt Nat _ pl T ∧ AllLt T tl)
    (h1 : pl ≠ e ∧ pl ≠ it) (h2 : ∀ p ∈ tl, p.1 ≠ e ∧ p.1 ≠ it) (htl : ∀ q ∈ tl, q.1 ≠ pl) (hlp : @Ne Nat lq pl) (e1 : m' (Str.ofString "pairs") = some (.ref pl)) (e2 : m' (Str.ofString "told") = some (.ref x)) (e3 : m' (Str.ofString "arguments") = some (.ref al))
    (hps : PairsV (fun a o => (a, o) ∈ tl ∨ P a o) pls (vdat ans (xs.take i))) (hs : ItemIs P sv y) (hv : ValV P val pv) (hd : xs[i]? = some y) (hpv : pvAt ans i = pv) (hpl : pls.length ≤ i) :
    EnPost h₀ L (ValsJ P ans xs x al lq (i + 1)) e it [(e, oe), (it, oi), (lq, ol)] s₁ Q .next { s₁ with heap := h', toks := tk } := by
  obtain ⟨z1, z2, z3, z4, z5⟩ := l1
  refine ⟨h', tk, m', (pl, listOf (List.toArray (pls ++ [Value.ref T])) (c + 1)) :: (T, { cls := .type "tuple", data := .seq #[sv, val] n }) :: tl, rfl, F, news_sub N ?_, ?_, pl, pls ++ [Value.ref T], c + 1, (T, { cls := .type "tuple", data := .seq #[sv, val] n }) :: tl, e1, e2, e3, rfl, ?_, hlp, ?_, ?_⟩
  · intro p hp
    simp only [List.cons_append, List.nil_append, List.mem_cons, List.push_toArray] at hp ⊢
    rcases hp with h | h | h | h | h | h
    · exact .inr (.inl h)
    · exact .inr (.inr (.inl h))
    · exact .inr (.inr (.inr (.inl h)))
    · exact .inr (.inr (.inr (.inr (.inl h))))
    · exact .inl h
    · exact .inr (.inr (.inr (.inr (.inr h))))
  · exact List.forall_mem_cons.mpr ⟨h1, List.forall_mem_cons.mpr ⟨⟨(Nat.ne_of_lt z1).symm, (Nat.ne_of_lt z2).symm⟩, h2⟩⟩
  · exact List.forall_mem_cons.mpr ⟨(Nat.ne_of_lt z4).symm, htl⟩
  · rw [vdat_take hd, hpv]
    exact (hps.mono fun a o q => q.imp (fun q => .tail _ q) id).snoc (.mk (.inl (.head _)) (hs.mono fun a o q => .inr q) (hv.mono fun a o q => .inr q))
  · rw [List.length_append, List.length_singleton]; omega

theorem vdat_len (ans : List Int) (xs : List Str) : (vdat ans xs).length = xs.length := by unfold vdat; rw [List.length_mapIdx]
theorem pick_len (vs : List Value) (lo hi : Option Int) : (kms_pick vs lo hi).length ≤ vs.length := by
  unfold kms_pick; simp only [List.length_take, List.length_drop]; omega
theorem pick_from {vs : List Value} {ns : List Int} (hi : IntsAre vs ns) (k : Nat) : IntsAre (kms_pick vs (some (k : Int)) none) (ns.drop k) := by
  have e : kms_pick vs (some (k : Int)) none = vs.drop k := by
    unfold kms_pick kms_lo kms_hi
    try dsimp only
    rw [if_neg (by omega), List.take_of_length_le (by rw [List.length_drop]; omega)]
    by_cases h : k ≤ vs.length
    · congr 1; omega
    · rw [List.drop_of_length_le (by omega), List.drop_of_length_le (by omega)]
  rw [e]
  clear e
  induction hi generalizing k with
  | nil => rw [List.drop_nil, List.drop_nil]; exact .nil
  | cons n t r ih =>
    cases k with
    | zero => exact .cons n t r
    | succ k => exact ih k

theorem vals_last {h₀ h' : Heap} {L T pl : Addr} {P : Addr → Obj → Prop} {n c : Nat} {sv r : Value} {tl nx : List (Addr × Obj)} {pls ivs : List Value} {ds : List (Str × PV)} {y : Str} {ns : List Int}
    (N : News h₀ L h' ((T, { cls := .type "tuple", data := .seq #[sv, r] n }) :: (pl, listOf (pls.toArray.push (.ref T)) (c + 1)) :: (tl ++ nx))) (hps : PairsV (fun a o => (a, o) ∈ tl ∨ P a o) pls ds) (hs : ItemIs P sv y) (hr : LstAt (fun a o => (a, o) ∈ nx) (.ref 57) r ivs) (hi : IntsAre ivs ns) :
    ∃ nx' : List (Addr × Obj), (∀ p ∈ nx', h'.get? p.1 = some p.2 ∧ h₀.get? p.1 = none) ∧ (pl, listOf (List.toArray (pls ++ [Value.ref T])) (c + 1)) ∈ nx' ∧ PairsV (fun a o => (a, o) ∈ nx' ∨ P a o) (pls ++ [Value.ref T]) (ds ++ [(y, .list ns)]) := by
  refine ⟨_, fun p hp => ⟨(N p hp).1, (N p hp).2.2⟩, ?_, (hps.mono fun a o q => q.imp (fun q => .tail _ (.tail _ (List.mem_append_left _ q))) id).snoc (.mk (.inl (.head _)) (hs.mono fun a o q => .inr q) (.list (hr.mono fun a o q => .inl (.tail _ (.tail _ (List.mem_append_right _ q)))) hi))⟩
  rw [← List.push_toArray]; exact .tail _ (.head _)

set_option maxHeartbeats 4000000 in
theorem vals_spec {w : World} {prog : Program} {dp un : Nat} {fr : Option (List Env)} {gd : Option (List Code)} {s : Shared} {Q : Value → Shared → Prop} {E : Value → Shared → Prop} {P : Addr → Obj → Prop} {x dx nl ol al : Addr} {k1 k2 k3 : Int} {t1 t2 t3 nn c1 c2 c3 : Nat} {zn zo avs : List Value} {nd op : List Str} {rs : Option Str} {rv : Value} {ans : List Int}
    (B : Base w s.heap) (hd : dp ≤ 700) (hu : un ≤ 4000) (hP : ∀ a o, P a o → s.heap.get? a = some o) (ox : s.heap.get? x = some (instObj 132 dx)) (od : s.heap.get? dx = some (dictOf [⟨k1, .str (Str.ofString "needed") t1, .ref nl⟩, ⟨k2, .str (Str.ofString "optional") t2, .ref ol⟩, ⟨k3, .str (Str.ofString "rest") t3, rv⟩] nn))
    (gn : s.heap.get? nl = some (listOf zn.toArray c1)) (go : s.heap.get? ol = some (listOf zo.toArray c2)) (ga : s.heap.get? al = some (listOf avs.toArray c3)) (hn : ItemsAre P zn nd) (ho : ItemsAre P zo op) (hr : RestIs P rv rs) (ha : IntsAre avs ans) (zn1 : zn.length ≤ 100) (zo1 : zo.length ≤ 100) (za1 : avs.length ≤ 100)
    (hQ : ∀ (pl : Addr) (pls : List Value) (c : Nat) (nx : List (Addr × Obj)) (h' : Heap) (tk : Nat), Kept s.heap h' → (∀ p ∈ nx, h'.get? p.1 = some p.2 ∧ s.heap.get? p.1 = none) → (pl, listOf (List.toArray pls) c) ∈ nx → PairsV (fun a o => (a, o) ∈ nx ∨ P a o) pls (vdat ans (nd ++ op) ++ vdatR ans (nd ++ op).length rs) → Q (.ref pl) { s with heap := h', toks := tk }) :
    wpAny (model prog w) (Ar dp fr gd un) (call (.ref 155) [.ref x, .ref al]) Q E s := by
  have X := B.X
  obtain ⟨p, loose, mean, mg, mb, T⟩ := B.T
  have ln : s.heap.IsList nl zn.toArray := ⟨_, gn, rfl, _, rfl⟩
  have lo : s.heap.IsList ol zo.toArray := ⟨_, go, rfl, _, rfl⟩
  have la : s.heap.IsList al avs.toArray := ⟨_, ga, rfl, _, rfl⟩
  k_dflt (refine' enter [(Str.ofString "told", .ref x), (Str.ofString "arguments", .ref al)] X T.nolimit ?k6 ?k7 ?k8 ?k9 ?kB ?c2 ?c3 ?c4 ?c5 ?_)
  ((k_dflt ((case k6 => k_is); (case k7 => k_is); (case k8 => k_room); (case k9 => first | exact BindsTo.of_eq rfl | exact binds_K (by k_in) rfl (by k_is) rfl rfl rfl); (case kB => exact locs rfl); (case c2 => exact rfl); (case c3 => exact rfl); (case c4 => exact rfl); (case c5 => decide))))
  intro L' h₁ tk F N
  have hEnM : EnMark := trivial
  (repeat' (first | (k_unfold; (try dsimp only)) | ((( (fail_if_success (with_reducible show wpAny _ _ (pyIter _) _ _ _)); (fail_if_success (with_reducible show wpAny _ _ (exec (Stmt.While _ _ _ _) _) _ _ _)))); (( (fail_if_success (with_reducible show wpAny _ _ (eval (Expr.ListComp _ _ _ _) _) _ _ _)); (fail_if_success (with_reducible show wpAny _ _ (exec (Stmt.Assign _ (Expr.ListComp _ _ _ _) _) _) _ _ _)); (fail_if_success (with_reducible show LCg.CompSrc _ _ _ _ _ _ _ _ _ _ _ _ _ _)))); first | (first | ((with_reducible show wpAny _ _ (execs [] _) _ _ _); (k_here; (with_reducible refine gen_toks ?_); intro zztk)) | ((with_reducible show wpAny _ _ (execs (_ :: _) _) _ _ _); (k_here; (with_reducible refine gen_toks ?_); intro zztk)) | ((with_reducible show wpAny _ _ (execs (_ :: _) _) _ _ _); (k_here; (with_reducible refine wpAny_execs_cons ?_); (try dsimp only); k_fold)) | ((with_reducible show wpAny _ _ (call (Value.type "enumerate") _) _ _ _); (k_here; (with_reducible rename EnMark => zzhEnM); k_dflt (refine enum_call (by k_asm) (by k_asm) (by k_mem) ?_); intro zze' zzit' zzh' zzhe' zzhi' zzhei' zzhoff' zzhen' zzheL' zzF' zzN')) | ((with_reducible show wpAny _ _ (exec (Stmt.For (Expr.Tuple _ _ _) (Expr.Call _ _ _ _) _ _ _) _) _ _ _); (k_here; (with_reducible rename EnMark => zzhEnM); k_dflt (refine For_enumF (by k_asm) (by rfl) (by rfl) (by rfl) (by rfl) ?_))) | ((k_here; (with_reducible show wpAny _ _ (subscriptTail _ (PySem.Expr.Slice _ _ none _) (Value.ref _) (Value.ref _)) _ _ _); k_dflt (refine' slice_ex (by k_asm) (by k_asm) (by kmk_list) (by kmk_part) (by kmk_part) ?_ (by with_unfolding_all rfl) (by kmk_pure) (by (first | decide | omega | (simp only [List.length_append, List.length_cons, List.length_nil] at *; omega)))); intro zzD' zzh' zzF' zzN' zzl1; (try k_lt zzl1); (try k_sweep))) | ((k_here; (with_reducible show wpAny _ _ (binaryOp _ (Value.ref _) (Value.ref _)) _ _ _); k_dflt (refine' kmk_add_lit (by k_asm) (by k_asm) (by kmk_list) (by kmk_list) (by rfl) ?_ (by (rw [sizeLine_eq]; (first | decide | omega | (simp only [List.length_append, List.length_cons, List.length_nil] at *; omega))))); intro zzD' zzh' zzF' zzN' zzl1; (try k_lt zzl1); (try k_sweep))) | ((with_reducible show wpAny _ _ (subscriptTail (Expr.Name _ _) (Expr.Name _ _) (Value.ref _) (Value.int _ _)) _ _ _); (k_dflt (refine' item_list (by is_list) (by (first | decide | omega | (simp only [List.size_toArray] at *; omega))) (by (first | decide | omega | (simp only [List.size_toArray] at *; omega))) (by assumption) ?_))) | ((with_reducible show wpAny _ _ (call (Value.builtin "len") [_]) _ _ _); (k_dflt (refine' call_len_list (by is_list) (by (first | decide | (simp only [List.size_toArray]; omega) | (simp only [List.size_toArray, List.length_cons, List.length_append, List.length_map, List.length_nil, List.length_take, List.length_drop]; omega))) ?_))) | walk1) | (dsimp only; (first | ((with_reducible show wpAny _ _ (execs [] _) _ _ _); (k_here; (with_reducible refine gen_toks ?_); intro zztk)) | ((with_reducible show wpAny _ _ (execs (_ :: _) _) _ _ _); (k_here; (with_reducible refine gen_toks ?_); intro zztk)) | ((with_reducible show wpAny _ _ (execs (_ :: _) _) _ _ _); (k_here; (with_reducible refine wpAny_execs_cons ?_); (try dsimp only); k_fold)) | ((with_reducible show wpAny _ _ (call (Value.type "enumerate") _) _ _ _); (k_here; (with_reducible rename EnMark => zzhEnM); k_dflt (refine enum_call (by k_asm) (by k_asm) (by k_mem) ?_); intro zze' zzit' zzh' zzhe' zzhi' zzhei' zzhoff' zzhen' zzheL' zzF' zzN')) | ((with_reducible show wpAny _ _ (exec (Stmt.For (Expr.Tuple _ _ _) (Expr.Call _ _ _ _) _ _ _) _) _ _ _); (k_here; (with_reducible rename EnMark => zzhEnM); k_dflt (refine For_enumF (by k_asm) (by rfl) (by rfl) (by rfl) (by rfl) ?_))) | ((k_here; (with_reducible show wpAny _ _ (subscriptTail _ (PySem.Expr.Slice _ _ none _) (Value.ref _) (Value.ref _)) _ _ _); k_dflt (refine' slice_ex (by k_asm) (by k_asm) (by kmk_list) (by kmk_part) (by kmk_part) ?_ (by with_unfolding_all rfl) (by kmk_pure) (by (first | decide | omega | (simp only [List.length_append, List.length_cons, List.length_nil] at *; omega)))); intro zzD' zzh' zzF' zzN' zzl1; (try k_lt zzl1); (try k_sweep))) | ((k_here; (with_reducible show wpAny _ _ (binaryOp _ (Value.ref _) (Value.ref _)) _ _ _); k_dflt (refine' kmk_add_lit (by k_asm) (by k_asm) (by kmk_list) (by kmk_list) (by rfl) ?_ (by (rw [sizeLine_eq]; (first | decide | omega | (simp only [List.length_append, List.length_cons, List.length_nil] at *; omega))))); intro zzD' zzh' zzF' zzN' zzl1; (try k_lt zzl1); (try k_sweep))) | ((with_reducible show wpAny _ _ (subscriptTail (Expr.Name _ _) (Expr.Name _ _) (Value.ref _) (Value.int _ _)) _ _ _); (k_dflt (refine' item_list (by is_list) (by (first | decide | omega | (simp only [List.size_toArray] at *; omega))) (by (first | decide | omega | (simp only [List.size_toArray] at *; omega))) (by assumption) ?_))) | ((with_reducible show wpAny _ _ (call (Value.builtin "len") [_]) _ _ _); (k_dflt (refine' call_len_list (by is_list) (by (first | decide | (simp only [List.size_toArray]; omega) | (simp only [List.size_toArray, List.length_cons, List.length_append, List.length_map, List.length_nil, List.length_take, List.length_drop]; omega))) ?_))) | walk1))) | fail "no step"))
  (rename Fr _ _ _ _ => F2); (rename News _ _ _ _ => N2); (rename IsEnum _ _ _ _ _ => he); (rename Heap.IsListIter _ _ _ _ => hi); (rename (∀ p ∈ _, Prod.fst p ≠ _ ∧ _) => hoff); (rename (_ ∧ _) => hen); (rename (_ < _) => l1)
  have hall := (hn.app ho)
  obtain ⟨lq, pq, rfl, rfl⟩ := name2 N2
  refine ⟨_, _, lq, _, _, _, [(pq, listOf (List.toArray []) 0)], ValsJ P ans (nd ++ op) x al lq, rfl, ⟨by assumption, (hoff _ (.head _)).1, (hoff _ (.head _)).2⟩, he, hi, by assumption, by assumption, F2, N2, fun p hp => hoff p (.tail _ hp), ⟨_, [], 0, [], rfl, rfl, rfl, rfl, (fun _ h => nomatch h), (Nat.ne_of_lt l1).symm, .nil, Nat.le_refl _⟩, ?_, ?_⟩
  · intro i t v m₁ nx h tk oe oi hv hJ off F₁ N₁
    obtain ⟨pl, pls, c, tl, e1, e2, e3, rfl, htl, hlp, hps, hpl⟩ := hJ
    have F₂ := fr_know (fr_know (fr_know F₁ (a := Str.ofString "pairs") (x := .ref pl) e1) (a := Str.ofString "told") (x := .ref x) e2) (a := Str.ofString "arguments") (x := .ref al) e3
    have hpe := neN (off _ (.head _)).1
    have hpi := neN (off _ (.head _)).2
    dsimp only at hpe hpi
    clear F₁ F2 N2 he hi
    have hv' : (zn ++ zo)[i]? = some v := by rw [← hv]; simp
    obtain ⟨hil, _⟩ := List.getElem?_eq_some_iff.mp hv'
    rw [List.length_append] at hil
    obtain ⟨v2, x2, q1, q2, q3⟩ := hall.get i (by rw [List.length_append]; exact hil)
    rw [q1] at hv'
    cases hv'
    have hvh : handedIn v = true := by cases q3 <;> rfl
    by_cases hlt : i < avs.length
    · obtain ⟨n, hn2⟩ : ∃ n, ans[i]? = some n := ⟨_, List.getElem?_eq_getElem (by rw [← IntsAre.length ha]; exact hlt)⟩
      obtain ⟨ti, hx2⟩ := IntsAre.get ha i _ hn2
      have hx : avs.toArray[((i : Int)).toNat]? = some (.int n ti) := by rw [List.getElem?_toArray]; exact hx2
      (repeat' (first | (k_unfold; (try dsimp only)) | ((( (fail_if_success (with_reducible show wpAny _ _ (pyIter _) _ _ _)); (fail_if_success (with_reducible show wpAny _ _ (exec (Stmt.While _ _ _ _) _) _ _ _)))); (( (fail_if_success (with_reducible show wpAny _ _ (eval (Expr.ListComp _ _ _ _) _) _ _ _)); (fail_if_success (with_reducible show wpAny _ _ (exec (Stmt.Assign _ (Expr.ListComp _ _ _ _) _) _) _ _ _)); (fail_if_success (with_reducible show LCg.CompSrc _ _ _ _ _ _ _ _ _ _ _ _ _ _)))); first | (first | ((with_reducible show wpAny _ _ (execs [] _) _ _ _); (k_here; (with_reducible refine gen_toks ?_); intro zztk)) | ((with_reducible show wpAny _ _ (execs (_ :: _) _) _ _ _); (k_here; (with_reducible refine gen_toks ?_); intro zztk)) | ((with_reducible show wpAny _ _ (execs (_ :: _) _) _ _ _); (k_here; (with_reducible refine wpAny_execs_cons ?_); (try dsimp only); k_fold)) | ((with_reducible show wpAny _ _ (call (Value.type "enumerate") _) _ _ _); (k_here; (with_reducible rename EnMark => zzhEnM); k_dflt (refine enum_call (by k_asm) (by k_asm) (by k_mem) ?_); intro zze' zzit' zzh' zzhe' zzhi' zzhei' zzhoff' zzhen' zzheL' zzF' zzN')) | ((with_reducible show wpAny _ _ (exec (Stmt.For (Expr.Tuple _ _ _) (Expr.Call _ _ _ _) _ _ _) _) _ _ _); (k_here; (with_reducible rename EnMark => zzhEnM); k_dflt (refine For_enumF (by k_asm) (by rfl) (by rfl) (by rfl) (by rfl) ?_))) | ((k_here; (with_reducible show wpAny _ _ (subscriptTail _ (PySem.Expr.Slice _ _ none _) (Value.ref _) (Value.ref _)) _ _ _); k_dflt (refine' slice_ex (by k_asm) (by k_asm) (by kmk_list) (by kmk_part) (by kmk_part) ?_ (by with_unfolding_all rfl) (by kmk_pure) (by (first | decide | omega | (simp only [List.length_append, List.length_cons, List.length_nil] at *; omega)))); intro zzD' zzh' zzF' zzN' zzl1; (try k_lt zzl1); (try k_sweep))) | ((k_here; (with_reducible show wpAny _ _ (binaryOp _ (Value.ref _) (Value.ref _)) _ _ _); k_dflt (refine' kmk_add_lit (by k_asm) (by k_asm) (by kmk_list) (by kmk_list) (by rfl) ?_ (by (rw [sizeLine_eq]; (first | decide | omega | (simp only [List.length_append, List.length_cons, List.length_nil] at *; omega))))); intro zzD' zzh' zzF' zzN' zzl1; (try k_lt zzl1); (try k_sweep))) | ((with_reducible show wpAny _ _ (subscriptTail (Expr.Name _ _) (Expr.Name _ _) (Value.ref _) (Value.int _ _)) _ _ _); (k_dflt (refine' item_list (by is_list) (by (first | decide | omega | (simp only [List.size_toArray] at *; omega))) (by (first | decide | omega | (simp only [List.size_toArray] at *; omega))) (by assumption) ?_))) | ((with_reducible show wpAny _ _ (call (Value.builtin "len") [_]) _ _ _); (k_dflt (refine' call_len_list (by is_list) (by (first | decide | (simp only [List.size_toArray]; omega) | (simp only [List.size_toArray, List.length_cons, List.length_append, List.length_map, List.length_nil, List.length_take, List.length_drop]; omega))) ?_))) | walk1) | (dsimp only; (first | ((with_reducible show wpAny _ _ (execs [] _) _ _ _); (k_here; (with_reducible refine gen_toks ?_); intro zztk)) | ((with_reducible show wpAny _ _ (execs (_ :: _) _) _ _ _); (k_here; (with_reducible refine gen_toks ?_); intro zztk)) | ((with_reducible show wpAny _ _ (execs (_ :: _) _) _ _ _); (k_here; (with_reducible refine wpAny_execs_cons ?_); (try dsimp only); k_fold)) | ((with_reducible show wpAny _ _ (call (Value.type "enumerate") _) _ _ _); (k_here; (with_reducible rename EnMark => zzhEnM); k_dflt (refine enum_call (by k_asm) (by k_asm) (by k_mem) ?_); intro zze' zzit' zzh' zzhe' zzhi' zzhei' zzhoff' zzhen' zzheL' zzF' zzN')) | ((with_reducible show wpAny _ _ (exec (Stmt.For (Expr.Tuple _ _ _) (Expr.Call _ _ _ _) _ _ _) _) _ _ _); (k_here; (with_reducible rename EnMark => zzhEnM); k_dflt (refine For_enumF (by k_asm) (by rfl) (by rfl) (by rfl) (by rfl) ?_))) | ((k_here; (with_reducible show wpAny _ _ (subscriptTail _ (PySem.Expr.Slice _ _ none _) (Value.ref _) (Value.ref _)) _ _ _); k_dflt (refine' slice_ex (by k_asm) (by k_asm) (by kmk_list) (by kmk_part) (by kmk_part) ?_ (by with_unfolding_all rfl) (by kmk_pure) (by (first | decide | omega | (simp only [List.length_append, List.length_cons, List.length_nil] at *; omega)))); intro zzD' zzh' zzF' zzN' zzl1; (try k_lt zzl1); (try k_sweep))) | ((k_here; (with_reducible show wpAny _ _ (binaryOp _ (Value.ref _) (Value.ref _)) _ _ _); k_dflt (refine' kmk_add_lit (by k_asm) (by k_asm) (by kmk_list) (by kmk_list) (by rfl) ?_ (by (rw [sizeLine_eq]; (first | decide | omega | (simp only [List.length_append, List.length_cons, List.length_nil] at *; omega))))); intro zzD' zzh' zzF' zzN' zzl1; (try k_lt zzl1); (try k_sweep))) | ((with_reducible show wpAny _ _ (subscriptTail (Expr.Name _ _) (Expr.Name _ _) (Value.ref _) (Value.int _ _)) _ _ _); (k_dflt (refine' item_list (by is_list) (by (first | decide | omega | (simp only [List.size_toArray] at *; omega))) (by (first | decide | omega | (simp only [List.size_toArray] at *; omega))) (by assumption) ?_))) | ((with_reducible show wpAny _ _ (call (Value.builtin "len") [_]) _ _ _); (k_dflt (refine' call_len_list (by is_list) (by (first | decide | (simp only [List.size_toArray]; omega) | (simp only [List.size_toArray, List.length_cons, List.length_append, List.length_map, List.length_nil, List.length_take, List.length_drop]; omega))) ?_))) | walk1))) | fail "no step"))
      (rename Fr _ _ _ _ => FF); (rename News _ _ _ _ => NN); (rename (_ ∧ _ ∧ _ ∧ _ ∧ _) => l2)
      exact vals_turn FF NN l2 ⟨hpe, hpi⟩ (fun p hp => off p (.tail _ hp)) htl hlp rfl rfl rfl hps q3 .int q2 (by unfold pvAt; rw [hn2]) hpl
    · (repeat' (first | (k_unfold; (try dsimp only)) | ((( (fail_if_success (with_reducible show wpAny _ _ (pyIter _) _ _ _)); (fail_if_success (with_reducible show wpAny _ _ (exec (Stmt.While _ _ _ _) _) _ _ _)))); (( (fail_if_success (with_reducible show wpAny _ _ (eval (Expr.ListComp _ _ _ _) _) _ _ _)); (fail_if_success (with_reducible show wpAny _ _ (exec (Stmt.Assign _ (Expr.ListComp _ _ _ _) _) _) _ _ _)); (fail_if_success (with_reducible show LCg.CompSrc _ _ _ _ _ _ _ _ _ _ _ _ _ _)))); first | (first | ((with_reducible show wpAny _ _ (execs [] _) _ _ _); (k_here; (with_reducible refine gen_toks ?_); intro zztk)) | ((with_reducible show wpAny _ _ (execs (_ :: _) _) _ _ _); (k_here; (with_reducible refine gen_toks ?_); intro zztk)) | ((with_reducible show wpAny _ _ (execs (_ :: _) _) _ _ _); (k_here; (with_reducible refine wpAny_execs_cons ?_); (try dsimp only); k_fold)) | ((with_reducible show wpAny _ _ (call (Value.type "enumerate") _) _ _ _); (k_here; (with_reducible rename EnMark => zzhEnM); k_dflt (refine enum_call (by k_asm) (by k_asm) (by k_mem) ?_); intro zze' zzit' zzh' zzhe' zzhi' zzhei' zzhoff' zzhen' zzheL' zzF' zzN')) | ((with_reducible show wpAny _ _ (exec (Stmt.For (Expr.Tuple _ _ _) (Expr.Call _ _ _ _) _ _ _) _) _ _ _); (k_here; (with_reducible rename EnMark => zzhEnM); k_dflt (refine For_enumF (by k_asm) (by rfl) (by rfl) (by rfl) (by rfl) ?_))) | ((k_here; (with_reducible show wpAny _ _ (subscriptTail _ (PySem.Expr.Slice _ _ none _) (Value.ref _) (Value.ref _)) _ _ _); k_dflt (refine' slice_ex (by k_asm) (by k_asm) (by kmk_list) (by kmk_part) (by kmk_part) ?_ (by with_unfolding_all rfl) (by kmk_pure) (by (first | decide | omega | (simp only [List.length_append, List.length_cons, List.length_nil] at *; omega)))); intro zzD' zzh' zzF' zzN' zzl1; (try k_lt zzl1); (try k_sweep))) | ((k_here; (with_reducible show wpAny _ _ (binaryOp _ (Value.ref _) (Value.ref _)) _ _ _); k_dflt (refine' kmk_add_lit (by k_asm) (by k_asm) (by kmk_list) (by kmk_list) (by rfl) ?_ (by (rw [sizeLine_eq]; (first | decide | omega | (simp only [List.length_append, List.length_cons, List.length_nil] at *; omega))))); intro zzD' zzh' zzF' zzN' zzl1; (try k_lt zzl1); (try k_sweep))) | ((with_reducible show wpAny _ _ (subscriptTail (Expr.Name _ _) (Expr.Name _ _) (Value.ref _) (Value.int _ _)) _ _ _); (k_dflt (refine' item_list (by is_list) (by (first | decide | omega | (simp only [List.size_toArray] at *; omega))) (by (first | decide | omega | (simp only [List.size_toArray] at *; omega))) (by assumption) ?_))) | ((with_reducible show wpAny _ _ (call (Value.builtin "len") [_]) _ _ _); (k_dflt (refine' call_len_list (by is_list) (by (first | decide | (simp only [List.size_toArray]; omega) | (simp only [List.size_toArray, List.length_cons, List.length_append, List.length_map, List.length_nil, List.length_take, List.length_drop]; omega))) ?_))) | walk1) | (dsimp only; (first | ((with_reducible show wpAny _ _ (execs [] _) _ _ _); (k_here; (with_reducible refine gen_toks ?_); intro zztk)) | ((with_reducible show wpAny _ _ (execs (_ :: _) _) _ _ _); (k_here; (with_reducible refine gen_toks ?_); intro zztk)) | ((with_reducible show wpAny _ _ (execs (_ :: _) _) _ _ _); (k_here; (with_reducible refine wpAny_execs_cons ?_); (try dsimp only); k_fold)) | ((with_reducible show wpAny _ _ (call (Value.type "enumerate") _) _ _ _); (k_here; (with_reducible rename EnMark => zzhEnM); k_dflt (refine enum_call (by k_asm) (by k_asm) (by k_mem) ?_); intro zze' zzit' zzh' zzhe' zzhi' zzhei' zzhoff' zzhen' zzheL' zzF' zzN')) | ((with_reducible show wpAny _ _ (exec (Stmt.For (Expr.Tuple _ _ _) (Expr.Call _ _ _ _) _ _ _) _) _ _ _); (k_here; (with_reducible rename EnMark => zzhEnM); k_dflt (refine For_enumF (by k_asm) (by rfl) (by rfl) (by rfl) (by rfl) ?_))) | ((k_here; (with_reducible show wpAny _ _ (subscriptTail _ (PySem.Expr.Slice _ _ none _) (Value.ref _) (Value.ref _)) _ _ _); k_dflt (refine' slice_ex (by k_asm) (by k_asm) (by kmk_list) (by kmk_part) (by kmk_part) ?_ (by with_unfolding_all rfl) (by kmk_pure) (by (first | decide | omega | (simp only [List.length_append, List.length_cons, List.length_nil] at *; omega)))); intro zzD' zzh' zzF' zzN' zzl1; (try k_lt zzl1); (try k_sweep))) | ((k_here; (with_reducible show wpAny _ _ (binaryOp _ (Value.ref _) (Value.ref _)) _ _ _); k_dflt (refine' kmk_add_lit (by k_asm) (by k_asm) (by kmk_list) (by kmk_list) (by rfl) ?_ (by (rw [sizeLine_eq]; (first | decide | omega | (simp only [List.length_append, List.length_cons, List.length_nil] at *; omega))))); intro zzD' zzh' zzF' zzN' zzl1; (try k_lt zzl1); (try k_sweep))) | ((with_reducible show wpAny _ _ (subscriptTail (Expr.Name _ _) (Expr.Name _ _) (Value.ref _) (Value.int _ _)) _ _ _); (k_dflt (refine' item_list (by is_list) (by (first | decide | omega | (simp only [List.size_toArray] at *; omega))) (by (first | decide | omega | (simp only [List.size_toArray] at *; omega))) (by assumption) ?_))) | ((with_reducible show wpAny _ _ (call (Value.builtin "len") [_]) _ _ _); (k_dflt (refine' call_len_list (by is_list) (by (first | decide | (simp only [List.size_toArray]; omega) | (simp only [List.size_toArray, List.length_cons, List.length_append, List.length_map, List.length_nil, List.length_take, List.length_drop]; omega))) ?_))) | walk1))) | fail "no step"))
      (rename Fr _ _ _ _ => FF); (rename News _ _ _ _ => NN); (rename (_ ∧ _ ∧ _ ∧ _ ∧ _) => l2)
      exact vals_turn FF NN l2 ⟨hpe, hpi⟩ (fun p hp => off p (.tail _ hp)) htl hlp rfl rfl rfl hps q3 (.list .nil .nil) q2 (by unfold pvAt; rw [List.getElem?_eq_none (by rw [← IntsAre.length ha]; omega)]) hpl
  · intro m₁ nx h tk hJ F₁ N₁
    obtain ⟨pl, pls, c, tl, e1, e2, e3, rfl, htl, hlp, hps, hpl⟩ := hJ
    have F₂ := fr_know (fr_know (fr_know F₁ (a := Str.ofString "pairs") (x := .ref pl) e1) (a := Str.ofString "told") (x := .ref x) e2) (a := Str.ofString "arguments") (x := .ref al) e3
    clear F₁ F2 N2 he hi
    have hsz : (zn.toArray.toList ++ zo.toArray.toList).toArray.size = (nd ++ op).length := by
      rw [List.size_toArray, ← hall.length]
    rw [hsz, List.take_length] at hps
    have hpl2 : pls.length ≤ 200 := by rw [hsz, List.length_append, ← hn.length, ← ho.length] at hpl; omega
    have hpl3 := hps.length
    cases hr with
    | none =>
      (repeat' (first | (k_unfold; (try dsimp only)) | ((( (fail_if_success (with_reducible show wpAny _ _ (pyIter _) _ _ _)); (fail_if_success (with_reducible show wpAny _ _ (exec (Stmt.While _ _ _ _) _) _ _ _)))); (( (fail_if_success (with_reducible show wpAny _ _ (eval (Expr.ListComp _ _ _ _) _) _ _ _)); (fail_if_success (with_reducible show wpAny _ _ (exec (Stmt.Assign _ (Expr.ListComp _ _ _ _) _) _) _ _ _)); (fail_if_success (with_reducible show LCg.CompSrc _ _ _ _ _ _ _ _ _ _ _ _ _ _)))); first | (first | ((with_reducible show wpAny _ _ (execs [] _) _ _ _); (k_here; (with_reducible refine gen_toks ?_); intro zztk)) | ((with_reducible show wpAny _ _ (execs (_ :: _) _) _ _ _); (k_here; (with_reducible refine gen_toks ?_); intro zztk)) | ((with_reducible show wpAny _ _ (execs (_ :: _) _) _ _ _); (k_here; (with_reducible refine wpAny_execs_cons ?_); (try dsimp only); k_fold)) | ((with_reducible show wpAny _ _ (call (Value.type "enumerate") _) _ _ _); (k_here; (with_reducible rename EnMark => zzhEnM); k_dflt (refine enum_call (by k_asm) (by k_asm) (by k_mem) ?_); intro zze' zzit' zzh' zzhe' zzhi' zzhei' zzhoff' zzhen' zzheL' zzF' zzN')) | ((with_reducible show wpAny _ _ (exec (Stmt.For (Expr.Tuple _ _ _) (Expr.Call _ _ _ _) _ _ _) _) _ _ _); (k_here; (with_reducible rename EnMark => zzhEnM); k_dflt (refine For_enumF (by k_asm) (by rfl) (by rfl) (by rfl) (by rfl) ?_))) | ((k_here; (with_reducible show wpAny _ _ (subscriptTail _ (PySem.Expr.Slice _ _ none _) (Value.ref _) (Value.ref _)) _ _ _); k_dflt (refine' slice_ex (by k_asm) (by k_asm) (by kmk_list) (by kmk_part) (by kmk_part) ?_ (by with_unfolding_all rfl) (by kmk_pure) (by (first | decide | omega | (simp only [List.length_append, List.length_cons, List.length_nil] at *; omega)))); intro zzD' zzh' zzF' zzN' zzl1; (try k_lt zzl1); (try k_sweep))) | ((k_here; (with_reducible show wpAny _ _ (binaryOp _ (Value.ref _) (Value.ref _)) _ _ _); k_dflt (refine' kmk_add_lit (by k_asm) (by k_asm) (by kmk_list) (by kmk_list) (by rfl) ?_ (by (rw [sizeLine_eq]; (first | decide | omega | (simp only [List.length_append, List.length_cons, List.length_nil] at *; omega))))); intro zzD' zzh' zzF' zzN' zzl1; (try k_lt zzl1); (try k_sweep))) | ((with_reducible show wpAny _ _ (subscriptTail (Expr.Name _ _) (Expr.Name _ _) (Value.ref _) (Value.int _ _)) _ _ _); (k_dflt (refine' item_list (by is_list) (by (first | decide | omega | (simp only [List.size_toArray] at *; omega))) (by (first | decide | omega | (simp only [List.size_toArray] at *; omega))) (by assumption) ?_))) | ((with_reducible show wpAny _ _ (call (Value.builtin "len") [_]) _ _ _); (k_dflt (refine' call_len_list (by is_list) (by (first | decide | (simp only [List.size_toArray]; omega) | (simp only [List.size_toArray, List.length_cons, List.length_append, List.length_map, List.length_nil, List.length_take, List.length_drop]; omega))) ?_))) | walk1) | (dsimp only; (first | ((with_reducible show wpAny _ _ (execs [] _) _ _ _); (k_here; (with_reducible refine gen_toks ?_); intro zztk)) | ((with_reducible show wpAny _ _ (execs (_ :: _) _) _ _ _); (k_here; (with_reducible refine gen_toks ?_); intro zztk)) | ((with_reducible show wpAny _ _ (execs (_ :: _) _) _ _ _); (k_here; (with_reducible refine wpAny_execs_cons ?_); (try dsimp only); k_fold)) | ((with_reducible show wpAny _ _ (call (Value.type "enumerate") _) _ _ _); (k_here; (with_reducible rename EnMark => zzhEnM); k_dflt (refine enum_call (by k_asm) (by k_asm) (by k_mem) ?_); intro zze' zzit' zzh' zzhe' zzhi' zzhei' zzhoff' zzhen' zzheL' zzF' zzN')) | ((with_reducible show wpAny _ _ (exec (Stmt.For (Expr.Tuple _ _ _) (Expr.Call _ _ _ _) _ _ _) _) _ _ _); (k_here; (with_reducible rename EnMark => zzhEnM); k_dflt (refine For_enumF (by k_asm) (by rfl) (by rfl) (by rfl) (by rfl) ?_))) | ((k_here; (with_reducible show wpAny _ _ (subscriptTail _ (PySem.Expr.Slice _ _ none _) (Value.ref _) (Value.ref _)) _ _ _); k_dflt (refine' slice_ex (by k_asm) (by k_asm) (by kmk_list) (by kmk_part) (by kmk_part) ?_ (by with_unfolding_all rfl) (by kmk_pure) (by (first | decide | omega | (simp only [List.length_append, List.length_cons, List.length_nil] at *; omega)))); intro zzD' zzh' zzF' zzN' zzl1; (try k_lt zzl1); (try k_sweep))) | ((k_here; (with_reducible show wpAny _ _ (binaryOp _ (Value.ref _) (Value.ref _)) _ _ _); k_dflt (refine' kmk_add_lit (by k_asm) (by k_asm) (by kmk_list) (by kmk_list) (by rfl) ?_ (by (rw [sizeLine_eq]; (first | decide | omega | (simp only [List.length_append, List.length_cons, List.length_nil] at *; omega))))); intro zzD' zzh' zzF' zzN' zzl1; (try k_lt zzl1); (try k_sweep))) | ((with_reducible show wpAny _ _ (subscriptTail (Expr.Name _ _) (Expr.Name _ _) (Value.ref _) (Value.int _ _)) _ _ _); (k_dflt (refine' item_list (by is_list) (by (first | decide | omega | (simp only [List.size_toArray] at *; omega))) (by (first | decide | omega | (simp only [List.size_toArray] at *; omega))) (by assumption) ?_))) | ((with_reducible show wpAny _ _ (call (Value.builtin "len") [_]) _ _ _); (k_dflt (refine' call_len_list (by is_list) (by (first | decide | (simp only [List.size_toArray]; omega) | (simp only [List.size_toArray, List.length_cons, List.length_append, List.length_map, List.length_nil, List.length_take, List.length_drop]; omega))) ?_))) | walk1))) | fail "no step"))
      (rename Fr _ _ _ _ => FF); (rename News _ _ _ _ => NN)
      exact hQ pl pls c _ _ _ FF.keep (fun p hp => ⟨(NN p hp).1, (NN p hp).2.2⟩) (.head _) (by
        show PairsV _ _ (_ ++ [])
        rw [List.append_nil]
        exact hps.mono fun a o q => q.imp (fun q => .tail _ q) id)
    | some hr1 hr2 =>
      cases hr1 with
      | seven => exact absurd rfl hr2
      | sym p1 p2 p3 =>
        have hri := ItemIs.sym p1 p2 p3
        (repeat' (first | (k_unfold; (try dsimp only)) | ((( (fail_if_success (with_reducible show wpAny _ _ (pyIter _) _ _ _)); (fail_if_success (with_reducible show wpAny _ _ (exec (Stmt.While _ _ _ _) _) _ _ _)))); (( (fail_if_success (with_reducible show wpAny _ _ (eval (Expr.ListComp _ _ _ _) _) _ _ _)); (fail_if_success (with_reducible show wpAny _ _ (exec (Stmt.Assign _ (Expr.ListComp _ _ _ _) _) _) _ _ _)); (fail_if_success (with_reducible show LCg.CompSrc _ _ _ _ _ _ _ _ _ _ _ _ _ _)))); first | (first | ((with_reducible show wpAny _ _ (execs [] _) _ _ _); (k_here; (with_reducible refine gen_toks ?_); intro zztk)) | ((with_reducible show wpAny _ _ (execs (_ :: _) _) _ _ _); (k_here; (with_reducible refine gen_toks ?_); intro zztk)) | ((with_reducible show wpAny _ _ (execs (_ :: _) _) _ _ _); (k_here; (with_reducible refine wpAny_execs_cons ?_); (try dsimp only); k_fold)) | ((with_reducible show wpAny _ _ (call (Value.type "enumerate") _) _ _ _); (k_here; (with_reducible rename EnMark => zzhEnM); k_dflt (refine enum_call (by k_asm) (by k_asm) (by k_mem) ?_); intro zze' zzit' zzh' zzhe' zzhi' zzhei' zzhoff' zzhen' zzheL' zzF' zzN')) | ((with_reducible show wpAny _ _ (exec (Stmt.For (Expr.Tuple _ _ _) (Expr.Call _ _ _ _) _ _ _) _) _ _ _); (k_here; (with_reducible rename EnMark => zzhEnM); k_dflt (refine For_enumF (by k_asm) (by rfl) (by rfl) (by rfl) (by rfl) ?_))) | ((k_here; (with_reducible show wpAny _ _ (subscriptTail _ (PySem.Expr.Slice _ _ none _) (Value.ref _) (Value.ref _)) _ _ _); k_dflt (refine' slice_ex (by k_asm) (by k_asm) (by kmk_list) (by kmk_part) (by kmk_part) ?_ (by with_unfolding_all rfl) (by kmk_pure) (by (first | decide | omega | (simp only [List.length_append, List.length_cons, List.length_nil] at *; omega)))); intro zzD' zzh' zzF' zzN' zzl1; (try k_lt zzl1); (try k_sweep))) | ((k_here; (with_reducible show wpAny _ _ (binaryOp _ (Value.ref _) (Value.ref _)) _ _ _); k_dflt (refine' kmk_add_lit (by k_asm) (by k_asm) (by kmk_list) (by kmk_list) (by rfl) ?_ (by (rw [sizeLine_eq]; (first | decide | omega | (simp only [List.length_append, List.length_cons, List.length_nil] at *; omega))))); intro zzD' zzh' zzF' zzN' zzl1; (try k_lt zzl1); (try k_sweep))) | ((with_reducible show wpAny _ _ (subscriptTail (Expr.Name _ _) (Expr.Name _ _) (Value.ref _) (Value.int _ _)) _ _ _); (k_dflt (refine' item_list (by is_list) (by (first | decide | omega | (simp only [List.size_toArray] at *; omega))) (by (first | decide | omega | (simp only [List.size_toArray] at *; omega))) (by assumption) ?_))) | ((with_reducible show wpAny _ _ (call (Value.builtin "len") [_]) _ _ _); (k_dflt (refine' call_len_list (by is_list) (by (first | decide | (simp only [List.size_toArray]; omega) | (simp only [List.size_toArray, List.length_cons, List.length_append, List.length_map, List.length_nil, List.length_take, List.length_drop]; omega))) ?_))) | walk1) | (dsimp only; (first | ((with_reducible show wpAny _ _ (execs [] _) _ _ _); (k_here; (with_reducible refine gen_toks ?_); intro zztk)) | ((with_reducible show wpAny _ _ (execs (_ :: _) _) _ _ _); (k_here; (with_reducible refine gen_toks ?_); intro zztk)) | ((with_reducible show wpAny _ _ (execs (_ :: _) _) _ _ _); (k_here; (with_reducible refine wpAny_execs_cons ?_); (try dsimp only); k_fold)) | ((with_reducible show wpAny _ _ (call (Value.type "enumerate") _) _ _ _); (k_here; (with_reducible rename EnMark => zzhEnM); k_dflt (refine enum_call (by k_asm) (by k_asm) (by k_mem) ?_); intro zze' zzit' zzh' zzhe' zzhi' zzhei' zzhoff' zzhen' zzheL' zzF' zzN')) | ((with_reducible show wpAny _ _ (exec (Stmt.For (Expr.Tuple _ _ _) (Expr.Call _ _ _ _) _ _ _) _) _ _ _); (k_here; (with_reducible rename EnMark => zzhEnM); k_dflt (refine For_enumF (by k_asm) (by rfl) (by rfl) (by rfl) (by rfl) ?_))) | ((k_here; (with_reducible show wpAny _ _ (subscriptTail _ (PySem.Expr.Slice _ _ none _) (Value.ref _) (Value.ref _)) _ _ _); k_dflt (refine' slice_ex (by k_asm) (by k_asm) (by kmk_list) (by kmk_part) (by kmk_part) ?_ (by with_unfolding_all rfl) (by kmk_pure) (by (first | decide | omega | (simp only [List.length_append, List.length_cons, List.length_nil] at *; omega)))); intro zzD' zzh' zzF' zzN' zzl1; (try k_lt zzl1); (try k_sweep))) | ((k_here; (with_reducible show wpAny _ _ (binaryOp _ (Value.ref _) (Value.ref _)) _ _ _); k_dflt (refine' kmk_add_lit (by k_asm) (by k_asm) (by kmk_list) (by kmk_list) (by rfl) ?_ (by (rw [sizeLine_eq]; (first | decide | omega | (simp only [List.length_append, List.length_cons, List.length_nil] at *; omega))))); intro zzD' zzh' zzF' zzN' zzl1; (try k_lt zzl1); (try k_sweep))) | ((with_reducible show wpAny _ _ (subscriptTail (Expr.Name _ _) (Expr.Name _ _) (Value.ref _) (Value.int _ _)) _ _ _); (k_dflt (refine' item_list (by is_list) (by (first | decide | omega | (simp only [List.size_toArray] at *; omega))) (by (first | decide | omega | (simp only [List.size_toArray] at *; omega))) (by assumption) ?_))) | ((with_reducible show wpAny _ _ (call (Value.builtin "len") [_]) _ _ _); (k_dflt (refine' call_len_list (by is_list) (by (first | decide | (simp only [List.size_toArray]; omega) | (simp only [List.size_toArray, List.length_cons, List.length_append, List.length_map, List.length_nil, List.length_take, List.length_drop]; omega))) ?_))) | walk1))) | fail "no step"))
        (rename Fr _ _ _ _ => F3); (rename News _ _ _ _ => N3); (rename (_ ∧ AllLt _ _) => l2)
        k_dflt (refine' list_of_call B F3 N3 ?d ?l (Nat.le_trans (pick_len avs (some ((pls.toArray.size : Nat) : Int)) none) (Nat.le_trans za1 (by decide))) ?_; (case d => k_room); (case l => is_list))
        intro r nx h' tk' F4 N4 R4 fr4
        have hnp : ∀ q ∈ nx, q.1 ≠ pl := fun q hq e => by
          have h1 := fr4 q hq; have h2 := (N3 _ (.tail _ (.head _))).1; rw [e, h2] at h1; cases h1
        have N5 : News s.heap _ h' ((pl, listOf pls.toArray c) :: (tl ++ nx)) := news_sub N4 fun p hp => by
          rcases List.mem_cons.mp hp with rfl | hp
          · exact List.mem_append.mpr (.inr (.tail _ (.head _)))
          · rcases List.mem_append.mp hp with hp | hp
            · exact List.mem_append.mpr (.inr (.tail _ (.tail _ hp)))
            · exact List.mem_append.mpr (.inl hp)
        have htn : ∀ q ∈ tl ++ nx, q.1 ≠ pl := fun q hq => (List.mem_append.mp hq).elim (htl q) (hnp q)
        have hrh : handedIn r = true := R4.handed (.inl rfl)
        clear F3 N3 N4
        (repeat' (first | (k_unfold; (try dsimp only)) | ((( (fail_if_success (with_reducible show wpAny _ _ (pyIter _) _ _ _)); (fail_if_success (with_reducible show wpAny _ _ (exec (Stmt.While _ _ _ _) _) _ _ _)))); (( (fail_if_success (with_reducible show wpAny _ _ (eval (Expr.ListComp _ _ _ _) _) _ _ _)); (fail_if_success (with_reducible show wpAny _ _ (exec (Stmt.Assign _ (Expr.ListComp _ _ _ _) _) _) _ _ _)); (fail_if_success (with_reducible show LCg.CompSrc _ _ _ _ _ _ _ _ _ _ _ _ _ _)))); first | (first | ((with_reducible show wpAny _ _ (execs [] _) _ _ _); (k_here; (with_reducible refine gen_toks ?_); intro zztk)) | ((with_reducible show wpAny _ _ (execs (_ :: _) _) _ _ _); (k_here; (with_reducible refine gen_toks ?_); intro zztk)) | ((with_reducible show wpAny _ _ (execs (_ :: _) _) _ _ _); (k_here; (with_reducible refine wpAny_execs_cons ?_); (try dsimp only); k_fold)) | ((with_reducible show wpAny _ _ (call (Value.type "enumerate") _) _ _ _); (k_here; (with_reducible rename EnMark => zzhEnM); k_dflt (refine enum_call (by k_asm) (by k_asm) (by k_mem) ?_); intro zze' zzit' zzh' zzhe' zzhi' zzhei' zzhoff' zzhen' zzheL' zzF' zzN')) | ((with_reducible show wpAny _ _ (exec (Stmt.For (Expr.Tuple _ _ _) (Expr.Call _ _ _ _) _ _ _) _) _ _ _); (k_here; (with_reducible rename EnMark => zzhEnM); k_dflt (refine For_enumF (by k_asm) (by rfl) (by rfl) (by rfl) (by rfl) ?_))) | ((k_here; (with_reducible show wpAny _ _ (subscriptTail _ (PySem.Expr.Slice _ _ none _) (Value.ref _) (Value.ref _)) _ _ _); k_dflt (refine' slice_ex (by k_asm) (by k_asm) (by kmk_list) (by kmk_part) (by kmk_part) ?_ (by with_unfolding_all rfl) (by kmk_pure) (by (first | decide | omega | (simp only [List.length_append, List.length_cons, List.length_nil] at *; omega)))); intro zzD' zzh' zzF' zzN' zzl1; (try k_lt zzl1); (try k_sweep))) | ((k_here; (with_reducible show wpAny _ _ (binaryOp _ (Value.ref _) (Value.ref _)) _ _ _); k_dflt (refine' kmk_add_lit (by k_asm) (by k_asm) (by kmk_list) (by kmk_list) (by rfl) ?_ (by (rw [sizeLine_eq]; (first | decide | omega | (simp only [List.length_append, List.length_cons, List.length_nil] at *; omega))))); intro zzD' zzh' zzF' zzN' zzl1; (try k_lt zzl1); (try k_sweep))) | ((with_reducible show wpAny _ _ (subscriptTail (Expr.Name _ _) (Expr.Name _ _) (Value.ref _) (Value.int _ _)) _ _ _); (k_dflt (refine' item_list (by is_list) (by (first | decide | omega | (simp only [List.size_toArray] at *; omega))) (by (first | decide | omega | (simp only [List.size_toArray] at *; omega))) (by assumption) ?_))) | ((with_reducible show wpAny _ _ (call (Value.builtin "len") [_]) _ _ _); (k_dflt (refine' call_len_list (by is_list) (by (first | decide | (simp only [List.size_toArray]; omega) | (simp only [List.size_toArray, List.length_cons, List.length_append, List.length_map, List.length_nil, List.length_take, List.length_drop]; omega))) ?_))) | walk1) | (dsimp only; (first | ((with_reducible show wpAny _ _ (execs [] _) _ _ _); (k_here; (with_reducible refine gen_toks ?_); intro zztk)) | ((with_reducible show wpAny _ _ (execs (_ :: _) _) _ _ _); (k_here; (with_reducible refine gen_toks ?_); intro zztk)) | ((with_reducible show wpAny _ _ (execs (_ :: _) _) _ _ _); (k_here; (with_reducible refine wpAny_execs_cons ?_); (try dsimp only); k_fold)) | ((with_reducible show wpAny _ _ (call (Value.type "enumerate") _) _ _ _); (k_here; (with_reducible rename EnMark => zzhEnM); k_dflt (refine enum_call (by k_asm) (by k_asm) (by k_mem) ?_); intro zze' zzit' zzh' zzhe' zzhi' zzhei' zzhoff' zzhen' zzheL' zzF' zzN')) | ((with_reducible show wpAny _ _ (exec (Stmt.For (Expr.Tuple _ _ _) (Expr.Call _ _ _ _) _ _ _) _) _ _ _); (k_here; (with_reducible rename EnMark => zzhEnM); k_dflt (refine For_enumF (by k_asm) (by rfl) (by rfl) (by rfl) (by rfl) ?_))) | ((k_here; (with_reducible show wpAny _ _ (subscriptTail _ (PySem.Expr.Slice _ _ none _) (Value.ref _) (Value.ref _)) _ _ _); k_dflt (refine' slice_ex (by k_asm) (by k_asm) (by kmk_list) (by kmk_part) (by kmk_part) ?_ (by with_unfolding_all rfl) (by kmk_pure) (by (first | decide | omega | (simp only [List.length_append, List.length_cons, List.length_nil] at *; omega)))); intro zzD' zzh' zzF' zzN' zzl1; (try k_lt zzl1); (try k_sweep))) | ((k_here; (with_reducible show wpAny _ _ (binaryOp _ (Value.ref _) (Value.ref _)) _ _ _); k_dflt (refine' kmk_add_lit (by k_asm) (by k_asm) (by kmk_list) (by kmk_list) (by rfl) ?_ (by (rw [sizeLine_eq]; (first | decide | omega | (simp only [List.length_append, List.length_cons, List.length_nil] at *; omega))))); intro zzD' zzh' zzF' zzN' zzl1; (try k_lt zzl1); (try k_sweep))) | ((with_reducible show wpAny _ _ (subscriptTail (Expr.Name _ _) (Expr.Name _ _) (Value.ref _) (Value.int _ _)) _ _ _); (k_dflt (refine' item_list (by is_list) (by (first | decide | omega | (simp only [List.size_toArray] at *; omega))) (by (first | decide | omega | (simp only [List.size_toArray] at *; omega))) (by assumption) ?_))) | ((with_reducible show wpAny _ _ (call (Value.builtin "len") [_]) _ _ _); (k_dflt (refine' call_len_list (by is_list) (by (first | decide | (simp only [List.size_toArray]; omega) | (simp only [List.size_toArray, List.length_cons, List.length_append, List.length_map, List.length_nil, List.length_take, List.length_drop]; omega))) ?_))) | walk1))) | fail "no step"))
        (rename Fr _ _ _ _ => FF); (rename News _ _ _ _ => NN)
        obtain ⟨nx2, k1', k2', k3'⟩ := vals_last NN hps hri R4 (by
          have e : pls.toArray.size = (nd ++ op).length := by rw [List.size_toArray, hpl3, vdat_len]
          have := pick_from ha pls.toArray.size
          rw [e] at this ⊢
          exact this)
        exact hQ pl _ (c + 1) nx2 _ _ FF.keep k1' k2' k3'

theorem zz_reset_NpTold : True := by
  w_top off
  exact trivial
open PySem PySem.W PyProof.Rows PySem.Calls
theorem seed_frag_told : hd.heap_39 = hd.heap_39 ∧ PySem.Challenge.rw_np0012_01 = PySem.Challenge.rw_np0012_01 := by
  k_fill
  exact ⟨rfl, rfl⟩

def mostOf (nd op : List Str) : Option Str → Int
  | none => (nd.length : Int) + (op.length : Int)
  | some _ => -1
theorem rest_cases {P : Addr → Obj → Prop} {v : Value} {rs : Option Str} (h : RestIs P v rs) : (v = .none ∧ rs = none) ∨ ∃ a x, v = .ref a ∧ rs = some x := by
  cases h with
  | none => exact .inl ⟨rfl, rfl⟩
  | some h1 h2 =>
    cases h1 with
    | seven => exact absurd rfl h2
    | sym _ _ _ => exact .inr ⟨_, _, rfl, rfl⟩

section
variable {w : World} {prog : Program} {dp un : Nat} {fr : Option (List Env)} {gd : Option (List Code)} {s : Shared} {Q : Value → Shared → Prop} {E : Value → Shared → Prop} {P : Addr → Obj → Prop} {x dx nl ol : Addr} {k1 k2 k3 : Int} {t1 t2 t3 nn c1 c2 : Nat} {zn zo : List Value} {nd op : List Str} {rs : Option Str} {rv : Value}
set_option maxHeartbeats 4000000 in
theorem bounds_spec (B : Base w s.heap) (hd : dp ≤ 700) (hu : un ≤ 4000) (ox : s.heap.get? x = some (instObj 132 dx)) (od : s.heap.get? dx = some (dictOf [⟨k1, .str (Str.ofString "needed") t1, .ref nl⟩, ⟨k2, .str (Str.ofString "optional") t2, .ref ol⟩, ⟨k3, .str (Str.ofString "rest") t3, rv⟩] nn))
    (gn : s.heap.get? nl = some (listOf zn.toArray c1)) (go : s.heap.get? ol = some (listOf zo.toArray c2)) (hn : ItemsAre P zn nd) (ho : ItemsAre P zo op) (hr : RestIs P rv rs) (zn1 : zn.length ≤ 100) (zo1 : zo.length ≤ 100)
    (hQ : ∀ (tp : Addr) (c t t' : Nat) (h' : Heap) (tk : Nat), Kept s.heap h' → h'.get? tp = some { cls := .type "tuple", data := .seq #[.int nd.length t, .int (mostOf nd op rs) t'] c } → s.heap.get? tp = none → Q (.ref tp) { s with heap := h', toks := tk }) :
    wpAny (model prog w) (Ar dp fr gd un) (call (.ref 129) [.ref x]) Q E s := by
  have X := B.X
  obtain ⟨p, loose, mean, mg, mb, T⟩ := B.T
  have ln : s.heap.IsList nl zn.toArray := ⟨_, gn, rfl, _, rfl⟩
  have lo : s.heap.IsList ol zo.toArray := ⟨_, go, rfl, _, rfl⟩
  have e1 : (zn.toArray.size : Int) = nd.length := by rw [List.size_toArray, hn.length]
  have e2 : (zo.toArray.size : Int) = op.length := by rw [List.size_toArray, ho.length]
  k_dflt (refine' enter [(Str.ofString "self", .ref x)] X T.nolimit ?k6 ?k7 ?k8 ?k9 ?kB ?c2 ?c3 ?c4 ?c5 ?_)
  ((k_dflt ((case k6 => k_is); (case k7 => k_is); (case k8 => k_room); (case k9 => first | exact BindsTo.of_eq rfl | exact binds_K (by k_in) rfl (by k_is) rfl rfl rfl); (case kB => exact locs rfl); (case c2 => exact rfl); (case c3 => exact rfl); (case c4 => exact rfl); (case c5 => decide))))
  intro L' h₁ tk F N
  rcases (rest_cases hr) with ⟨rfl, rfl⟩ | ⟨ra, rx, rfl, rfl⟩
  · (repeat' (first | (k_unfold; (try dsimp only)) | ((( (fail_if_success (with_reducible show wpAny _ _ (pyIter _) _ _ _)); (fail_if_success (with_reducible show wpAny _ _ (exec (Stmt.While _ _ _ _) _) _ _ _)))); (( (fail_if_success (with_reducible show wpAny _ _ (eval (Expr.ListComp _ _ _ _) _) _ _ _)); (fail_if_success (with_reducible show wpAny _ _ (exec (Stmt.Assign _ (Expr.ListComp _ _ _ _) _) _) _ _ _)); (fail_if_success (with_reducible show LCg.CompSrc _ _ _ _ _ _ _ _ _ _ _ _ _ _)))); first | (first | ((with_reducible show wpAny _ _ (execs (_ :: _) _) _ _ _); (k_here; (with_reducible refine gen_toks ?_); intro zztk)) | ((with_reducible show wpAny _ _ (execs [] _) _ _ _); (k_here; (with_reducible refine gen_toks ?_); intro zztk)) | ((with_reducible show wpAny _ _ (execs (_ :: _) _) _ _ _); (k_here; (with_reducible refine wpAny_execs_cons ?_); (try dsimp only); k_fold)) | ((with_reducible show wpAny _ _ (call (Value.builtin "len") [_]) _ _ _); (k_dflt (refine' call_len_list (by is_list) (by (first | decide | (simp only [List.size_toArray]; omega) | (simp only [List.size_toArray, List.length_cons, List.length_append, List.length_map, List.length_nil, List.length_take, List.length_drop]; omega))) ?_))) | walk1) | (dsimp only; (first | ((with_reducible show wpAny _ _ (execs (_ :: _) _) _ _ _); (k_here; (with_reducible refine gen_toks ?_); intro zztk)) | ((with_reducible show wpAny _ _ (execs [] _) _ _ _); (k_here; (with_reducible refine gen_toks ?_); intro zztk)) | ((with_reducible show wpAny _ _ (execs (_ :: _) _) _ _ _); (k_here; (with_reducible refine wpAny_execs_cons ?_); (try dsimp only); k_fold)) | ((with_reducible show wpAny _ _ (call (Value.builtin "len") [_]) _ _ _); (k_dflt (refine' call_len_list (by is_list) (by (first | decide | (simp only [List.size_toArray]; omega) | (simp only [List.size_toArray, List.length_cons, List.length_append, List.length_map, List.length_nil, List.length_take, List.length_drop]; omega))) ?_))) | walk1))) | fail "no step"))
    (rename Fr _ _ _ _ => FF); (rename News _ _ _ _ => NN)
    have m1 := NN _ (.head _)
    rw [e1, e2] at m1
    exact hQ _ _ _ _ _ _ FF.keep m1.1 m1.2.2
  · (repeat' (first | (k_unfold; (try dsimp only)) | ((( (fail_if_success (with_reducible show wpAny _ _ (pyIter _) _ _ _)); (fail_if_success (with_reducible show wpAny _ _ (exec (Stmt.While _ _ _ _) _) _ _ _)))); (( (fail_if_success (with_reducible show wpAny _ _ (eval (Expr.ListComp _ _ _ _) _) _ _ _)); (fail_if_success (with_reducible show wpAny _ _ (exec (Stmt.Assign _ (Expr.ListComp _ _ _ _) _) _) _ _ _)); (fail_if_success (with_reducible show LCg.CompSrc _ _ _ _ _ _ _ _ _ _ _ _ _ _)))); first | (first | ((with_reducible show wpAny _ _ (execs (_ :: _) _) _ _ _); (k_here; (with_reducible refine gen_toks ?_); intro zztk)) | ((with_reducible show wpAny _ _ (execs [] _) _ _ _); (k_here; (with_reducible refine gen_toks ?_); intro zztk)) | ((with_reducible show wpAny _ _ (execs (_ :: _) _) _ _ _); (k_here; (with_reducible refine wpAny_execs_cons ?_); (try dsimp only); k_fold)) | ((with_reducible show wpAny _ _ (call (Value.builtin "len") [_]) _ _ _); (k_dflt (refine' call_len_list (by is_list) (by (first | decide | (simp only [List.size_toArray]; omega) | (simp only [List.size_toArray, List.length_cons, List.length_append, List.length_map, List.length_nil, List.length_take, List.length_drop]; omega))) ?_))) | walk1) | (dsimp only; (first | ((with_reducible show wpAny _ _ (execs (_ :: _) _) _ _ _); (k_here; (with_reducible refine gen_toks ?_); intro zztk)) | ((with_reducible show wpAny _ _ (execs [] _) _ _ _); (k_here; (with_reducible refine gen_toks ?_); intro zztk)) | ((with_reducible show wpAny _ _ (execs (_ :: _) _) _ _ _); (k_here; (with_reducible refine wpAny_execs_cons ?_); (try dsimp only); k_fold)) | ((with_reducible show wpAny _ _ (call (Value.builtin "len") [_]) _ _ _); (k_dflt (refine' call_len_list (by is_list) (by (first | decide | (simp only [List.size_toArray]; omega) | (simp only [List.size_toArray, List.length_cons, List.length_append, List.length_map, List.length_nil, List.length_take, List.length_drop]; omega))) ?_))) | walk1))) | fail "no step"))
    (rename Fr _ _ _ _ => FF); (rename News _ _ _ _ => NN)
    have m1 := NN _ (.head _)
    rw [e1] at m1
    exact hQ _ _ _ _ _ _ FF.keep m1.1 m1.2.2

set_option maxHeartbeats 4000000 in
theorem takes_spec {many : Nat} {tm : Nat} (B : Base w s.heap) (hd : dp ≤ 700) (hu : un ≤ 4000) (ox : s.heap.get? x = some (instObj 132 dx)) (od : s.heap.get? dx = some (dictOf [⟨k1, .str (Str.ofString "needed") t1, .ref nl⟩, ⟨k2, .str (Str.ofString "optional") t2, .ref ol⟩, ⟨k3, .str (Str.ofString "rest") t3, rv⟩] nn))
    (gn : s.heap.get? nl = some (listOf zn.toArray c1)) (go : s.heap.get? ol = some (listOf zo.toArray c2)) (hn : ItemsAre P zn nd) (ho : ItemsAre P zo op) (hr : RestIs P rv rs) (zn1 : zn.length ≤ 100) (zo1 : zo.length ≤ 100)
    (hQ : ∀ (h' : Heap) (tk : Nat), Kept s.heap h' → Q (.bool (decide (nd.length ≤ many ∧ (rs ≠ none ∨ many ≤ nd.length + op.length)))) { s with heap := h', toks := tk }) :
    wpAny (model prog w) (Ar dp fr gd un) (call (.ref 122) [.ref x, .int (many : Int) tm]) Q E s := by
  have X := B.X
  obtain ⟨p, loose, mean, mg, mb, T⟩ := B.T
  have ln : s.heap.IsList nl zn.toArray := ⟨_, gn, rfl, _, rfl⟩
  have lo : s.heap.IsList ol zo.toArray := ⟨_, go, rfl, _, rfl⟩
  have e1 : (zn.toArray.size : Int) = nd.length := by rw [List.size_toArray, hn.length]
  have e2 : (zo.toArray.size : Int) = op.length := by rw [List.size_toArray, ho.length]
  k_dflt (refine' enter [(Str.ofString "self", .ref x), (Str.ofString "many", .int (many : Int) tm)] X T.nolimit ?k6 ?k7 ?k8 ?k9 ?kB ?c2 ?c3 ?c4 ?c5 ?_)
  ((k_dflt ((case k6 => k_is); (case k7 => k_is); (case k8 => k_room); (case k9 => first | exact BindsTo.of_eq rfl | exact binds_K (by k_in) rfl (by k_is) rfl rfl rfl); (case kB => exact locs rfl); (case c2 => exact rfl); (case c3 => exact rfl); (case c4 => exact rfl); (case c5 => decide))))
  intro L' h₁ tk F N
  have hQ' : ∀ (b : Bool) (h' : Heap) (tk : Nat), Kept s.heap h' → (b = true ↔ nd.length ≤ many ∧ (rs ≠ none ∨ many ≤ nd.length + op.length)) → Q (.bool b) { s with heap := h', toks := tk } := fun b h' tk k e => by
    have : b = decide (nd.length ≤ many ∧ (rs ≠ none ∨ many ≤ nd.length + op.length)) := by
      cases b with
      | true => exact (decide_eq_true (e.mp rfl)).symm
      | false => exact (decide_eq_false fun q => by cases e.mpr q).symm
    rw [this]; exact hQ h' tk k
  rcases (rest_cases hr) with ⟨rfl, rfl⟩ | ⟨ra, rx, rfl, rfl⟩
  · (repeat' (first | (k_unfold; (try dsimp only)) | ((( (fail_if_success (with_reducible show wpAny _ _ (pyIter _) _ _ _)); (fail_if_success (with_reducible show wpAny _ _ (exec (Stmt.While _ _ _ _) _) _ _ _)))); (( (fail_if_success (with_reducible show wpAny _ _ (eval (Expr.ListComp _ _ _ _) _) _ _ _)); (fail_if_success (with_reducible show wpAny _ _ (exec (Stmt.Assign _ (Expr.ListComp _ _ _ _) _) _) _ _ _)); (fail_if_success (with_reducible show LCg.CompSrc _ _ _ _ _ _ _ _ _ _ _ _ _ _)))); first | (first | ((with_reducible show wpAny _ _ (execs (_ :: _) _) _ _ _); (k_here; (with_reducible refine gen_toks ?_); intro zztk)) | ((with_reducible show wpAny _ _ (execs [] _) _ _ _); (k_here; (with_reducible refine gen_toks ?_); intro zztk)) | ((with_reducible show wpAny _ _ (execs (_ :: _) _) _ _ _); (k_here; (with_reducible refine wpAny_execs_cons ?_); (try dsimp only); k_fold)) | ((with_reducible show wpAny _ _ (call (Value.builtin "len") [_]) _ _ _); (k_dflt (refine' call_len_list (by is_list) (by (first | decide | (simp only [List.size_toArray]; omega) | (simp only [List.size_toArray, List.length_cons, List.length_append, List.length_map, List.length_nil, List.length_take, List.length_drop]; omega))) ?_))) | walk1) | (dsimp only; (first | ((with_reducible show wpAny _ _ (execs (_ :: _) _) _ _ _); (k_here; (with_reducible refine gen_toks ?_); intro zztk)) | ((with_reducible show wpAny _ _ (execs [] _) _ _ _); (k_here; (with_reducible refine gen_toks ?_); intro zztk)) | ((with_reducible show wpAny _ _ (execs (_ :: _) _) _ _ _); (k_here; (with_reducible refine wpAny_execs_cons ?_); (try dsimp only); k_fold)) | ((with_reducible show wpAny _ _ (call (Value.builtin "len") [_]) _ _ _); (k_dflt (refine' call_len_list (by is_list) (by (first | decide | (simp only [List.size_toArray]; omega) | (simp only [List.size_toArray, List.length_cons, List.length_append, List.length_map, List.length_nil, List.length_take, List.length_drop]; omega))) ?_))) | walk1))) | fail "no step"))
    · (rename Fr _ _ _ _ => FF)
      refine hQ' _ _ _ FF.keep ?_
      rw [decide_eq_true_eq]
      exact ⟨fun q => ⟨by omega, .inr (by omega)⟩, fun q => by obtain ⟨_, q | q⟩ := q; exact absurd rfl q; omega⟩
    · (rename Fr _ _ _ _ => FF)
      refine hQ' _ _ _ FF.keep ?_
      rw [decide_eq_true_eq]
      exact ⟨fun q => by omega, fun q => by have := q.1; omega⟩
  · (repeat' (first | (k_unfold; (try dsimp only)) | ((( (fail_if_success (with_reducible show wpAny _ _ (pyIter _) _ _ _)); (fail_if_success (with_reducible show wpAny _ _ (exec (Stmt.While _ _ _ _) _) _ _ _)))); (( (fail_if_success (with_reducible show wpAny _ _ (eval (Expr.ListComp _ _ _ _) _) _ _ _)); (fail_if_success (with_reducible show wpAny _ _ (exec (Stmt.Assign _ (Expr.ListComp _ _ _ _) _) _) _ _ _)); (fail_if_success (with_reducible show LCg.CompSrc _ _ _ _ _ _ _ _ _ _ _ _ _ _)))); first | (first | ((with_reducible show wpAny _ _ (execs (_ :: _) _) _ _ _); (k_here; (with_reducible refine gen_toks ?_); intro zztk)) | ((with_reducible show wpAny _ _ (execs [] _) _ _ _); (k_here; (with_reducible refine gen_toks ?_); intro zztk)) | ((with_reducible show wpAny _ _ (execs (_ :: _) _) _ _ _); (k_here; (with_reducible refine wpAny_execs_cons ?_); (try dsimp only); k_fold)) | ((with_reducible show wpAny _ _ (call (Value.builtin "len") [_]) _ _ _); (k_dflt (refine' call_len_list (by is_list) (by (first | decide | (simp only [List.size_toArray]; omega) | (simp only [List.size_toArray, List.length_cons, List.length_append, List.length_map, List.length_nil, List.length_take, List.length_drop]; omega))) ?_))) | walk1) | (dsimp only; (first | ((with_reducible show wpAny _ _ (execs (_ :: _) _) _ _ _); (k_here; (with_reducible refine gen_toks ?_); intro zztk)) | ((with_reducible show wpAny _ _ (execs [] _) _ _ _); (k_here; (with_reducible refine gen_toks ?_); intro zztk)) | ((with_reducible show wpAny _ _ (execs (_ :: _) _) _ _ _); (k_here; (with_reducible refine wpAny_execs_cons ?_); (try dsimp only); k_fold)) | ((with_reducible show wpAny _ _ (call (Value.builtin "len") [_]) _ _ _); (k_dflt (refine' call_len_list (by is_list) (by (first | decide | (simp only [List.size_toArray]; omega) | (simp only [List.size_toArray, List.length_cons, List.length_append, List.length_map, List.length_nil, List.length_take, List.length_drop]; omega))) ?_))) | walk1))) | fail "no step"))
    · (rename Fr _ _ _ _ => FF)
      exact hQ' _ _ _ FF.keep ⟨fun _ => ⟨by omega, .inl (by intro q; cases q)⟩, fun _ => rfl⟩
    · (rename Fr _ _ _ _ => FF)
      refine hQ' _ _ _ FF.keep ?_
      rw [decide_eq_true_eq]
      exact ⟨fun q => by omega, fun q => by have := q.1; omega⟩
end

theorem zz_reset_NpTry : True := by
  w_top off
  exact trivial
open PySem PySem.W PyProof.Rows PySem.Calls
theorem seed_frag_try : hd.heap_39 = hd.heap_39 ∧ PySem.Challenge.rw_np0012_01 = PySem.Challenge.rw_np0012_01 := by
  k_fill
  exact ⟨rfl, rfl⟩

theorem same_body {K : Frag} {f : Addr} {name qual : Str} {params : Arguments} {body : List Stmt} {scope : Scope} {dV kV doc pm cdv ct oc : Value} {an od : Option Addr} {osl : Array (Option Value)} {name' qual' : Str} {params' : Arguments} {body' : List Stmt} {scope' : Scope} {dV' kV' doc' pm' cdv' ct' oc' : Value} {an' od' : Option Addr} {osl' : Array (Option Value)}
    (h : K.lookup f = some ⟨oc, od, .func (fnOf name qual params body scope dV kV doc pm an cdv ct), osl⟩) (h' : K.lookup f = some ⟨oc', od', .func (fnOf name' qual' params' body' scope' dV' kV' doc' pm' an' cdv' ct'), osl'⟩) :
    qual = qual' ∧ body = body' ∧ scope = scope' ∧ cdv = cdv' := by
  rw [h] at h'
  simp only [Option.some.injEq, Obj.mk.injEq, Data.func.injEq, FuncData.mk.injEq, FuncBody.stmts.injEq] at h'
  obtain ⟨_, _, ⟨_, e1, _, e2, e3, _, _, _, _, _, _, _, e4, _⟩, _⟩ := h'
  exact ⟨e1, e2, e3, e4⟩
theorem same_elim {G : Prop} {K : Frag} {f : Addr} {name qual : Str} {params : Arguments} {body : List Stmt} {scope : Scope} {dV kV doc pm cdv ct oc : Value} {an od : Option Addr} {osl : Array (Option Value)} {name' qual' : Str} {params' : Arguments} {body' : List Stmt} {scope' : Scope} {dV' kV' doc' pm' cdv' ct' oc' : Value} {an' od' : Option Addr} {osl' : Array (Option Value)}
    (h : K.lookup f = some ⟨oc, od, .func (fnOf name qual params body scope dV kV doc pm an cdv ct), osl⟩) (h' : K.lookup f = some ⟨oc', od', .func (fnOf name' qual' params' body' scope' dV' kV' doc' pm' an' cdv' ct'), osl'⟩)
    (k : qual = qual' → body = body' → scope = scope' → cdv = cdv' → G) : G := let ⟨a, b, c, d⟩ := same_body h h'; k a b c d

theorem eq_one {prog : Program} {w : World} {A : Around} {E : Value → Shared → Prop} {s : Shared} {h₀ : Heap} {L a b : Addr} {news : List (Addr × Obj)} {f : Value} {c c2 : Nat} {sl : Array (Option Value)} {Q : Value → Shared → Prop}
    (N : News h₀ L s.heap news) (m1 : (a, ({ listOf [f].toArray c with slots := sl } : Obj)) ∈ news) (m2 : (b, listOf [f].toArray c2) ∈ news) (hu : A.units < cLine) (h : Q (.bool true) s) : wpAny (model prog w) A (compareOp .Eq (.ref a) (.ref b)) Q E s :=
  SeqAt.eq_listAt (e := fun _ => true) ⟨_, (N _ m1).1, rfl, _, rfl⟩ ⟨_, (N _ m2).1, rfl, _, rfl⟩ rfl hu (fun j h1 h2 => by
    have : j = 0 := by simpa using h1
    subst this
    exact SeqAt.EqAt.same _) h
def EqMark : Prop := True

set_option maxHeartbeats 4000000 in
theorem law_try {w : World} {prog : Program} {dp un : Nat} {gd : Option (List Code)} {s : Shared} {Q : Flow → Shared → Prop} {E : Value → Shared → Prop} {h₀ : Heap} {L : Addr} {m : Str → Option Value} {news : List (Addr × Obj)}
    {name qual : Str} {params : Arguments} {body : List Stmt} {scope : Scope} {dV kV doc pm cdv ct oc : Value} {an od : Option Addr} {osl : Array (Option Value)}
    (hlaw : (hd.heap_39 w.params).lookup 184 = some ⟨oc, od, .func (fnOf name qual params body scope dV kV doc pm an cdv ct), osl⟩)
    (B : Base w h₀) (F : Fr h₀ L s.heap m) (N : News h₀ L s.heap news) (hd : dp ≤ 500) (hu : un ≤ 500) {dv fv duev : Value}
    (e1 : m (Str.ofString "datum") = some dv) (e2 : m (Str.ofString "function") = some fv) (e3 : m (Str.ofString "due") = some duev) {tail : Value} {zs : List Value} {ws : List Str}
    (ht : tail = .ref 57 ∨ ∃ t, tail = .int 7 t) (hl : LstAt (fun a o => (a, o) ∈ news) tail dv zs) (hi : ItemsAre (fun a o => (a, o) ∈ news) zs ws) (hz : zs.length ≤ 100) (hfh : handedIn fv = true) (hNr : handedIn dv = true)
    (hbad : (tail = .ref 57 → Str.ofString "7" ∈ ws ∨ rdl ws [] [] none 0 = none) → duev = .none)
    (hQ : ∀ h' tk m', Fr h₀ L h' m' → Q (.ret (.bool true)) { s with heap := h', toks := tk })
    (hnext : ∀ nd op rs zn zo rv x dx nl ol k1 t1 k2 t2 k3 t3 c1 c2 h' tk m', tail = .ref 57 → Str.ofString "7" ∉ ws → rdl ws [] [] none 0 = some (nd, op, rs) → ItemsAre (fun a o => (a, o) ∈ news) zn nd → ItemsAre (fun a o => (a, o) ∈ news) zo op → RestIs (fun a o => (a, o) ∈ news) rv rs →
      m' (Str.ofString "told_own") = some (.ref x) → m' (Str.ofString "due") = some duev → Fr h₀ L h' m' → News h₀ L h' ((x, instObj 132 dx) :: (dx, dictOf [⟨k1, .str (Str.ofString "needed") t1, .ref nl⟩, ⟨k2, .str (Str.ofString "optional") t2, .ref ol⟩, ⟨k3, .str (Str.ofString "rest") t3, rv⟩] 3) :: (nl, listOf (List.toArray zn) c1) :: (ol, listOf (List.toArray zo) c2) :: news) →
      (∀ p ∈ news, p.1 ≠ x ∧ p.1 ≠ dx ∧ p.1 ≠ nl ∧ p.1 ≠ ol) → wpAny (model prog w) (Around.deeper (Ar dp (some []) gd un) (envOfC qual scope L 184 cdv)) (execs (body.drop 9) (envOfC qual scope L 184 cdv)) Q E { s with heap := h', toks := tk }) :
    wpAny (model prog w) (Around.deeper (Ar dp (some []) gd un) (envOfC qual scope L 184 cdv)) (execs (body.drop 8) (envOfC qual scope L 184 cdv)) Q E s := by
  k_dflt (refine' same_elim hlaw ?h' ?_; (case h' => k_is))
  intro q1 q2 q3 q4
  subst q1 q2 q3 q4
  have X := B.X
  have F₂ := fr_know (fr_know (fr_know F (a := Str.ofString "datum") (x := dv) e1) (a := Str.ofString "function") (x := fv) e2) (a := Str.ofString "due") (x := duev) e3
  obtain ⟨p, loose, mean, mg, mb, T⟩ := B.T
  dsimp only [List.drop]
  (repeat' (first | (k_unfold; (try dsimp only)) | ((( (fail_if_success (with_reducible show wpAny _ _ (pyIter _) _ _ _)); (fail_if_success (with_reducible show wpAny _ _ (exec (Stmt.While _ _ _ _) _) _ _ _)))); (( (fail_if_success (with_reducible show wpAny _ _ (eval (Expr.ListComp _ _ _ _) _) _ _ _)); (fail_if_success (with_reducible show wpAny _ _ (exec (Stmt.Assign _ (Expr.ListComp _ _ _ _) _) _) _ _ _)); (fail_if_success (with_reducible show LCg.CompSrc _ _ _ _ _ _ _ _ _ _ _ _ _ _)))); first | (first | ((with_reducible show wpAny _ _ (execs [] _) _ _ _); (k_here; (with_reducible refine gen_toks ?_); intro zztk)) | ((with_reducible show wpAny _ _ (execs (_ :: _) _) _ _ _); (k_here; (with_reducible refine gen_toks ?_); intro zztk)) | ((with_reducible show wpAny _ _ (execs (_ :: _) _) _ _ _); (k_here; (with_reducible refine wpAny_execs_cons ?_); (try dsimp only); k_fold)) | ((with_reducible show wpAny _ _ (compareOp CmpOp.Eq (Value.ref _) (Value.ref _)) _ _ _); (k_here; (with_reducible rename EqMark => zzhEqM); k_dflt (refine' eq_one (by k_asm) (by k_mem) (by k_mem) (by ((have zzhcL := cLine_is; (try simp only [units_under_make, units_in1, units_deeper, Around.mark_units, units_caller]); (try dsimp only [Ar]); omega))) ?_))) | walk1) | (dsimp only; (first | ((with_reducible show wpAny _ _ (execs [] _) _ _ _); (k_here; (with_reducible refine gen_toks ?_); intro zztk)) | ((with_reducible show wpAny _ _ (execs (_ :: _) _) _ _ _); (k_here; (with_reducible refine gen_toks ?_); intro zztk)) | ((with_reducible show wpAny _ _ (execs (_ :: _) _) _ _ _); (k_here; (with_reducible refine wpAny_execs_cons ?_); (try dsimp only); k_fold)) | ((with_reducible show wpAny _ _ (compareOp CmpOp.Eq (Value.ref _) (Value.ref _)) _ _ _); (k_here; (with_reducible rename EqMark => zzhEqM); k_dflt (refine' eq_one (by k_asm) (by k_mem) (by k_mem) (by ((have zzhcL := cLine_is; (try simp only [units_under_make, units_in1, units_deeper, Around.mark_units, units_caller]); (try dsimp only [Ar]); omega))) ?_))) | walk1))) | fail "no step"))
  refine wpAny_Try_except ?_
  (repeat' (first | (k_unfold; (try dsimp only)) | ((( (fail_if_success (with_reducible show wpAny _ _ (pyIter _) _ _ _)); (fail_if_success (with_reducible show wpAny _ _ (exec (Stmt.While _ _ _ _) _) _ _ _)))); (( (fail_if_success (with_reducible show wpAny _ _ (eval (Expr.ListComp _ _ _ _) _) _ _ _)); (fail_if_success (with_reducible show wpAny _ _ (exec (Stmt.Assign _ (Expr.ListComp _ _ _ _) _) _) _ _ _)); (fail_if_success (with_reducible show LCg.CompSrc _ _ _ _ _ _ _ _ _ _ _ _ _ _)))); first | (first | ((with_reducible show wpAny _ _ (execs [] _) _ _ _); (k_here; (with_reducible refine gen_toks ?_); intro zztk)) | ((with_reducible show wpAny _ _ (execs (_ :: _) _) _ _ _); (k_here; (with_reducible refine gen_toks ?_); intro zztk)) | ((with_reducible show wpAny _ _ (execs (_ :: _) _) _ _ _); (k_here; (with_reducible refine wpAny_execs_cons ?_); (try dsimp only); k_fold)) | ((with_reducible show wpAny _ _ (compareOp CmpOp.Eq (Value.ref _) (Value.ref _)) _ _ _); (k_here; (with_reducible rename EqMark => zzhEqM); k_dflt (refine' eq_one (by k_asm) (by k_mem) (by k_mem) (by ((have zzhcL := cLine_is; (try simp only [units_under_make, units_in1, units_deeper, Around.mark_units, units_caller]); (try dsimp only [Ar]); omega))) ?_))) | walk1) | (dsimp only; (first | ((with_reducible show wpAny _ _ (execs [] _) _ _ _); (k_here; (with_reducible refine gen_toks ?_); intro zztk)) | ((with_reducible show wpAny _ _ (execs (_ :: _) _) _ _ _); (k_here; (with_reducible refine gen_toks ?_); intro zztk)) | ((with_reducible show wpAny _ _ (execs (_ :: _) _) _ _ _); (k_here; (with_reducible refine wpAny_execs_cons ?_); (try dsimp only); k_fold)) | ((with_reducible show wpAny _ _ (compareOp CmpOp.Eq (Value.ref _) (Value.ref _)) _ _ _); (k_here; (with_reducible rename EqMark => zzhEqM); k_dflt (refine' eq_one (by k_asm) (by k_mem) (by k_mem) (by ((have zzhcL := cLine_is; (try simp only [units_under_make, units_in1, units_deeper, Around.mark_units, units_caller]); (try dsimp only [Ar]); omega))) ?_))) | walk1))) | fail "no step"))
  (rename Fr _ _ _ _ => F3); (rename News _ _ _ _ => N3)
  have hFF : ∀ {env0 : Env}, env0.frame = some L → env0.scope.kind ≠ .module → ∀ {h : Heap} {m : Str → Option Value}, Fr h₀ L h m → h.FunFrames (hideAll h [L]) [env0] := fun {env0} hfrm hkind {h m} F' => by
    obtain ⟨o, es, ep, g1, g2, _⟩ := F'.ns
    exact ⟨hkind, ⟨L, o, hfrm, hideAll_none _ (.head _), g1, fun vs q => by rw [g2] at q; cases q⟩, trivial⟩
  have hst : ∀ h : Heap, (hideAll h [L]).StaysIn h := fun h b o q => of_hideAll _ q
  have hin : ∀ a o, (a, o) ∈ news → At _ a o := fun a o q => (N3 _ q).1
  k_dflt (refine' rll_spec (outer := [_]) (base := hideAll _ [L]) (P := fun a o => (a, o) ∈ news) (B.keeps F3.keep) ?d ?u ?ff (hst _) ht (hl.mono hin) hi hin hz ?_ ?_)
  case d => k_room
  case u => ((have hcL := cLine_is; (try simp only [units_under_make, units_in1, units_deeper, Around.mark_units, units_caller]); (try dsimp only [Ar]); omega))
  case ff => exact hFF rfl (by intro q; cases q) F3
  · intro nd op rs zn zo rv x dx nl ol k1 t1 k2 t2 k3 t3 c1 c2 h' tk a1 a2 a3 a4 a5 a6 a7 a8
    have F4 := fr_kept F3 a7
    have N4 := news_news F3 a8 (news_kept N3 a7)
    have hne : ∀ p ∈ news, p.1 ≠ x ∧ p.1 ≠ dx ∧ p.1 ≠ nl ∧ p.1 ≠ ol := fun p hp => by
      have g := (N3 p hp).1
      have n1 := (a8 _ (.head _)).2
      have n2 := (a8 _ (.tail _ (.head _))).2
      have n3 := (a8 _ (.tail _ (.tail _ (.head _)))).2
      have n4 := (a8 _ (.tail _ (.tail _ (.tail _ (.head _))))).2
      refine ⟨?_, ?_, ?_, ?_⟩ <;> (intro q; rw [q] at g; first | (rw [n1] at g; cases g) | (rw [n2] at g; cases g) | (rw [n3] at g; cases g) | (rw [n4] at g; cases g))
    simp only [List.cons_append, List.nil_append] at N4
    clear F3 N3
    (repeat' (first | (k_unfold; (try dsimp only)) | ((( (fail_if_success (with_reducible show wpAny _ _ (pyIter _) _ _ _)); (fail_if_success (with_reducible show wpAny _ _ (exec (Stmt.While _ _ _ _) _) _ _ _)))); (( (fail_if_success (with_reducible show wpAny _ _ (eval (Expr.ListComp _ _ _ _) _) _ _ _)); (fail_if_success (with_reducible show wpAny _ _ (exec (Stmt.Assign _ (Expr.ListComp _ _ _ _) _) _) _ _ _)); (fail_if_success (with_reducible show LCg.CompSrc _ _ _ _ _ _ _ _ _ _ _ _ _ _)))); (fail_if_success (with_reducible show wpAny _ _ (execs (Stmt.If (Expr.Compare (Expr.Name (PySem.Str.ofString "due") _) _ _ _) _ _ _ :: _) _) _ _ _)); first | (first | ((with_reducible show wpAny _ _ (execs [] _) _ _ _); (k_here; (with_reducible refine gen_toks ?_); intro zztk)) | ((with_reducible show wpAny _ _ (execs (_ :: _) _) _ _ _); (k_here; (with_reducible refine gen_toks ?_); intro zztk)) | ((with_reducible show wpAny _ _ (execs (_ :: _) _) _ _ _); (k_here; (with_reducible refine wpAny_execs_cons ?_); (try dsimp only); k_fold)) | ((with_reducible show wpAny _ _ (compareOp CmpOp.Eq (Value.ref _) (Value.ref _)) _ _ _); (k_here; (with_reducible rename EqMark => zzhEqM); k_dflt (refine' eq_one (by k_asm) (by k_mem) (by k_mem) (by ((have zzhcL := cLine_is; (try simp only [units_under_make, units_in1, units_deeper, Around.mark_units, units_caller]); (try dsimp only [Ar]); omega))) ?_))) | walk1) | (dsimp only; (first | ((with_reducible show wpAny _ _ (execs [] _) _ _ _); (k_here; (with_reducible refine gen_toks ?_); intro zztk)) | ((with_reducible show wpAny _ _ (execs (_ :: _) _) _ _ _); (k_here; (with_reducible refine gen_toks ?_); intro zztk)) | ((with_reducible show wpAny _ _ (execs (_ :: _) _) _ _ _); (k_here; (with_reducible refine wpAny_execs_cons ?_); (try dsimp only); k_fold)) | ((with_reducible show wpAny _ _ (compareOp CmpOp.Eq (Value.ref _) (Value.ref _)) _ _ _); (k_here; (with_reducible rename EqMark => zzhEqM); k_dflt (refine' eq_one (by k_asm) (by k_mem) (by k_mem) (by ((have zzhcL := cLine_is; (try simp only [units_under_make, units_in1, units_deeper, Around.mark_units, units_caller]); (try dsimp only [Ar]); omega))) ?_))) | walk1))) | fail "no step"))
    (rename Fr _ _ _ _ => F5); (rename News _ _ _ _ => N5)
    exact hnext nd op rs zn zo rv x dx nl ol _ _ _ _ _ _ _ _ _ _ _ a1 a2 a3 a4 a5 a6 rfl rfl F5 N5 hne
  · intro e d l c tk' h' tk hc W u hd0 hl0 n1 g1
    refine wing_note (Around.frames_deeper rfl) rfl W fun h₄ W₄ u₄ => wing_off W₄ fun h₅ W₅ u₅ => ?_
    have u5 : Heap.UpToSlots _ h₅ := u.trans (u₄.trans u₅)
    have hb0 : ∀ b o, h₀.get? b = some o → (hideAll _ [L]).get? b = some o := fun b o q => hideAll_get _ (F3.keep _ _ q) (by
      intro hm; rw [List.mem_singleton.mp hm] at q; rw [Heap.get?_none_of_le F3.above] at q; cases q)
    have F5 : Fr h₀ L h₅ _ := ⟨u5.ns F3.ns, fun b o q => W₅.1 _ _ (hb0 b o q), F3.above⟩
    have due0 : duev = .none := hbad hc
    subst due0
    have N5 : News h₀ L h₅ [] := News.nil
    have n5 := (u₄.trans u₅).ns n1
    obtain ⟨sl, g1⟩ := g1
    obtain ⟨sl5, g5⟩ := (u₄.trans u₅) _ _ g1 (by intro vs q; cases q)
    obtain ⟨_, he0, _, oe, vs, T, oT, ts, ge, ⟨hce, hde⟩, hdt, _⟩ := id W₅
    refine wpAny_handleBy_cons (codeAny_handlers_test ?_) (by intro q; cases q)
    clear F3 N3
    (repeat' (first | (k_unfold; (try dsimp only)) | ((( (fail_if_success (with_reducible show wpAny _ _ (pyIter _) _ _ _)); (fail_if_success (with_reducible show wpAny _ _ (exec (Stmt.While _ _ _ _) _) _ _ _)))); (( (fail_if_success (with_reducible show wpAny _ _ (eval (Expr.ListComp _ _ _ _) _) _ _ _)); (fail_if_success (with_reducible show wpAny _ _ (exec (Stmt.Assign _ (Expr.ListComp _ _ _ _) _) _) _ _ _)); (fail_if_success (with_reducible show LCg.CompSrc _ _ _ _ _ _ _ _ _ _ _ _ _ _)))); first | (first | ((with_reducible show wpAny _ _ (execs [] _) _ _ _); (k_here; (with_reducible refine gen_toks ?_); intro zztk)) | ((with_reducible show wpAny _ _ (execs (_ :: _) _) _ _ _); (k_here; (with_reducible refine gen_toks ?_); intro zztk)) | ((with_reducible show wpAny _ _ (execs (_ :: _) _) _ _ _); (k_here; (with_reducible refine wpAny_execs_cons ?_); (try dsimp only); k_fold)) | ((with_reducible show wpAny _ _ (compareOp CmpOp.Eq (Value.ref _) (Value.ref _)) _ _ _); (k_here; (with_reducible rename EqMark => zzhEqM); k_dflt (refine' eq_one (by k_asm) (by k_mem) (by k_mem) (by ((have zzhcL := cLine_is; (try simp only [units_under_make, units_in1, units_deeper, Around.mark_units, units_caller]); (try dsimp only [Ar]); omega))) ?_))) | walk1) | (dsimp only; (first | ((with_reducible show wpAny _ _ (execs [] _) _ _ _); (k_here; (with_reducible refine gen_toks ?_); intro zztk)) | ((with_reducible show wpAny _ _ (execs (_ :: _) _) _ _ _); (k_here; (with_reducible refine gen_toks ?_); intro zztk)) | ((with_reducible show wpAny _ _ (execs (_ :: _) _) _ _ _); (k_here; (with_reducible refine wpAny_execs_cons ?_); (try dsimp only); k_fold)) | ((with_reducible show wpAny _ _ (compareOp CmpOp.Eq (Value.ref _) (Value.ref _)) _ _ _); (k_here; (with_reducible rename EqMark => zzhEqM); k_dflt (refine' eq_one (by k_asm) (by k_mem) (by k_mem) (by ((have zzhcL := cLine_is; (try simp only [units_under_make, units_in1, units_deeper, Around.mark_units, units_caller]); (try dsimp only [Ar]); omega))) ?_))) | walk1))) | fail "no step"))
    (rename Fr _ _ _ _ => F6)
    obtain ⟨⟨nm, q, bs, sn, sub, ab, col, dd, k0, k1, k2, k3, k5, mN, hC, hn, hi', hsy, hda, hsa, hga, hgt⟩, _⟩ := sig_at (X.keeps F6.keep)
    refine wpAny_excMatches_sub_self hC ge hce (by decide +kernel) ?_
    refine codeAny_handlers_suite_as ?_
    refine wing_off W₅ fun h₆ W₆ u₆ => ?_
    have F7 : Fr h₀ L h₆ _ := ⟨u₆.ns F6.ns, fun b o q => W₆.1 _ _ (hb0 b o q), F6.above⟩
    obtain ⟨_, _, _, oe6, vs6, _, _, _, ge6, ⟨hce6, hde6⟩, hdt6, _⟩ := id W₆
    obtain ⟨od6, es6, ep6, gd6, ddt6, hk6, hf6⟩ := u₆.ns n5
    obtain ⟨sl7, g7⟩ := u₆ _ _ g5 (by intro vs q; cases q)
    have up0 : ∀ {b : Addr}, (hideAll _ [L]).get? b = none → h₀.get? b = none := fun {b} q => by
      cases z : h₀.get? b with
      | none => rfl
      | some o => rw [hb0 _ _ z] at q; cases q
    obtain ⟨oL, esL, epL, gL, dL, kL, fL⟩ := F7.ns
    have eL : e ≠ L := by rintro rfl; rw [ge6] at gL; cases gL; rw [hdt6] at dL; cases dL
    have lL : l ≠ L := by rintro rfl; rw [g7] at gL; cases gL; cases dL
    have dL' : d ≠ L := by
      rintro rfl
      rw [gd6] at gL; cases gL
      rw [ddt6] at dL; cases dL
      have h1 := hf6 (Str.ofString "due")
      have h2 := fL (Str.ofString "due")
      rw [h1] at h2
      dsimp only at h2
      rw [if_neg (by decide +kernel), if_neg (by decide +kernel), if_pos rfl] at h2
      cases h2
    have v1 : nsFind es6 (Str.ofString "symbol") = some (.str (Str.ofString "invalid-function") tk') := by
      rw [hf6]; dsimp only; rw [if_neg (by decide +kernel), if_pos rfl]
    have v2 : nsFind es6 (Str.ofString "data") = some (.ref l) := by
      rw [hf6]; dsimp only; rw [if_pos rfl]
    have N7 : News h₀ L h₆ [(e, oe6), (d, od6), (l, _)] := List.forall_mem_cons.mpr ⟨⟨ge6, eL, up0 he0⟩, List.forall_mem_cons.mpr ⟨⟨gd6, dL', up0 hd0⟩, List.forall_mem_cons.mpr ⟨⟨g7, lL, up0 hl0⟩, News.nil⟩⟩⟩
    have hnc : ∀ c, oe6.data ≠ .cls c := by intro c q; rw [hdt6] at q; cases q
    clear F6
    (repeat' (first | (k_unfold; (try dsimp only)) | ((( (fail_if_success (with_reducible show wpAny _ _ (pyIter _) _ _ _)); (fail_if_success (with_reducible show wpAny _ _ (exec (Stmt.While _ _ _ _) _) _ _ _)))); (( (fail_if_success (with_reducible show wpAny _ _ (eval (Expr.ListComp _ _ _ _) _) _ _ _)); (fail_if_success (with_reducible show wpAny _ _ (exec (Stmt.Assign _ (Expr.ListComp _ _ _ _) _) _) _ _ _)); (fail_if_success (with_reducible show LCg.CompSrc _ _ _ _ _ _ _ _ _ _ _ _ _ _)))); first | (first | ((with_reducible show wpAny _ _ (execs [] _) _ _ _); (k_here; (with_reducible refine gen_toks ?_); intro zztk)) | ((with_reducible show wpAny _ _ (execs (_ :: _) _) _ _ _); (k_here; (with_reducible refine gen_toks ?_); intro zztk)) | ((with_reducible show wpAny _ _ (execs (_ :: _) _) _ _ _); (k_here; (with_reducible refine wpAny_execs_cons ?_); (try dsimp only); k_fold)) | ((with_reducible show wpAny _ _ (compareOp CmpOp.Eq (Value.ref _) (Value.ref _)) _ _ _); (k_here; (with_reducible rename EqMark => zzhEqM); k_dflt (refine' eq_one (by k_asm) (by k_mem) (by k_mem) (by ((have zzhcL := cLine_is; (try simp only [units_under_make, units_in1, units_deeper, Around.mark_units, units_caller]); (try dsimp only [Ar]); omega))) ?_))) | walk1) | (dsimp only; (first | ((with_reducible show wpAny _ _ (execs [] _) _ _ _); (k_here; (with_reducible refine gen_toks ?_); intro zztk)) | ((with_reducible show wpAny _ _ (execs (_ :: _) _) _ _ _); (k_here; (with_reducible refine gen_toks ?_); intro zztk)) | ((with_reducible show wpAny _ _ (execs (_ :: _) _) _ _ _); (k_here; (with_reducible refine wpAny_execs_cons ?_); (try dsimp only); k_fold)) | ((with_reducible show wpAny _ _ (compareOp CmpOp.Eq (Value.ref _) (Value.ref _)) _ _ _); (k_here; (with_reducible rename EqMark => zzhEqM); k_dflt (refine' eq_one (by k_asm) (by k_mem) (by k_mem) (by ((have zzhcL := cLine_is; (try simp only [units_under_make, units_in1, units_deeper, Around.mark_units, units_caller]); (try dsimp only [Ar]); omega))) ?_))) | walk1))) | fail "no step"))
    (rename Fr _ _ _ _ => F8); (rename News _ _ _ _ => N8)
    obtain ⟨⟨nm, q, bs, sn, sub, ab, col, dd, k0, k1, k2, k3, k5, mN, hC, hn, hi', hsy, hda, hsa, hga, hgt⟩, _⟩ := sig_at (X.keeps F8.keep)
    refine exc_attr PySem.F.attrBase_Exception hC hn hsy hga hgt (exc_no (by decide +kernel)) (N8 _ (.head _)).1 hce6 hnc hde6 ⟨od6, es6, ep6, (N8 _ (.tail _ (.head _))).1, ddt6, hk6, fun _ => rfl⟩ v1 rfl ?_
    (repeat' (first | (k_unfold; (try dsimp only)) | ((( (fail_if_success (with_reducible show wpAny _ _ (pyIter _) _ _ _)); (fail_if_success (with_reducible show wpAny _ _ (exec (Stmt.While _ _ _ _) _) _ _ _)))); (( (fail_if_success (with_reducible show wpAny _ _ (eval (Expr.ListComp _ _ _ _) _) _ _ _)); (fail_if_success (with_reducible show wpAny _ _ (exec (Stmt.Assign _ (Expr.ListComp _ _ _ _) _) _) _ _ _)); (fail_if_success (with_reducible show LCg.CompSrc _ _ _ _ _ _ _ _ _ _ _ _ _ _)))); first | (first | ((with_reducible show wpAny _ _ (execs [] _) _ _ _); (k_here; (with_reducible refine gen_toks ?_); intro zztk)) | ((with_reducible show wpAny _ _ (execs (_ :: _) _) _ _ _); (k_here; (with_reducible refine gen_toks ?_); intro zztk)) | ((with_reducible show wpAny _ _ (execs (_ :: _) _) _ _ _); (k_here; (with_reducible refine wpAny_execs_cons ?_); (try dsimp only); k_fold)) | ((with_reducible show wpAny _ _ (compareOp CmpOp.Eq (Value.ref _) (Value.ref _)) _ _ _); (k_here; (with_reducible rename EqMark => zzhEqM); k_dflt (refine' eq_one (by k_asm) (by k_mem) (by k_mem) (by ((have zzhcL := cLine_is; (try simp only [units_under_make, units_in1, units_deeper, Around.mark_units, units_caller]); (try dsimp only [Ar]); omega))) ?_))) | walk1) | (dsimp only; (first | ((with_reducible show wpAny _ _ (execs [] _) _ _ _); (k_here; (with_reducible refine gen_toks ?_); intro zztk)) | ((with_reducible show wpAny _ _ (execs (_ :: _) _) _ _ _); (k_here; (with_reducible refine gen_toks ?_); intro zztk)) | ((with_reducible show wpAny _ _ (execs (_ :: _) _) _ _ _); (k_here; (with_reducible refine wpAny_execs_cons ?_); (try dsimp only); k_fold)) | ((with_reducible show wpAny _ _ (compareOp CmpOp.Eq (Value.ref _) (Value.ref _)) _ _ _); (k_here; (with_reducible rename EqMark => zzhEqM); k_dflt (refine' eq_one (by k_asm) (by k_mem) (by k_mem) (by ((have zzhcL := cLine_is; (try simp only [units_under_make, units_in1, units_deeper, Around.mark_units, units_caller]); (try dsimp only [Ar]); omega))) ?_))) | walk1))) | fail "no step"))
    (rename Fr _ _ _ _ => F9); (rename News _ _ _ _ => N9)
    refine exc_attr PySem.F.attrBase_Exception hC hn hda hga hgt (exc_no (by decide +kernel)) (N9 _ (.head _)).1 hce6 hnc hde6 ⟨od6, es6, ep6, (N9 _ (.tail _ (.head _))).1, ddt6, hk6, fun _ => rfl⟩ v2 rfl ?_
    have hEqM : EqMark := trivial
    (repeat' (first | (k_unfold; (try dsimp only)) | ((( (fail_if_success (with_reducible show wpAny _ _ (pyIter _) _ _ _)); (fail_if_success (with_reducible show wpAny _ _ (exec (Stmt.While _ _ _ _) _) _ _ _)))); (( (fail_if_success (with_reducible show wpAny _ _ (eval (Expr.ListComp _ _ _ _) _) _ _ _)); (fail_if_success (with_reducible show wpAny _ _ (exec (Stmt.Assign _ (Expr.ListComp _ _ _ _) _) _) _ _ _)); (fail_if_success (with_reducible show LCg.CompSrc _ _ _ _ _ _ _ _ _ _ _ _ _ _)))); first | (first | ((with_reducible show wpAny _ _ (execs [] _) _ _ _); (k_here; (with_reducible refine gen_toks ?_); intro zztk)) | ((with_reducible show wpAny _ _ (execs (_ :: _) _) _ _ _); (k_here; (with_reducible refine gen_toks ?_); intro zztk)) | ((with_reducible show wpAny _ _ (execs (_ :: _) _) _ _ _); (k_here; (with_reducible refine wpAny_execs_cons ?_); (try dsimp only); k_fold)) | ((with_reducible show wpAny _ _ (compareOp CmpOp.Eq (Value.ref _) (Value.ref _)) _ _ _); (k_here; (with_reducible rename EqMark => zzhEqM); k_dflt (refine' eq_one (by k_asm) (by k_mem) (by k_mem) (by ((have zzhcL := cLine_is; (try simp only [units_under_make, units_in1, units_deeper, Around.mark_units, units_caller]); (try dsimp only [Ar]); omega))) ?_))) | walk1) | (dsimp only; (first | ((with_reducible show wpAny _ _ (execs [] _) _ _ _); (k_here; (with_reducible refine gen_toks ?_); intro zztk)) | ((with_reducible show wpAny _ _ (execs (_ :: _) _) _ _ _); (k_here; (with_reducible refine gen_toks ?_); intro zztk)) | ((with_reducible show wpAny _ _ (execs (_ :: _) _) _ _ _); (k_here; (with_reducible refine wpAny_execs_cons ?_); (try dsimp only); k_fold)) | ((with_reducible show wpAny _ _ (compareOp CmpOp.Eq (Value.ref _) (Value.ref _)) _ _ _); (k_here; (with_reducible rename EqMark => zzhEqM); k_dflt (refine' eq_one (by k_asm) (by k_mem) (by k_mem) (by ((have zzhcL := cLine_is; (try simp only [units_under_make, units_in1, units_deeper, Around.mark_units, units_caller]); (try dsimp only [Ar]); omega))) ?_))) | walk1))) | fail "no step"))
    (rename Fr _ _ _ _ => FF)
    exact wpAny_nameGoes_keeps rfl FF.ns rfl fun h' v hn hs => hQ _ _ _ (FF.set hn hs)

theorem zz_reset_NpMid : True := by
  w_top off
  exact trivial
open PySem PySem.W PyProof.Rows PySem.Calls
theorem seed_frag_mid : hd.heap_39 = hd.heap_39 ∧ PySem.Challenge.rw_np0012_01 = PySem.Challenge.rw_np0012_01 := by
  k_fill
  exact ⟨rfl, rfl⟩

theorem w7_8 {x : Str} (h : x ∈ W7) : x ∈ W8 := by
  simp only [W7, W8, List.mem_cons, List.not_mem_nil, or_false] at h ⊢
  rcases h with rfl | rfl | rfl | rfl | rfl | rfl | rfl <;> simp
theorem w8_ok {x : Str} (h : x ∈ W8) : PyData.strOk x = true := by
  simp only [W8, List.mem_cons, List.not_mem_nil, or_false] at h
  rcases h with rfl | rfl | rfl | rfl | rfl | rfl | rfl | rfl <;> decide +kernel
theorem ItemsAre.w8 {P : Addr → Obj → Prop} {vs : List Value} {xs : List Str} (h : ItemsAre P vs xs) : ∀ x ∈ xs, x ∈ W8 := by
  induction h with
  | nil => exact fun _ h => nomatch h
  | cons h _ ih =>
    refine List.forall_mem_cons.mpr ⟨?_, ih⟩
    cases h with
    | seven => decide +kernel
    | sym _ _ h => exact w7_8 h
theorem lay_strs {xs : List Str} (h : ∀ x ∈ xs, x ∈ W8) : PyData.canLayAll0 (xs.map PyData.str) = true ∧ PyData.depthAll (xs.map PyData.str) = 0 := by
  induction xs with
  | nil => exact ⟨by simp [PyData.canLayAll0], by simp [PyData.depthAll]⟩
  | cons x r ih =>
    obtain ⟨h1, h2⟩ := ih fun y hy => h y (.tail _ hy)
    exact ⟨by simp [PyData.canLayAll0, PyData.canLay0, h1, w8_ok (h x (.head _))], by simp [PyData.depthAll, PyData.depth, h2]⟩

section
variable {prog : Program} {w : World} {A : Around} {E : Value → Shared → Prop} {s : Shared} {Q : Value → Shared → Prop}
theorem ne_same {a b : Value} {d : PyData} {as bs : List Addr} (ra : Reads s.heap a d as) (rb : Reads s.heap b d bs) (h1 : d.canLay0 = true) (h2 : d.depth ≤ 64) (hu : A.units + 64 < cLine) (h : Q (.bool false) s) :
    wpAny (model prog w) A (compareOp .NotEq a b) Q E s := by
  have hs : SeqAt.shaped d = true := by show (d.canLay0 && decide (d.depth ≤ 64)) = true; rw [h1, decide_eq_true h2]; rfl
  refine ne_dataH ra rb hs hs hu ?_
  rw [SeqAt.eqv_refl d h1]; exact h
end
theorem readsAll_strs {h : Heap} : ∀ {vs : List Value} {xs : List Str}, StrsAre vs xs → ReadsAll h vs (xs.map PyData.str) []
  | _, _, .nil => .nil
  | _, _, .cons x t r => by
    have := ReadsAll.cons (Reads.str (h := h) x t) (readsAll_strs (h := h) r)
    simpa using this
theorem strs_snoc : ∀ {vs : List Value} {xs : List Str} {x : Str} {t : Nat}, StrsAre vs xs → StrsAre (vs ++ [.str x t]) (xs ++ [x])
  | _, _, _, _, .nil => .cons _ _ .nil
  | _, _, _, _, .cons _ _ r => .cons _ _ (strs_snoc r)

theorem inst_led {h₀ h : Heap} {L x C dx : Addr} {news : List (Addr × Obj)} {od : Obj} {sl : Array (Option Value)} (N : News h₀ L h news) (h1 : (x, (⟨.ref C, some dx, .plain, sl⟩ : Obj)) ∈ news) (h2 : (dx, od) ∈ news) :
    InstAt h x ⟨.ref C, some dx, .plain, sl⟩ C (some od) := ⟨(N _ h1).1, rfl, rfl, (N _ h2).1⟩
local macro_rules | `(tactic| k_inst) => `(tactic| (refine' inst_led ?N ?h1 ?h2; (case N => k_asm); (case h1 => (repeat (first | assumption | refine List.Mem.tail _ ?_))); (case h2 => (repeat (first | assumption | refine List.Mem.tail _ ?_)))))

theorem led_list {h₀ h : Heap} {L a : Addr} {news : List (Addr × Obj)} {its : Array Value} {c : Nat} (N : News h₀ L h news) (h1 : (a, listOf its c) ∈ news) : h.IsList a its := ⟨_, (N _ h1).1, rfl, _, rfl⟩

structure NamesJ (news : List (Addr × Obj)) (xs : List Str) (i : Nat) (ys : List Value) (nx : List (Addr × Obj)) : Prop where
  n : StrsAre ys (xs.take i)
  led : nx = news

theorem names_turn {P : Addr → Obj → Prop} {zs : List Value} {xs : List Str} {i : Nat} {v : Value} (hi : ItemsAre P zs xs) (hin : i < zs.toArray.size) (hv : zs.toArray[i]? = some v) : ∃ y, ItemIs P v y ∧ xs.take (i + 1) = xs.take i ++ [y] := by
  rw [List.size_toArray] at hin
  obtain ⟨v2, x2, q1, q2, q3⟩ := hi.get i hin
  rw [List.getElem?_toArray, q1] at hv
  cases hv
  exact ⟨x2, q3, by rw [List.take_add_one, q2]; rfl⟩

theorem reads_two {h : Heap} {q1 q2 q3 : Addr} {us uo : List Value} {nd op : List Str} {z1 z2 z3 : Nat} (g3 : h.get? q3 = some (listOf [Value.ref q1, Value.ref q2].toArray z3)) (g1 : h.get? q1 = some (listOf us.toArray z1)) (g2 : h.get? q2 = some (listOf uo.toArray z2)) (s1 : StrsAre us nd) (s2 : StrsAre uo op) :
    ∃ as, Reads h (.ref q3) (.list [.list (nd.map PyData.str), .list (op.map PyData.str)]) as := ⟨_, .list g3 rfl rfl (.cons (.list g1 rfl rfl (readsAll_strs s1)) (.cons (.list g2 rfl rfl (readsAll_strs s2)) .nil))⟩

theorem reads_ints {h : Heap} {q c t1 t2 : Nat} {n1 n2 : Int} (g : h.get? q = some { cls := .type "tuple", data := .seq #[.int n1 t1, .int n2 t2] c }) : Reads h (.ref q) (.tuple [.int n1, .int n2]) [] :=
  .tuple g rfl rfl (.cons (.int n1 t1) (.cons (.int n2 t2) .nil))

set_option maxHeartbeats 4000000 in
theorem law_mid {w : World} {prog : Program} {dp un : Nat} {gd : Option (List Code)} {s : Shared} {Q : Flow → Shared → Prop} {E : Value → Shared → Prop} {h₀ : Heap} {L : Addr} {m : Str → Option Value} {news : List (Addr × Obj)}
    {name qual : Str} {params : Arguments} {body : List Stmt} {scope : Scope} {dV kV doc pm cdv ct oc : Value} {an od : Option Addr} {osl : Array (Option Value)}
    (hlaw : (hd.heap_39 w.params).lookup 184 = some ⟨oc, od, .func (fnOf name qual params body scope dV kV doc pm an cdv ct), osl⟩)
    (B : Base w h₀) (hd : dp ≤ 500) (hu : un ≤ 500) {x dx nl ol tp a b : Addr} {k1 k2 k3 : Int} {t1 t2 t3 c1 c2 c3 c4 c5 : Nat} {zn zo vn vo : List Value} {nd op : List Str} {rs : Option Str} {rv rv2 : Value}
    (F : Fr h₀ L s.heap m) (N : News h₀ L s.heap ((x, instObj 132 dx) :: (dx, dictOf [⟨k1, .str (Str.ofString "needed") t1, .ref nl⟩, ⟨k2, .str (Str.ofString "optional") t2, .ref ol⟩, ⟨k3, .str (Str.ofString "rest") t3, rv⟩] 3) :: (nl, listOf (List.toArray zn) c1) :: (ol, listOf (List.toArray zo) c2) :: news))
    (e1 : m (Str.ofString "told_own") = some (.ref x)) (e2 : m (Str.ofString "due") = some (.ref tp))
    (hn : ItemsAre (fun a o => (a, o) ∈ news) zn nd) (ho : ItemsAre (fun a o => (a, o) ∈ news) zo op) (hr : RestIs (fun a o => (a, o) ∈ news) rv rs) (zn1 : zn.length ≤ 100) (zo1 : zo.length ≤ 100)
    (gt : (tp, ({ cls := .type "tuple", data := .seq #[.ref a, .ref b, rv2] c5 } : Obj)) ∈ news) (ga : (a, listOf vn.toArray c3) ∈ news) (gb : (b, listOf vo.toArray c4) ∈ news) (hvn : StrsAre vn nd) (hvo : StrsAre vo op) (hdr : DueR rv2 rs)
    (n7nd : ∀ y ∈ nd, y ≠ Str.ofString "7") (n7op : ∀ y ∈ op, y ≠ Str.ofString "7")
    (hnext : ∀ h' tk m', m' (Str.ofString "told_own") = some (.ref x) → m' (Str.ofString "needed_own") = some (.ref a) → m' (Str.ofString "optional_own") = some (.ref b) → m' (Str.ofString "rest") = some rv2 → Fr h₀ L h' m' →
      News h₀ L h' ((x, instObj 132 dx) :: (dx, dictOf [⟨k1, .str (Str.ofString "needed") t1, .ref nl⟩, ⟨k2, .str (Str.ofString "optional") t2, .ref ol⟩, ⟨k3, .str (Str.ofString "rest") t3, rv⟩] 3) :: (nl, listOf (List.toArray zn) c1) :: (ol, listOf (List.toArray zo) c2) :: news) →
      wpAny (model prog w) (Around.deeper (Ar dp (some []) gd un) (envOfC qual scope L 184 cdv)) (execs (body.drop 15) (envOfC qual scope L 184 cdv)) Q E { s with heap := h', toks := tk }) :
    wpAny (model prog w) (Around.deeper (Ar dp (some []) gd un) (envOfC qual scope L 184 cdv)) (execs (body.drop 9) (envOfC qual scope L 184 cdv)) Q E s := by
  k_dflt (refine' same_elim hlaw ?h' ?_; (case h' => k_is))
  intro q1 q2 q3 q4
  subst q1 q2 q3 q4
  have X := B.X
  have F₂ := fr_know (fr_know F (a := Str.ofString "told_own") (x := .ref x) e1) (a := Str.ofString "due") (x := .ref tp) e2
  obtain ⟨p, loose, mean, mg, mb, T⟩ := B.T
  dsimp only [List.drop]
  clear F
  (repeat' (first | (k_unfold; (try dsimp only)) | ((( (fail_if_success (with_reducible show wpAny _ _ (pyIter _) _ _ _)); (fail_if_success (with_reducible show wpAny _ _ (exec (Stmt.While _ _ _ _) _) _ _ _)))); (( (fail_if_success (with_reducible show wpAny _ _ (eval (Expr.ListComp _ _ _ _) _) _ _ _)); (fail_if_success (with_reducible show wpAny _ _ (exec (Stmt.Assign _ (Expr.ListComp _ _ _ _) _) _) _ _ _)); (fail_if_success (with_reducible show LCg.CompSrc _ _ _ _ _ _ _ _ _ _ _ _ _ _)))); (fail_if_success (with_reducible show wpAny _ _ (call (Prod.fst _) _) _ _ _)); (fail_if_success (with_reducible show wpAny _ _ (call (Value.ref 129) _) _ _ _)); (fail_if_success (with_reducible show wpAny _ _ (execs (Stmt.For _ _ _ _ _ :: _) _) _ _ _)); (fail_if_success (with_reducible show wpAny _ _ (compareOp CmpOp.NotEq (Value.ref _) (Value.ref _)) _ _ _)); first | (first | ((with_reducible show wpAny _ _ (execs [] _) _ _ _); (k_here; (with_reducible refine gen_toks ?_); intro zztk)) | ((with_reducible show wpAny _ _ (execs (_ :: _) _) _ _ _); (k_here; (with_reducible refine gen_toks ?_); intro zztk)) | ((with_reducible show wpAny _ _ (execs (_ :: _) _) _ _ _); (k_here; (with_reducible refine wpAny_execs_cons ?_); (try dsimp only); k_fold)) | ((with_reducible show wpAny _ _ (call (Value.builtin "len") [_]) _ _ _); ((rename News _ _ _ _ => zzlN'); k_dflt (refine' call_len_list (by exact led_list zzlN' (by (repeat (first | assumption | refine List.Mem.tail _ ?_)))) (by (first | decide | (simp only [List.size_toArray]; omega) | (simp only [List.size_toArray, List.length_cons, List.length_append, List.length_map, List.length_nil, List.length_take, List.length_drop]; omega))) ?_))) | walk1) | (dsimp only; (first | ((with_reducible show wpAny _ _ (execs [] _) _ _ _); (k_here; (with_reducible refine gen_toks ?_); intro zztk)) | ((with_reducible show wpAny _ _ (execs (_ :: _) _) _ _ _); (k_here; (with_reducible refine gen_toks ?_); intro zztk)) | ((with_reducible show wpAny _ _ (execs (_ :: _) _) _ _ _); (k_here; (with_reducible refine wpAny_execs_cons ?_); (try dsimp only); k_fold)) | ((with_reducible show wpAny _ _ (call (Value.builtin "len") [_]) _ _ _); ((rename News _ _ _ _ => zzlN'); k_dflt (refine' call_len_list (by exact led_list zzlN' (by (repeat (first | assumption | refine List.Mem.tail _ ?_)))) (by (first | decide | (simp only [List.size_toArray]; omega) | (simp only [List.size_toArray, List.length_cons, List.length_append, List.length_map, List.length_nil, List.length_take, List.length_drop]; omega))) ?_))) | walk1))) | fail "no step"))
  (rename Fr _ _ _ _ => F3); (rename News _ _ _ _ => N3)
  refine assign_Tuple_tuple rfl ⟨_, (N3 _ (.tail _ (.tail _ (.tail _ (.tail _ gt))))).1, rfl, _, rfl⟩ rfl rfl fun h₂ hx₂ => ?_
  have kp : Kept _ h₂ := fun b o q => hx₂ b o (Nat.ne_of_lt (Heap.lt_size q)) q
  have F4 := fr_kept F3 kp
  have N4 := news_kept N3 kp
  clear F3 N3 hx₂ kp
  (repeat' (first | (k_unfold; (try dsimp only)) | ((( (fail_if_success (with_reducible show wpAny _ _ (pyIter _) _ _ _)); (fail_if_success (with_reducible show wpAny _ _ (exec (Stmt.While _ _ _ _) _) _ _ _)))); (( (fail_if_success (with_reducible show wpAny _ _ (eval (Expr.ListComp _ _ _ _) _) _ _ _)); (fail_if_success (with_reducible show wpAny _ _ (exec (Stmt.Assign _ (Expr.ListComp _ _ _ _) _) _) _ _ _)); (fail_if_success (with_reducible show LCg.CompSrc _ _ _ _ _ _ _ _ _ _ _ _ _ _)))); (fail_if_success (with_reducible show wpAny _ _ (call (Prod.fst _) _) _ _ _)); (fail_if_success (with_reducible show wpAny _ _ (call (Value.ref 129) _) _ _ _)); (fail_if_success (with_reducible show wpAny _ _ (execs (Stmt.For _ _ _ _ _ :: _) _) _ _ _)); (fail_if_success (with_reducible show wpAny _ _ (compareOp CmpOp.NotEq (Value.ref _) (Value.ref _)) _ _ _)); first | (first | ((with_reducible show wpAny _ _ (execs [] _) _ _ _); (k_here; (with_reducible refine gen_toks ?_); intro zztk)) | ((with_reducible show wpAny _ _ (execs (_ :: _) _) _ _ _); (k_here; (with_reducible refine gen_toks ?_); intro zztk)) | ((with_reducible show wpAny _ _ (execs (_ :: _) _) _ _ _); (k_here; (with_reducible refine wpAny_execs_cons ?_); (try dsimp only); k_fold)) | ((with_reducible show wpAny _ _ (call (Value.builtin "len") [_]) _ _ _); ((rename News _ _ _ _ => zzlN'); k_dflt (refine' call_len_list (by exact led_list zzlN' (by (repeat (first | assumption | refine List.Mem.tail _ ?_)))) (by (first | decide | (simp only [List.size_toArray]; omega) | (simp only [List.size_toArray, List.length_cons, List.length_append, List.length_map, List.length_nil, List.length_take, List.length_drop]; omega))) ?_))) | walk1) | (dsimp only; (first | ((with_reducible show wpAny _ _ (execs [] _) _ _ _); (k_here; (with_reducible refine gen_toks ?_); intro zztk)) | ((with_reducible show wpAny _ _ (execs (_ :: _) _) _ _ _); (k_here; (with_reducible refine gen_toks ?_); intro zztk)) | ((with_reducible show wpAny _ _ (execs (_ :: _) _) _ _ _); (k_here; (with_reducible refine wpAny_execs_cons ?_); (try dsimp only); k_fold)) | ((with_reducible show wpAny _ _ (call (Value.builtin "len") [_]) _ _ _); ((rename News _ _ _ _ => zzlN'); k_dflt (refine' call_len_list (by exact led_list zzlN' (by (repeat (first | assumption | refine List.Mem.tail _ ?_)))) (by (first | decide | (simp only [List.size_toArray]; omega) | (simp only [List.size_toArray, List.length_cons, List.length_append, List.length_map, List.length_nil, List.length_take, List.length_drop]; omega))) ?_))) | walk1))) | fail "no step"))
  ((k_dflt (refine LCg.ListComp_U (F₀ := by k_asm) (by with_unfolding_all rfl) (by decide) (by rfl) (by decide) (by rfl) ?_)))
  (repeat' (first | (k_unfold; (try dsimp only)) | ((( (fail_if_success (with_reducible show wpAny _ _ (pyIter _) _ _ _)); (fail_if_success (with_reducible show wpAny _ _ (exec (Stmt.While _ _ _ _) _) _ _ _)))); (( (fail_if_success (with_reducible show wpAny _ _ (eval (Expr.ListComp _ _ _ _) _) _ _ _)); (fail_if_success (with_reducible show wpAny _ _ (exec (Stmt.Assign _ (Expr.ListComp _ _ _ _) _) _) _ _ _)); (fail_if_success (with_reducible show LCg.CompSrc _ _ _ _ _ _ _ _ _ _ _ _ _ _)))); first | (first | ((with_reducible show wpAny _ _ (execs [] _) _ _ _); (k_here; (with_reducible refine gen_toks ?_); intro zztk)) | ((with_reducible show wpAny _ _ (execs (_ :: _) _) _ _ _); (k_here; (with_reducible refine gen_toks ?_); intro zztk)) | ((with_reducible show wpAny _ _ (execs (_ :: _) _) _ _ _); (k_here; (with_reducible refine wpAny_execs_cons ?_); (try dsimp only); k_fold)) | ((with_reducible show wpAny _ _ (call (Value.builtin "len") [_]) _ _ _); ((rename News _ _ _ _ => zzlN'); k_dflt (refine' call_len_list (by exact led_list zzlN' (by (repeat (first | assumption | refine List.Mem.tail _ ?_)))) (by (first | decide | (simp only [List.size_toArray]; omega) | (simp only [List.size_toArray, List.length_cons, List.length_append, List.length_map, List.length_nil, List.length_take, List.length_drop]; omega))) ?_))) | walk1) | (dsimp only; (first | ((with_reducible show wpAny _ _ (execs [] _) _ _ _); (k_here; (with_reducible refine gen_toks ?_); intro zztk)) | ((with_reducible show wpAny _ _ (execs (_ :: _) _) _ _ _); (k_here; (with_reducible refine gen_toks ?_); intro zztk)) | ((with_reducible show wpAny _ _ (execs (_ :: _) _) _ _ _); (k_here; (with_reducible refine wpAny_execs_cons ?_); (try dsimp only); k_fold)) | ((with_reducible show wpAny _ _ (call (Value.builtin "len") [_]) _ _ _); ((rename News _ _ _ _ => zzlN'); k_dflt (refine' call_len_list (by exact led_list zzlN' (by (repeat (first | assumption | refine List.Mem.tail _ ?_)))) (by (first | decide | (simp only [List.size_toArray]; omega) | (simp only [List.size_toArray, List.length_cons, List.length_append, List.length_map, List.length_nil, List.length_take, List.length_drop]; omega))) ?_))) | walk1))) | fail "no step"))
  (rename Fr _ _ _ _ => F5); (rename News _ _ _ _ => N5)
  refine LCg.CompSrc.ledger rfl F5 N5 (ax := nl) (by k_mem) (by rw [sizeLine_eq, List.size_toArray]; omega) ?_
  intro g'
  refine rest_of (NamesJ _ nd) ⟨.nil, rfl⟩ ?_ ?_
  · rintro i ys nx v1 I oI C oC' D m₂ h tk E' hin ⟨hb, rfl⟩ hv hC hx F N off ne
    obtain ⟨y, hy, htk⟩ := names_turn hn hin hv
    cases hy with
    | seven => exact absurd rfl (n7nd _ (List.mem_of_mem_take (htk ▸ List.mem_append_right _ (.head _))))
    | sym p1 p2 p3 =>
      have p1' : (_, instObj 51 _) ∈ news := p1
      have p2' : (_, dictOf _ _) ∈ news := p2
      (repeat' (first | (k_unfold; (try dsimp only)) | ((( (fail_if_success (with_reducible show wpAny _ _ (pyIter _) _ _ _)); (fail_if_success (with_reducible show wpAny _ _ (exec (Stmt.While _ _ _ _) _) _ _ _)))); (( (fail_if_success (with_reducible show wpAny _ _ (eval (Expr.ListComp _ _ _ _) _) _ _ _)); (fail_if_success (with_reducible show wpAny _ _ (exec (Stmt.Assign _ (Expr.ListComp _ _ _ _) _) _) _ _ _)); (fail_if_success (with_reducible show LCg.CompSrc _ _ _ _ _ _ _ _ _ _ _ _ _ _)))); first | (first | ((with_reducible show wpAny _ _ (execs [] _) _ _ _); (k_here; (with_reducible refine gen_toks ?_); intro zztk)) | ((with_reducible show wpAny _ _ (execs (_ :: _) _) _ _ _); (k_here; (with_reducible refine gen_toks ?_); intro zztk)) | ((with_reducible show wpAny _ _ (execs (_ :: _) _) _ _ _); (k_here; (with_reducible refine wpAny_execs_cons ?_); (try dsimp only); k_fold)) | ((with_reducible show wpAny _ _ (call (Value.builtin "len") [_]) _ _ _); ((rename News _ _ _ _ => zzlN'); k_dflt (refine' call_len_list (by exact led_list zzlN' (by (repeat (first | assumption | refine List.Mem.tail _ ?_)))) (by (first | decide | (simp only [List.size_toArray]; omega) | (simp only [List.size_toArray, List.length_cons, List.length_append, List.length_map, List.length_nil, List.length_take, List.length_drop]; omega))) ?_))) | walk1) | (dsimp only; (first | ((with_reducible show wpAny _ _ (execs [] _) _ _ _); (k_here; (with_reducible refine gen_toks ?_); intro zztk)) | ((with_reducible show wpAny _ _ (execs (_ :: _) _) _ _ _); (k_here; (with_reducible refine gen_toks ?_); intro zztk)) | ((with_reducible show wpAny _ _ (execs (_ :: _) _) _ _ _); (k_here; (with_reducible refine wpAny_execs_cons ?_); (try dsimp only); k_fold)) | ((with_reducible show wpAny _ _ (call (Value.builtin "len") [_]) _ _ _); ((rename News _ _ _ _ => zzlN'); k_dflt (refine' call_len_list (by exact led_list zzlN' (by (repeat (first | assumption | refine List.Mem.tail _ ?_)))) (by (first | decide | (simp only [List.size_toArray]; omega) | (simp only [List.size_toArray, List.length_cons, List.length_append, List.length_map, List.length_nil, List.length_take, List.length_drop]; omega))) ?_))) | walk1))) | fail "no step"))
      (rename Fr _ _ _ _ => F6); (rename News _ _ _ _ => N6)
      exact LCg.CompEnd.intro F6 N6 _ (fun p hp => hp) off (.inr ⟨_, by k_mem, rfl, _, rfl⟩) ⟨by rw [htk]; exact strs_snoc hb, rfl⟩
  rintro ysnd nx ⟨hbnd, rfl⟩ Dnd h tk F N offnd
  rw [List.size_toArray, (hn).length, List.take_length] at hbnd
  simp only [LCg.Off1, and_true] at offnd
  clear F5 N5
  (repeat' (first | (k_unfold; (try dsimp only)) | ((( (fail_if_success (with_reducible show wpAny _ _ (pyIter _) _ _ _)); (fail_if_success (with_reducible show wpAny _ _ (exec (Stmt.While _ _ _ _) _) _ _ _)))); (( (fail_if_success (with_reducible show wpAny _ _ (eval (Expr.ListComp _ _ _ _) _) _ _ _)); (fail_if_success (with_reducible show wpAny _ _ (exec (Stmt.Assign _ (Expr.ListComp _ _ _ _) _) _) _ _ _)); (fail_if_success (with_reducible show LCg.CompSrc _ _ _ _ _ _ _ _ _ _ _ _ _ _)))); (fail_if_success (with_reducible show wpAny _ _ (call (Prod.fst _) _) _ _ _)); (fail_if_success (with_reducible show wpAny _ _ (call (Value.ref 129) _) _ _ _)); (fail_if_success (with_reducible show wpAny _ _ (execs (Stmt.For _ _ _ _ _ :: _) _) _ _ _)); (fail_if_success (with_reducible show wpAny _ _ (compareOp CmpOp.NotEq (Value.ref _) (Value.ref _)) _ _ _)); first | (first | ((with_reducible show wpAny _ _ (execs [] _) _ _ _); (k_here; (with_reducible refine gen_toks ?_); intro zztk)) | ((with_reducible show wpAny _ _ (execs (_ :: _) _) _ _ _); (k_here; (with_reducible refine gen_toks ?_); intro zztk)) | ((with_reducible show wpAny _ _ (execs (_ :: _) _) _ _ _); (k_here; (with_reducible refine wpAny_execs_cons ?_); (try dsimp only); k_fold)) | ((with_reducible show wpAny _ _ (call (Value.builtin "len") [_]) _ _ _); ((rename News _ _ _ _ => zzlN'); k_dflt (refine' call_len_list (by exact led_list zzlN' (by (repeat (first | assumption | refine List.Mem.tail _ ?_)))) (by (first | decide | (simp only [List.size_toArray]; omega) | (simp only [List.size_toArray, List.length_cons, List.length_append, List.length_map, List.length_nil, List.length_take, List.length_drop]; omega))) ?_))) | walk1) | (dsimp only; (first | ((with_reducible show wpAny _ _ (execs [] _) _ _ _); (k_here; (with_reducible refine gen_toks ?_); intro zztk)) | ((with_reducible show wpAny _ _ (execs (_ :: _) _) _ _ _); (k_here; (with_reducible refine gen_toks ?_); intro zztk)) | ((with_reducible show wpAny _ _ (execs (_ :: _) _) _ _ _); (k_here; (with_reducible refine wpAny_execs_cons ?_); (try dsimp only); k_fold)) | ((with_reducible show wpAny _ _ (call (Value.builtin "len") [_]) _ _ _); ((rename News _ _ _ _ => zzlN'); k_dflt (refine' call_len_list (by exact led_list zzlN' (by (repeat (first | assumption | refine List.Mem.tail _ ?_)))) (by (first | decide | (simp only [List.size_toArray]; omega) | (simp only [List.size_toArray, List.length_cons, List.length_append, List.length_map, List.length_nil, List.length_take, List.length_drop]; omega))) ?_))) | walk1))) | fail "no step"))
  ((k_dflt (refine LCg.ListComp_U (F₀ := by k_asm) (by with_unfolding_all rfl) (by decide) (by rfl) (by decide) (by rfl) ?_)))
  (repeat' (first | (k_unfold; (try dsimp only)) | ((( (fail_if_success (with_reducible show wpAny _ _ (pyIter _) _ _ _)); (fail_if_success (with_reducible show wpAny _ _ (exec (Stmt.While _ _ _ _) _) _ _ _)))); (( (fail_if_success (with_reducible show wpAny _ _ (eval (Expr.ListComp _ _ _ _) _) _ _ _)); (fail_if_success (with_reducible show wpAny _ _ (exec (Stmt.Assign _ (Expr.ListComp _ _ _ _) _) _) _ _ _)); (fail_if_success (with_reducible show LCg.CompSrc _ _ _ _ _ _ _ _ _ _ _ _ _ _)))); first | (first | ((with_reducible show wpAny _ _ (execs [] _) _ _ _); (k_here; (with_reducible refine gen_toks ?_); intro zztk)) | ((with_reducible show wpAny _ _ (execs (_ :: _) _) _ _ _); (k_here; (with_reducible refine gen_toks ?_); intro zztk)) | ((with_reducible show wpAny _ _ (execs (_ :: _) _) _ _ _); (k_here; (with_reducible refine wpAny_execs_cons ?_); (try dsimp only); k_fold)) | ((with_reducible show wpAny _ _ (call (Value.builtin "len") [_]) _ _ _); ((rename News _ _ _ _ => zzlN'); k_dflt (refine' call_len_list (by exact led_list zzlN' (by (repeat (first | assumption | refine List.Mem.tail _ ?_)))) (by (first | decide | (simp only [List.size_toArray]; omega) | (simp only [List.size_toArray, List.length_cons, List.length_append, List.length_map, List.length_nil, List.length_take, List.length_drop]; omega))) ?_))) | walk1) | (dsimp only; (first | ((with_reducible show wpAny _ _ (execs [] _) _ _ _); (k_here; (with_reducible refine gen_toks ?_); intro zztk)) | ((with_reducible show wpAny _ _ (execs (_ :: _) _) _ _ _); (k_here; (with_reducible refine gen_toks ?_); intro zztk)) | ((with_reducible show wpAny _ _ (execs (_ :: _) _) _ _ _); (k_here; (with_reducible refine wpAny_execs_cons ?_); (try dsimp only); k_fold)) | ((with_reducible show wpAny _ _ (call (Value.builtin "len") [_]) _ _ _); ((rename News _ _ _ _ => zzlN'); k_dflt (refine' call_len_list (by exact led_list zzlN' (by (repeat (first | assumption | refine List.Mem.tail _ ?_)))) (by (first | decide | (simp only [List.size_toArray]; omega) | (simp only [List.size_toArray, List.length_cons, List.length_append, List.length_map, List.length_nil, List.length_take, List.length_drop]; omega))) ?_))) | walk1))) | fail "no step"))
  (rename Fr _ _ _ _ => F5); (rename News _ _ _ _ => N5)
  refine LCg.CompSrc.ledger rfl F5 N5 (ax := ol) (by k_mem) (by rw [sizeLine_eq, List.size_toArray]; omega) ?_
  intro g'
  refine rest_of (NamesJ _ op) ⟨.nil, rfl⟩ ?_ ?_
  · rintro i ys nx v1 I oI C oC' D m₂ h tk E' hin ⟨hb, rfl⟩ hv hC hx F N off ne
    obtain ⟨y, hy, htk⟩ := names_turn ho hin hv
    cases hy with
    | seven => exact absurd rfl (n7op _ (List.mem_of_mem_take (htk ▸ List.mem_append_right _ (.head _))))
    | sym p1 p2 p3 =>
      have p1' : (_, instObj 51 _) ∈ news := p1
      have p2' : (_, dictOf _ _) ∈ news := p2
      (repeat' (first | (k_unfold; (try dsimp only)) | ((( (fail_if_success (with_reducible show wpAny _ _ (pyIter _) _ _ _)); (fail_if_success (with_reducible show wpAny _ _ (exec (Stmt.While _ _ _ _) _) _ _ _)))); (( (fail_if_success (with_reducible show wpAny _ _ (eval (Expr.ListComp _ _ _ _) _) _ _ _)); (fail_if_success (with_reducible show wpAny _ _ (exec (Stmt.Assign _ (Expr.ListComp _ _ _ _) _) _) _ _ _)); (fail_if_success (with_reducible show LCg.CompSrc _ _ _ _ _ _ _ _ _ _ _ _ _ _)))); first | (first | ((with_reducible show wpAny _ _ (execs [] _) _ _ _); (k_here; (with_reducible refine gen_toks ?_); intro zztk)) | ((with_reducible show wpAny _ _ (execs (_ :: _) _) _ _ _); (k_here; (with_reducible refine gen_toks ?_); intro zztk)) | ((with_reducible show wpAny _ _ (execs (_ :: _) _) _ _ _); (k_here; (with_reducible refine wpAny_execs_cons ?_); (try dsimp only); k_fold)) | ((with_reducible show wpAny _ _ (call (Value.builtin "len") [_]) _ _ _); ((rename News _ _ _ _ => zzlN'); k_dflt (refine' call_len_list (by exact led_list zzlN' (by (repeat (first | assumption | refine List.Mem.tail _ ?_)))) (by (first | decide | (simp only [List.size_toArray]; omega) | (simp only [List.size_toArray, List.length_cons, List.length_append, List.length_map, List.length_nil, List.length_take, List.length_drop]; omega))) ?_))) | walk1) | (dsimp only; (first | ((with_reducible show wpAny _ _ (execs [] _) _ _ _); (k_here; (with_reducible refine gen_toks ?_); intro zztk)) | ((with_reducible show wpAny _ _ (execs (_ :: _) _) _ _ _); (k_here; (with_reducible refine gen_toks ?_); intro zztk)) | ((with_reducible show wpAny _ _ (execs (_ :: _) _) _ _ _); (k_here; (with_reducible refine wpAny_execs_cons ?_); (try dsimp only); k_fold)) | ((with_reducible show wpAny _ _ (call (Value.builtin "len") [_]) _ _ _); ((rename News _ _ _ _ => zzlN'); k_dflt (refine' call_len_list (by exact led_list zzlN' (by (repeat (first | assumption | refine List.Mem.tail _ ?_)))) (by (first | decide | (simp only [List.size_toArray]; omega) | (simp only [List.size_toArray, List.length_cons, List.length_append, List.length_map, List.length_nil, List.length_take, List.length_drop]; omega))) ?_))) | walk1))) | fail "no step"))
      (rename Fr _ _ _ _ => F6); (rename News _ _ _ _ => N6)
      exact LCg.CompEnd.intro F6 N6 _ (fun p hp => hp) off (.inr ⟨_, by k_mem, rfl, _, rfl⟩) ⟨by rw [htk]; exact strs_snoc hb, rfl⟩
  rintro ysop nx ⟨hbop, rfl⟩ Dop h tk F N offop
  rw [List.size_toArray, (ho).length, List.take_length] at hbop
  simp only [LCg.Off1, and_true] at offop
  clear F5 N5
  (repeat' (first | (k_unfold; (try dsimp only)) | ((( (fail_if_success (with_reducible show wpAny _ _ (pyIter _) _ _ _)); (fail_if_success (with_reducible show wpAny _ _ (exec (Stmt.While _ _ _ _) _) _ _ _)))); (( (fail_if_success (with_reducible show wpAny _ _ (eval (Expr.ListComp _ _ _ _) _) _ _ _)); (fail_if_success (with_reducible show wpAny _ _ (exec (Stmt.Assign _ (Expr.ListComp _ _ _ _) _) _) _ _ _)); (fail_if_success (with_reducible show LCg.CompSrc _ _ _ _ _ _ _ _ _ _ _ _ _ _)))); (fail_if_success (with_reducible show wpAny _ _ (call (Prod.fst _) _) _ _ _)); (fail_if_success (with_reducible show wpAny _ _ (call (Value.ref 129) _) _ _ _)); (fail_if_success (with_reducible show wpAny _ _ (execs (Stmt.For _ _ _ _ _ :: _) _) _ _ _)); (fail_if_success (with_reducible show wpAny _ _ (compareOp CmpOp.NotEq (Value.ref _) (Value.ref _)) _ _ _)); first | (first | ((with_reducible show wpAny _ _ (execs [] _) _ _ _); (k_here; (with_reducible refine gen_toks ?_); intro zztk)) | ((with_reducible show wpAny _ _ (execs (_ :: _) _) _ _ _); (k_here; (with_reducible refine gen_toks ?_); intro zztk)) | ((with_reducible show wpAny _ _ (execs (_ :: _) _) _ _ _); (k_here; (with_reducible refine wpAny_execs_cons ?_); (try dsimp only); k_fold)) | ((with_reducible show wpAny _ _ (call (Value.builtin "len") [_]) _ _ _); ((rename News _ _ _ _ => zzlN'); k_dflt (refine' call_len_list (by exact led_list zzlN' (by (repeat (first | assumption | refine List.Mem.tail _ ?_)))) (by (first | decide | (simp only [List.size_toArray]; omega) | (simp only [List.size_toArray, List.length_cons, List.length_append, List.length_map, List.length_nil, List.length_take, List.length_drop]; omega))) ?_))) | walk1) | (dsimp only; (first | ((with_reducible show wpAny _ _ (execs [] _) _ _ _); (k_here; (with_reducible refine gen_toks ?_); intro zztk)) | ((with_reducible show wpAny _ _ (execs (_ :: _) _) _ _ _); (k_here; (with_reducible refine gen_toks ?_); intro zztk)) | ((with_reducible show wpAny _ _ (execs (_ :: _) _) _ _ _); (k_here; (with_reducible refine wpAny_execs_cons ?_); (try dsimp only); k_fold)) | ((with_reducible show wpAny _ _ (call (Value.builtin "len") [_]) _ _ _); ((rename News _ _ _ _ => zzlN'); k_dflt (refine' call_len_list (by exact led_list zzlN' (by (repeat (first | assumption | refine List.Mem.tail _ ?_)))) (by (first | decide | (simp only [List.size_toArray]; omega) | (simp only [List.size_toArray, List.length_cons, List.length_append, List.length_map, List.length_nil, List.length_take, List.length_drop]; omega))) ?_))) | walk1))) | fail "no step"))
  (rename Fr _ _ _ _ => F5); (rename News _ _ _ _ => N5)
  have w8n := hn.w8
  have w8o := ho.w8
  obtain ⟨as1, ra1⟩ := reads_two (N5 _ (.tail _ (.head _))).1 (N5 (Dnd, _) (by k_mem)).1 (N5 (Dop, _) (by k_mem)).1 hbnd hbop
  obtain ⟨as2, ra2⟩ := reads_two (N5 _ (.head _)).1 (N5 (a, listOf vn.toArray c3) (by (repeat (first | assumption | refine List.Mem.tail _ ?_)))).1 (N5 (b, listOf vo.toArray c4) (by (repeat (first | assumption | refine List.Mem.tail _ ?_)))).1 hvn hvo
  refine ne_same ra1 ra2 (by simp [PyData.canLay0, PyData.canLayAll0, (lay_strs w8n).1, (lay_strs w8o).1]) (by simp [PyData.depth, PyData.depthAll, (lay_strs w8n).2, (lay_strs w8o).2]) (by ((have hcL := cLine_is; (try simp only [units_under_make, units_in1, units_deeper, Around.mark_units, units_caller]); (try dsimp only [Ar]); omega))) ?_
  clear ra1 ra2
  have vn1 : vn.length ≤ 100 := by rw [StrsAre.length hvn, ← hn.length]; exact zn1
  have vo1 : vo.length ≤ 100 := by rw [StrsAre.length hvo, ← ho.length]; exact zo1
  have hri := hr
  have en : (vn.toArray.size : Int) = nd.length := by rw [List.size_toArray, StrsAre.length hvn]
  have eo : (vo.toArray.size : Int) = op.length := by rw [List.size_toArray, StrsAre.length hvo]
  rcases hdr with ⟨rfl, rfl⟩ | ⟨rx, rt, rfl, rfl⟩
  · cases hr
    (repeat' (first | (k_unfold; (try dsimp only)) | ((( (fail_if_success (with_reducible show wpAny _ _ (pyIter _) _ _ _)); (fail_if_success (with_reducible show wpAny _ _ (exec (Stmt.While _ _ _ _) _) _ _ _)))); (( (fail_if_success (with_reducible show wpAny _ _ (eval (Expr.ListComp _ _ _ _) _) _ _ _)); (fail_if_success (with_reducible show wpAny _ _ (exec (Stmt.Assign _ (Expr.ListComp _ _ _ _) _) _) _ _ _)); (fail_if_success (with_reducible show LCg.CompSrc _ _ _ _ _ _ _ _ _ _ _ _ _ _)))); (fail_if_success (with_reducible show wpAny _ _ (call (Prod.fst _) _) _ _ _)); (fail_if_success (with_reducible show wpAny _ _ (call (Value.ref 129) _) _ _ _)); (fail_if_success (with_reducible show wpAny _ _ (execs (Stmt.For _ _ _ _ _ :: _) _) _ _ _)); (fail_if_success (with_reducible show wpAny _ _ (compareOp CmpOp.NotEq (Value.ref _) (Value.ref _)) _ _ _)); first | (first | ((with_reducible show wpAny _ _ (execs [] _) _ _ _); (k_here; (with_reducible refine gen_toks ?_); intro zztk)) | ((with_reducible show wpAny _ _ (execs (_ :: _) _) _ _ _); (k_here; (with_reducible refine gen_toks ?_); intro zztk)) | ((with_reducible show wpAny _ _ (execs (_ :: _) _) _ _ _); (k_here; (with_reducible refine wpAny_execs_cons ?_); (try dsimp only); k_fold)) | ((with_reducible show wpAny _ _ (call (Value.builtin "len") [_]) _ _ _); ((rename News _ _ _ _ => zzlN'); k_dflt (refine' call_len_list (by exact led_list zzlN' (by (repeat (first | assumption | refine List.Mem.tail _ ?_)))) (by (first | decide | (simp only [List.size_toArray]; omega) | (simp only [List.size_toArray, List.length_cons, List.length_append, List.length_map, List.length_nil, List.length_take, List.length_drop]; omega))) ?_))) | walk1) | (dsimp only; (first | ((with_reducible show wpAny _ _ (execs [] _) _ _ _); (k_here; (with_reducible refine gen_toks ?_); intro zztk)) | ((with_reducible show wpAny _ _ (execs (_ :: _) _) _ _ _); (k_here; (with_reducible refine gen_toks ?_); intro zztk)) | ((with_reducible show wpAny _ _ (execs (_ :: _) _) _ _ _); (k_here; (with_reducible refine wpAny_execs_cons ?_); (try dsimp only); k_fold)) | ((with_reducible show wpAny _ _ (call (Value.builtin "len") [_]) _ _ _); ((rename News _ _ _ _ => zzlN'); k_dflt (refine' call_len_list (by exact led_list zzlN' (by (repeat (first | assumption | refine List.Mem.tail _ ?_)))) (by (first | decide | (simp only [List.size_toArray]; omega) | (simp only [List.size_toArray, List.length_cons, List.length_append, List.length_map, List.length_nil, List.length_take, List.length_drop]; omega))) ?_))) | walk1))) | fail "no step"))
    (rename Fr _ _ _ _ => F6); (rename News _ _ _ _ => N6)
    show wpAny _ _ (call (.ref 129) [.ref x]) _ _ _
    refine bounds_spec (B.keeps F6.keep) ?bd ?bu (N6 (x, _) (by k_mem)).1 (N6 (dx, _) (by k_mem)).1 (N6 (nl, _) (by k_mem)).1 (N6 (ol, _) (by k_mem)).1 hn ho hri zn1 zo1 ?_
    case bd => k_room
    case bu => ((have hcL := cLine_is; (try simp only [units_under_make, units_in1, units_deeper, Around.mark_units, units_caller]); (try dsimp only [Ar]); omega))
    intro tp2 c6 t6 t7 h6 tk6 kp6 g6 e6
    have F7 := fr_kept F6 kp6
    have N7 := news_new F6 e6 g6 (news_kept N6 kp6)
    clear F6 N6
    (repeat' (first | (k_unfold; (try dsimp only)) | ((( (fail_if_success (with_reducible show wpAny _ _ (pyIter _) _ _ _)); (fail_if_success (with_reducible show wpAny _ _ (exec (Stmt.While _ _ _ _) _) _ _ _)))); (( (fail_if_success (with_reducible show wpAny _ _ (eval (Expr.ListComp _ _ _ _) _) _ _ _)); (fail_if_success (with_reducible show wpAny _ _ (exec (Stmt.Assign _ (Expr.ListComp _ _ _ _) _) _) _ _ _)); (fail_if_success (with_reducible show LCg.CompSrc _ _ _ _ _ _ _ _ _ _ _ _ _ _)))); (fail_if_success (with_reducible show wpAny _ _ (call (Prod.fst _) _) _ _ _)); (fail_if_success (with_reducible show wpAny _ _ (call (Value.ref 129) _) _ _ _)); (fail_if_success (with_reducible show wpAny _ _ (execs (Stmt.For _ _ _ _ _ :: _) _) _ _ _)); (fail_if_success (with_reducible show wpAny _ _ (compareOp CmpOp.NotEq (Value.ref _) (Value.ref _)) _ _ _)); first | (first | ((with_reducible show wpAny _ _ (execs [] _) _ _ _); (k_here; (with_reducible refine gen_toks ?_); intro zztk)) | ((with_reducible show wpAny _ _ (execs (_ :: _) _) _ _ _); (k_here; (with_reducible refine gen_toks ?_); intro zztk)) | ((with_reducible show wpAny _ _ (execs (_ :: _) _) _ _ _); (k_here; (with_reducible refine wpAny_execs_cons ?_); (try dsimp only); k_fold)) | ((with_reducible show wpAny _ _ (call (Value.builtin "len") [_]) _ _ _); ((rename News _ _ _ _ => zzlN'); k_dflt (refine' call_len_list (by exact led_list zzlN' (by (repeat (first | assumption | refine List.Mem.tail _ ?_)))) (by (first | decide | (simp only [List.size_toArray]; omega) | (simp only [List.size_toArray, List.length_cons, List.length_append, List.length_map, List.length_nil, List.length_take, List.length_drop]; omega))) ?_))) | walk1) | (dsimp only; (first | ((with_reducible show wpAny _ _ (execs [] _) _ _ _); (k_here; (with_reducible refine gen_toks ?_); intro zztk)) | ((with_reducible show wpAny _ _ (execs (_ :: _) _) _ _ _); (k_here; (with_reducible refine gen_toks ?_); intro zztk)) | ((with_reducible show wpAny _ _ (execs (_ :: _) _) _ _ _); (k_here; (with_reducible refine wpAny_execs_cons ?_); (try dsimp only); k_fold)) | ((with_reducible show wpAny _ _ (call (Value.builtin "len") [_]) _ _ _); ((rename News _ _ _ _ => zzlN'); k_dflt (refine' call_len_list (by exact led_list zzlN' (by (repeat (first | assumption | refine List.Mem.tail _ ?_)))) (by (first | decide | (simp only [List.size_toArray]; omega) | (simp only [List.size_toArray, List.length_cons, List.length_append, List.length_map, List.length_nil, List.length_take, List.length_drop]; omega))) ?_))) | walk1))) | fail "no step"))
    (rename Fr _ _ _ _ => F8); (rename News _ _ _ _ => N8)
    have gq := (N8 _ (.head _)).1
    rw [en, eo] at gq
    refine ne_same (reads_ints (N8 (tp2, _) (by k_mem)).1) (reads_ints gq) rfl (by simp [PyData.depth, PyData.depthAll]) (by ((have hcL := cLine_is; (try simp only [units_under_make, units_in1, units_deeper, Around.mark_units, units_caller]); (try dsimp only [Ar]); omega))) ?_
    clear gq
    (repeat' (first | (k_unfold; (try dsimp only)) | ((( (fail_if_success (with_reducible show wpAny _ _ (pyIter _) _ _ _)); (fail_if_success (with_reducible show wpAny _ _ (exec (Stmt.While _ _ _ _) _) _ _ _)))); (( (fail_if_success (with_reducible show wpAny _ _ (eval (Expr.ListComp _ _ _ _) _) _ _ _)); (fail_if_success (with_reducible show wpAny _ _ (exec (Stmt.Assign _ (Expr.ListComp _ _ _ _) _) _) _ _ _)); (fail_if_success (with_reducible show LCg.CompSrc _ _ _ _ _ _ _ _ _ _ _ _ _ _)))); (fail_if_success (with_reducible show wpAny _ _ (call (Prod.fst _) _) _ _ _)); (fail_if_success (with_reducible show wpAny _ _ (call (Value.ref 129) _) _ _ _)); (fail_if_success (with_reducible show wpAny _ _ (execs (Stmt.For _ _ _ _ _ :: _) _) _ _ _)); (fail_if_success (with_reducible show wpAny _ _ (compareOp CmpOp.NotEq (Value.ref _) (Value.ref _)) _ _ _)); first | (first | ((with_reducible show wpAny _ _ (execs [] _) _ _ _); (k_here; (with_reducible refine gen_toks ?_); intro zztk)) | ((with_reducible show wpAny _ _ (execs (_ :: _) _) _ _ _); (k_here; (with_reducible refine gen_toks ?_); intro zztk)) | ((with_reducible show wpAny _ _ (execs (_ :: _) _) _ _ _); (k_here; (with_reducible refine wpAny_execs_cons ?_); (try dsimp only); k_fold)) | ((with_reducible show wpAny _ _ (call (Value.builtin "len") [_]) _ _ _); ((rename News _ _ _ _ => zzlN'); k_dflt (refine' call_len_list (by exact led_list zzlN' (by (repeat (first | assumption | refine List.Mem.tail _ ?_)))) (by (first | decide | (simp only [List.size_toArray]; omega) | (simp only [List.size_toArray, List.length_cons, List.length_append, List.length_map, List.length_nil, List.length_take, List.length_drop]; omega))) ?_))) | walk1) | (dsimp only; (first | ((with_reducible show wpAny _ _ (execs [] _) _ _ _); (k_here; (with_reducible refine gen_toks ?_); intro zztk)) | ((with_reducible show wpAny _ _ (execs (_ :: _) _) _ _ _); (k_here; (with_reducible refine gen_toks ?_); intro zztk)) | ((with_reducible show wpAny _ _ (execs (_ :: _) _) _ _ _); (k_here; (with_reducible refine wpAny_execs_cons ?_); (try dsimp only); k_fold)) | ((with_reducible show wpAny _ _ (call (Value.builtin "len") [_]) _ _ _); ((rename News _ _ _ _ => zzlN'); k_dflt (refine' call_len_list (by exact led_list zzlN' (by (repeat (first | assumption | refine List.Mem.tail _ ?_)))) (by (first | decide | (simp only [List.size_toArray]; omega) | (simp only [List.size_toArray, List.length_cons, List.length_append, List.length_map, List.length_nil, List.length_take, List.length_drop]; omega))) ?_))) | walk1))) | fail "no step"))
    (rename Fr _ _ _ _ => F9); (rename News _ _ _ _ => N9)
    exact hnext _ _ _ rfl rfl rfl rfl F9 (news_sub N9 fun p hp => by (repeat (first | exact hp | refine List.Mem.tail _ ?_)))
  · cases hr with
    | some hr1 hr2 =>
      cases hr1 with
      | seven => exact absurd rfl hr2
      | sym p1 p2 p3 =>
        have p1' : (_, instObj 51 _) ∈ news := p1
        have p2' : (_, dictOf _ _) ∈ news := p2
        (repeat' (first | (k_unfold; (try dsimp only)) | ((( (fail_if_success (with_reducible show wpAny _ _ (pyIter _) _ _ _)); (fail_if_success (with_reducible show wpAny _ _ (exec (Stmt.While _ _ _ _) _) _ _ _)))); (( (fail_if_success (with_reducible show wpAny _ _ (eval (Expr.ListComp _ _ _ _) _) _ _ _)); (fail_if_success (with_reducible show wpAny _ _ (exec (Stmt.Assign _ (Expr.ListComp _ _ _ _) _) _) _ _ _)); (fail_if_success (with_reducible show LCg.CompSrc _ _ _ _ _ _ _ _ _ _ _ _ _ _)))); (fail_if_success (with_reducible show wpAny _ _ (call (Prod.fst _) _) _ _ _)); (fail_if_success (with_reducible show wpAny _ _ (call (Value.ref 129) _) _ _ _)); (fail_if_success (with_reducible show wpAny _ _ (execs (Stmt.For _ _ _ _ _ :: _) _) _ _ _)); (fail_if_success (with_reducible show wpAny _ _ (compareOp CmpOp.NotEq (Value.ref _) (Value.ref _)) _ _ _)); first | (first | ((with_reducible show wpAny _ _ (execs [] _) _ _ _); (k_here; (with_reducible refine gen_toks ?_); intro zztk)) | ((with_reducible show wpAny _ _ (execs (_ :: _) _) _ _ _); (k_here; (with_reducible refine gen_toks ?_); intro zztk)) | ((with_reducible show wpAny _ _ (execs (_ :: _) _) _ _ _); (k_here; (with_reducible refine wpAny_execs_cons ?_); (try dsimp only); k_fold)) | ((with_reducible show wpAny _ _ (call (Value.builtin "len") [_]) _ _ _); ((rename News _ _ _ _ => zzlN'); k_dflt (refine' call_len_list (by exact led_list zzlN' (by (repeat (first | assumption | refine List.Mem.tail _ ?_)))) (by (first | decide | (simp only [List.size_toArray]; omega) | (simp only [List.size_toArray, List.length_cons, List.length_append, List.length_map, List.length_nil, List.length_take, List.length_drop]; omega))) ?_))) | walk1) | (dsimp only; (first | ((with_reducible show wpAny _ _ (execs [] _) _ _ _); (k_here; (with_reducible refine gen_toks ?_); intro zztk)) | ((with_reducible show wpAny _ _ (execs (_ :: _) _) _ _ _); (k_here; (with_reducible refine gen_toks ?_); intro zztk)) | ((with_reducible show wpAny _ _ (execs (_ :: _) _) _ _ _); (k_here; (with_reducible refine wpAny_execs_cons ?_); (try dsimp only); k_fold)) | ((with_reducible show wpAny _ _ (call (Value.builtin "len") [_]) _ _ _); ((rename News _ _ _ _ => zzlN'); k_dflt (refine' call_len_list (by exact led_list zzlN' (by (repeat (first | assumption | refine List.Mem.tail _ ?_)))) (by (first | decide | (simp only [List.size_toArray]; omega) | (simp only [List.size_toArray, List.length_cons, List.length_append, List.length_map, List.length_nil, List.length_take, List.length_drop]; omega))) ?_))) | walk1))) | fail "no step"))
        · exfalso; (rename _ = true => ha); simp at ha
        (rename Fr _ _ _ _ => F6); (rename News _ _ _ _ => N6)
        show wpAny _ _ (call (.ref 129) [.ref x]) _ _ _
        refine bounds_spec (B.keeps F6.keep) ?bd ?bu (N6 (x, _) (by k_mem)).1 (N6 (dx, _) (by k_mem)).1 (N6 (nl, _) (by k_mem)).1 (N6 (ol, _) (by k_mem)).1 hn ho hri zn1 zo1 ?_
        case bd => k_room
        case bu => ((have hcL := cLine_is; (try simp only [units_under_make, units_in1, units_deeper, Around.mark_units, units_caller]); (try dsimp only [Ar]); omega))
        intro tp2 c6 t6 t7 h6 tk6 kp6 g6 e6
        have F7 := fr_kept F6 kp6
        have N7 := news_new F6 e6 g6 (news_kept N6 kp6)
        clear F6 N6
        (repeat' (first | (k_unfold; (try dsimp only)) | ((( (fail_if_success (with_reducible show wpAny _ _ (pyIter _) _ _ _)); (fail_if_success (with_reducible show wpAny _ _ (exec (Stmt.While _ _ _ _) _) _ _ _)))); (( (fail_if_success (with_reducible show wpAny _ _ (eval (Expr.ListComp _ _ _ _) _) _ _ _)); (fail_if_success (with_reducible show wpAny _ _ (exec (Stmt.Assign _ (Expr.ListComp _ _ _ _) _) _) _ _ _)); (fail_if_success (with_reducible show LCg.CompSrc _ _ _ _ _ _ _ _ _ _ _ _ _ _)))); (fail_if_success (with_reducible show wpAny _ _ (call (Prod.fst _) _) _ _ _)); (fail_if_success (with_reducible show wpAny _ _ (call (Value.ref 129) _) _ _ _)); (fail_if_success (with_reducible show wpAny _ _ (execs (Stmt.For _ _ _ _ _ :: _) _) _ _ _)); (fail_if_success (with_reducible show wpAny _ _ (compareOp CmpOp.NotEq (Value.ref _) (Value.ref _)) _ _ _)); first | (first | ((with_reducible show wpAny _ _ (execs [] _) _ _ _); (k_here; (with_reducible refine gen_toks ?_); intro zztk)) | ((with_reducible show wpAny _ _ (execs (_ :: _) _) _ _ _); (k_here; (with_reducible refine gen_toks ?_); intro zztk)) | ((with_reducible show wpAny _ _ (execs (_ :: _) _) _ _ _); (k_here; (with_reducible refine wpAny_execs_cons ?_); (try dsimp only); k_fold)) | ((with_reducible show wpAny _ _ (call (Value.builtin "len") [_]) _ _ _); ((rename News _ _ _ _ => zzlN'); k_dflt (refine' call_len_list (by exact led_list zzlN' (by (repeat (first | assumption | refine List.Mem.tail _ ?_)))) (by (first | decide | (simp only [List.size_toArray]; omega) | (simp only [List.size_toArray, List.length_cons, List.length_append, List.length_map, List.length_nil, List.length_take, List.length_drop]; omega))) ?_))) | walk1) | (dsimp only; (first | ((with_reducible show wpAny _ _ (execs [] _) _ _ _); (k_here; (with_reducible refine gen_toks ?_); intro zztk)) | ((with_reducible show wpAny _ _ (execs (_ :: _) _) _ _ _); (k_here; (with_reducible refine gen_toks ?_); intro zztk)) | ((with_reducible show wpAny _ _ (execs (_ :: _) _) _ _ _); (k_here; (with_reducible refine wpAny_execs_cons ?_); (try dsimp only); k_fold)) | ((with_reducible show wpAny _ _ (call (Value.builtin "len") [_]) _ _ _); ((rename News _ _ _ _ => zzlN'); k_dflt (refine' call_len_list (by exact led_list zzlN' (by (repeat (first | assumption | refine List.Mem.tail _ ?_)))) (by (first | decide | (simp only [List.size_toArray]; omega) | (simp only [List.size_toArray, List.length_cons, List.length_append, List.length_map, List.length_nil, List.length_take, List.length_drop]; omega))) ?_))) | walk1))) | fail "no step"))
        (rename Fr _ _ _ _ => F8); (rename News _ _ _ _ => N8)
        have gq := (N8 _ (.head _)).1
        rw [en] at gq
        refine ne_same (reads_ints (N8 (tp2, _) (by k_mem)).1) (reads_ints gq) rfl (by simp [PyData.depth, PyData.depthAll]) (by ((have hcL := cLine_is; (try simp only [units_under_make, units_in1, units_deeper, Around.mark_units, units_caller]); (try dsimp only [Ar]); omega))) ?_
        clear gq
        (repeat' (first | (k_unfold; (try dsimp only)) | ((( (fail_if_success (with_reducible show wpAny _ _ (pyIter _) _ _ _)); (fail_if_success (with_reducible show wpAny _ _ (exec (Stmt.While _ _ _ _) _) _ _ _)))); (( (fail_if_success (with_reducible show wpAny _ _ (eval (Expr.ListComp _ _ _ _) _) _ _ _)); (fail_if_success (with_reducible show wpAny _ _ (exec (Stmt.Assign _ (Expr.ListComp _ _ _ _) _) _) _ _ _)); (fail_if_success (with_reducible show LCg.CompSrc _ _ _ _ _ _ _ _ _ _ _ _ _ _)))); (fail_if_success (with_reducible show wpAny _ _ (call (Prod.fst _) _) _ _ _)); (fail_if_success (with_reducible show wpAny _ _ (call (Value.ref 129) _) _ _ _)); (fail_if_success (with_reducible show wpAny _ _ (execs (Stmt.For _ _ _ _ _ :: _) _) _ _ _)); (fail_if_success (with_reducible show wpAny _ _ (compareOp CmpOp.NotEq (Value.ref _) (Value.ref _)) _ _ _)); first | (first | ((with_reducible show wpAny _ _ (execs [] _) _ _ _); (k_here; (with_reducible refine gen_toks ?_); intro zztk)) | ((with_reducible show wpAny _ _ (execs (_ :: _) _) _ _ _); (k_here; (with_reducible refine gen_toks ?_); intro zztk)) | ((with_reducible show wpAny _ _ (execs (_ :: _) _) _ _ _); (k_here; (with_reducible refine wpAny_execs_cons ?_); (try dsimp only); k_fold)) | ((with_reducible show wpAny _ _ (call (Value.builtin "len") [_]) _ _ _); ((rename News _ _ _ _ => zzlN'); k_dflt (refine' call_len_list (by exact led_list zzlN' (by (repeat (first | assumption | refine List.Mem.tail _ ?_)))) (by (first | decide | (simp only [List.size_toArray]; omega) | (simp only [List.size_toArray, List.length_cons, List.length_append, List.length_map, List.length_nil, List.length_take, List.length_drop]; omega))) ?_))) | walk1) | (dsimp only; (first | ((with_reducible show wpAny _ _ (execs [] _) _ _ _); (k_here; (with_reducible refine gen_toks ?_); intro zztk)) | ((with_reducible show wpAny _ _ (execs (_ :: _) _) _ _ _); (k_here; (with_reducible refine gen_toks ?_); intro zztk)) | ((with_reducible show wpAny _ _ (execs (_ :: _) _) _ _ _); (k_here; (with_reducible refine wpAny_execs_cons ?_); (try dsimp only); k_fold)) | ((with_reducible show wpAny _ _ (call (Value.builtin "len") [_]) _ _ _); ((rename News _ _ _ _ => zzlN'); k_dflt (refine' call_len_list (by exact led_list zzlN' (by (repeat (first | assumption | refine List.Mem.tail _ ?_)))) (by (first | decide | (simp only [List.size_toArray]; omega) | (simp only [List.size_toArray, List.length_cons, List.length_append, List.length_map, List.length_nil, List.length_take, List.length_drop]; omega))) ?_))) | walk1))) | fail "no step"))
        (rename Fr _ _ _ _ => F9); (rename News _ _ _ _ => N9)
        exact hnext _ _ _ rfl rfl rfl rfl F9 (news_sub N9 fun p hp => by (repeat (first | exact hp | refine List.Mem.tail _ ?_)))

theorem zz_reset_NpFor : True := by
  w_top off
  exact trivial
open PySem PySem.W PyProof.Rows PySem.Calls
section
variable {prog : Program} {w : World} {A : Around} {E : Value → Shared → Prop} {s : Shared} {env : Env} {h₀ : Heap}

def RgEnd (h₀ : Heap) (L : Addr) (J : (Str → Option Value) → List (Addr × Obj) → Prop) (I : Addr) (oI : Obj) (s₁ : Shared) (f : Flow) (s₂ : Shared) : Prop :=
  f = .next ∧ ∃ h' tk m' nx, s₂ = { s₁ with heap := h', toks := tk } ∧ Fr h₀ L h' m' ∧ News h₀ L h' ((I, oI) :: nx) ∧ (∀ p ∈ nx, p.1 ≠ I) ∧ J m' nx

theorem loopAt_range {x : Str} {px : Pos} {body : List Stmt} {Q : Flow → Shared → Prop} {r : Addr} {t u v : Tok} {n : Nat} {m : Str → Option Value} {news : List (Addr × Obj)} (J : Nat → (Str → Option Value) → List (Addr × Obj) → Prop)
    (hh : A.handled = none) (hr : IsRange s.heap r 0 (n : Int) 1 t u v) (hn : n ≤ 1000) (F : Fr h₀ env.locals s.heap m) (N : News h₀ env.locals s.heap news) (h0 : J 0 m news)
    (turn : ∀ i t m₁ nx s₁ I oI, i < n → J i m₁ nx → (∀ p ∈ nx, p.1 ≠ I) → Fr h₀ env.locals s₁.heap m₁ → News h₀ env.locals s₁.heap ((I, oI) :: nx) →
      wpAny (model prog w) A (assign (.Name x px) env (.int (i : Int) t)) (fun _ s₃ => wpAny (model prog w) A (execs body env) (RgEnd h₀ env.locals (J (i + 1)) I oI s₁) E s₃) E s₁)
    (done : ∀ h' tk m' nx, Fr h₀ env.locals h' m' → News h₀ env.locals h' nx → J n m' nx → Q .next { s with heap := h', toks := tk }) :
    wpAny (model prog w) A (pyIter (.ref r)) (fun it s₂ => LoopAtT prog w A h₀ env (.Name x px) body Q E it s₂) E s := by
  refine wpAny_pyIter_range hr (small_one (by omega) (by omega) (by omega) (by omega)) ?_
  have up : ∀ b o, s.heap.get? b = some o → (s.heap.push { cls := .type "range_iterator", data := .fields #[rawInt 0, rawInt (Builtin.Range.rangeSize 0 (n : Int) 1), rawInt 1] }).get? b = some o := fun b o e => Heap.get?_push_of_some _ e
  refine ⟨_, [s.heap.objs.size], [s.heap.objs.size], n, _, _, m, news, J, rfl, LCg.range_walks hh 0 n, ?_, ?_, ?_, ?_, F.keeps up, N.grown up, ?_, h0, ?_, ?_⟩
  · intro hm; exact absurd F.ns.lt ((List.mem_singleton.mp hm) ▸ Nat.lt_irrefl _)
  · intro b hb; rw [List.mem_singleton.mp hb]; exact next_is_new F
  · intro p hp hm; exact Nat.ne_of_lt (Heap.lt_size (N p hp).1) (List.mem_singleton.mp hm)
  · show IsRangeIter _ _ _ _ _
    rw [rangeSize_nat]; simpa using Heap.get?_push_size _ rfl
  · intro i s' v Q' _ hQ'; exact wpAny_pure hQ'
  · intro i v m₁ nx s₁ own hi hP hJ hnx ho1 ho2 ho3 hst F₁ N₁
    obtain ⟨t', rfl⟩ := hP
    obtain ⟨oI, gI⟩ : ∃ oI, s₁.heap.get? s.heap.objs.size = some oI := ⟨_, hst⟩
    have mI := ho3 _ (List.mem_singleton.mpr rfl) (next_is_new F) _ gI
    have hoff : ∀ p ∈ nx, p.1 ≠ s.heap.objs.size := fun p hp q => hnx p hp (List.mem_singleton.mpr q)
    have e : (0 : Int) + (i : Int) = (i : Int) := by omega
    rw [e]
    refine wpAny_mono (turn i t' m₁ nx s₁ s.heap.objs.size oI hi hJ hoff F₁ (List.forall_mem_cons.mpr ⟨N₁ _ (List.mem_append_left _ mI), fun p hp => N₁ p (List.mem_append_right _ hp)⟩)) (fun _ s₃ q => wpAny_mono q (fun f s₄ z => ?_) fun _ _ q => q) fun _ _ q => q
    obtain ⟨rfl, h', tk, m', nx', rfl, F', N', off', J'⟩ := z
    refine ⟨rfl, h', tk, m', nx', rfl, F', fun p hp => ?_, fun p hp hm => off' p hp (List.mem_singleton.mp hm), J'⟩
    rcases List.mem_append.mp hp with hp | hp
    · have e1 := List.mem_singleton.mp (ho1 p hp)
      have e2 := ho2 p hp
      obtain ⟨p1, p2⟩ := p
      dsimp only at e1 e2
      subst e1
      rw [gI] at e2; cases e2
      exact N' _ (.head _)
    · exact N' p (.tail _ hp)
  · intro h' tk m' nx F' N' _ hJ
    exact done h' tk m' nx F' N' hJ

end

theorem zz_reset_NpFit : True := by
  w_top off
  exact trivial
open PySem PySem.W PyProof.Rows PySem.Calls
theorem seed_frag_fit : hd.heap_39 = hd.heap_39 ∧ PySem.Challenge.rw_np0012_01 = PySem.Challenge.rw_np0012_01 := by
  k_fill
  exact ⟨rfl, rfl⟩

def fitOf (body : List Stmt) : List Stmt := match body.drop 15 with
  | .For _ _ b _ _ :: _ => (match b.drop 2 with | .If _ t _ _ :: _ => t | _ => [])
  | _ => []

inductive GotV (P : Addr → Obj → Prop) : Value → PV → Prop where
  | int {n : Int} {t : Nat} : GotV P (.int n t) (.int n)
  | list {l : Addr} {c : Nat} {ivs : List Value} {ns : List Int} : P l (listOf ivs.toArray c) → IntsAre ivs ns → GotV P (.ref l) (.list ns)
inductive GotP (P : Addr → Obj → Prop) : Value → Str × PV → Prop where
  | mk {t : Addr} {n k : Nat} {x : Str} {val : Value} {pv : PV} : P t { cls := .type "tuple", data := .seq #[.str x k, val] n } → GotV P val pv → GotP P (.ref t) (x, pv)
inductive GotPs (P : Addr → Obj → Prop) : List Value → List (Str × PV) → Prop where
  | nil : GotPs P [] []
  | cons {v : Value} {d : Str × PV} {vs : List Value} {ds : List (Str × PV)} : GotP P v d → GotPs P vs ds → GotPs P (v :: vs) (d :: ds)
def pvData : PV → PyData
  | .int n => .int n
  | .list ns => .list (ns.map .int)
def pairData (d : Str × PV) : PyData := .tuple [.str d.1, pvData d.2]
section
variable {P P' : Addr → Obj → Prop}
theorem GotV.mono {v : Value} {pv : PV} (h : GotV P v pv) (k : ∀ a o, P a o → P' a o) : GotV P' v pv := by
  cases h with
  | int => exact .int
  | list h1 h2 => exact .list (k _ _ h1) h2
theorem GotP.mono {v : Value} {d : Str × PV} (h : GotP P v d) (k : ∀ a o, P a o → P' a o) : GotP P' v d := by
  cases h with
  | mk h1 h2 => exact .mk (k _ _ h1) (h2.mono k)
theorem GotPs.mono {vs : List Value} {ds : List (Str × PV)} (h : GotPs P vs ds) (k : ∀ a o, P a o → P' a o) : GotPs P' vs ds := by
  induction h with
  | nil => exact .nil
  | cons h _ ih => exact .cons (h.mono k) ih
theorem GotPs.snoc {vs : List Value} {ds : List (Str × PV)} {v : Value} {d : Str × PV} (h : GotPs P vs ds) (hv : GotP P v d) : GotPs P (vs ++ [v]) (ds ++ [d]) := by
  induction h with
  | nil => exact .cons hv .nil
  | cons h _ ih => exact .cons h ih
theorem GotPs.length {vs : List Value} {ds : List (Str × PV)} (h : GotPs P vs ds) : vs.length = ds.length := by
  induction h with
  | nil => rfl
  | cons _ _ ih => simp only [List.length_cons, ih]
theorem readsInts {h : Heap} : ∀ {vs : List Value} {ns : List Int}, IntsAre vs ns → ReadsAll h vs (ns.map PyData.int) []
  | _, _, .nil => .nil
  | _, _, .cons n t r => by
    have := ReadsAll.cons (Reads.int (h := h) n t) (readsInts (h := h) r)
    simpa using this
theorem GotV.reads {h : Heap} {v : Value} {pv : PV} (g : GotV (fun a o => h.get? a = some o) v pv) : ∃ as, Reads h v (pvData pv) as := by
  cases g with
  | int => exact ⟨_, .int _ _⟩
  | list g1 g2 => exact ⟨_, .list g1 rfl rfl (readsInts g2)⟩
theorem GotP.reads {h : Heap} {v : Value} {d : Str × PV} (g : GotP (fun a o => h.get? a = some o) v d) : ∃ as, Reads h v (pairData d) as := by
  cases g with
  | mk g1 g2 =>
    obtain ⟨as, r⟩ := g2.reads
    exact ⟨_, .tuple g1 rfl rfl (.cons (.str _ _) (.cons r .nil))⟩
theorem GotPs.reads {h : Heap} {vs : List Value} {ds : List (Str × PV)} (g : GotPs (fun a o => h.get? a = some o) vs ds) : ∃ as, ReadsAll h vs (ds.map pairData) as := by
  induction g with
  | nil => exact ⟨_, .nil⟩
  | cons g _ ih =>
    obtain ⟨as, r⟩ := g.reads
    obtain ⟨bs, r2⟩ := ih
    exact ⟨_, .cons r r2⟩
end
theorem lay_ints (ns : List Int) : PyData.canLayAll0 (ns.map PyData.int) = true ∧ PyData.depthAll (ns.map PyData.int) = 0 := by
  induction ns with
  | nil => exact ⟨by simp [PyData.canLayAll0], by simp [PyData.depthAll]⟩
  | cons x r ih => exact ⟨by simp [PyData.canLayAll0, PyData.canLay0, ih.1], by simp [PyData.depthAll, PyData.depth, ih.2]⟩
theorem lay_pairs {ds : List (Str × PV)} (h : ∀ d ∈ ds, d.1 ∈ W8) : PyData.canLayAll0 (ds.map pairData) = true ∧ PyData.depthAll (ds.map pairData) ≤ 3 := by
  induction ds with
  | nil => exact ⟨by simp [PyData.canLayAll0], by simp [PyData.depthAll]⟩
  | cons d r ih =>
    obtain ⟨h1, h2⟩ := ih fun y hy => h y (.tail _ hy)
    obtain ⟨x, pv⟩ := d
    have hx := w8_ok (h _ (.head _))
    cases pv with
    | int n => exact ⟨by simp_all [pairData, pvData, PyData.canLayAll0, PyData.canLay0], by simp only [List.map_cons, PyData.depthAll, pairData, pvData, PyData.depth]; omega⟩
    | list ns =>
      have := lay_ints ns
      exact ⟨by simp_all [pairData, pvData, PyData.canLayAll0, PyData.canLay0], by simp only [List.map_cons, PyData.depthAll, pairData, pvData, PyData.depth, this.2]; omega⟩

section
variable {prog : Program} {w : World} {A : Around} {h₀ : Heap} {L : Addr} {m : Str → Option Value} {env : Env} {elt : Expr} {x x₂ : Str} {scope : Scope} {cl : List (Str × Addr)} {s : Shared} {S : List (Addr × Obj) → Prop} {P : Nat → Value → Prop} {Fin : List Value → List (Addr × Obj) → Prop} {news : List (Addr × Obj)}
theorem rest_ofP {n : Nat} (J : Nat → List Value → List (Addr × Obj) → Prop) (j0 : J 0 [] news)
    (turn : ∀ i ys nx v, i < n → J i ys nx → P i v → ∃ (t : Addr) (ot : Obj) (v₁ v₂ : Value) (nt : Nat), v = .ref t ∧ (t, ot) ∈ nx ∧ ot.cls = .type "tuple" ∧ ot.data = .seq #[v₁, v₂] nt ∧
      ∀ I oI C oC D m₂ h tk (E' : Value → Shared → Prop), LCg.NsObj oC m₂ → m₂ x = some v₁ → m₂ x₂ = some v₂ → Fr h₀ L h m → News h₀ L h ((I, oI) :: (C, oC) :: (D, LCg.lst ys) :: nx) → LCg.Off3 I C D nx → ((@Ne Nat I C) ∧ (@Ne Nat I D) ∧ (@Ne Nat C D)) →
      wpAny (model prog w) A (eval elt (compEnvC scope cl C env)) (LCg.CompEnd h₀ L m { s with heap := h, toks := tk } I oI C oC D (LCg.lst ys) S (fun y nx' => J (i + 1) (ys ++ [y]) nx')) E' { s with heap := h, toks := tk })
    (fin : ∀ ys nx, J n ys nx → Fin ys nx) : LCp.CompRestP prog w A h₀ L m env elt x x₂ scope cl s S P Fin n 0 [] news := by
  have key : ∀ (j i : Nat) (ys : List Value) (nx : List (Addr × Obj)), i + j = n → J i ys nx → LCp.CompRestP prog w A h₀ L m env elt x x₂ scope cl s S P Fin j i ys nx := by
    intro j
    induction j with
    | zero =>
      intro i ys nx hi hJ
      obtain rfl : i = n := by omega
      exact LCp.CompRestP.zero (fin ys nx hJ)
    | succ j ih =>
      intro i ys nx hi hJ
      refine LCp.CompRestP.succ ?_
      intro v hv
      obtain ⟨t, ot, v₁, v₂, nt, e1, e2, e3, e4, k⟩ := turn i ys nx v (by omega) hJ hv
      refine ⟨t, ot, v₁, v₂, nt, e1, e2, e3, e4, ?_⟩
      intro I oI C oC D m₂ h tk E' hC hx hy F N off ne
      refine wpAny_mono (k I oI C oC D m₂ h tk E' hC hx hy F N off ne) (fun y s₂ hq => ?_) fun _ _ e => e
      obtain ⟨h', tk', nw, e, F', N', off', hS, hJ'⟩ := hq
      exact ⟨h', tk', nw, e, F', N', off', hS, ih (i + 1) _ _ (by omega) hJ'⟩
  exact key n 0 [] news (by omega) j0
end
section
variable {prog : Program} {w : World} {A : Around} {E : Value → Shared → Prop} {s : Shared} {env : Env} {h₀ : Heap}
theorem Assign_enumF {L : Addr} {elt iter : Expr} {xi xc y : Str} {pi pc tp py : Pos} {x1 : Nat} {scope : Scope} {cl : List (Str × Addr)} {pos spos : Pos} {m : Str → Option Value} {Q : Flow → Shared → Prop} (_F : Fr h₀ L s.heap m)
    (hsw : swapsWith (.ListComp elt [⟨.Tuple [.Name xi pi, .Name xc pc] x1 tp, iter, [], 0⟩] scope pos) (some (.Name y py)) spos.line env = pure true)
    (hclos : closureFor scope env = pure cl) (hcell : ∀ z ∈ scope.names, z.2 ≠ .cell) (hkind : scope.kind = .function)
    (hnames : ∀ z ∈ scope.names, z.2 = .local → scope.names.lookup z.1 = some .local) (hxi : scope.names.lookup xi = some .local) (hxc : scope.names.lookup xc = some .local) (hxx : xi ≠ xc)
    (hy : env.kindOf y = some .local) (hp : (env.scope.kind == .class || (env.scope.kind == .module && env.locals != env.globals)) = false)
    (h : wpAny (model prog w) A (eval iter env) (fun xv s₁ => EcAt prog w A h₀ env elt xi xc scope cl m (fun ys nx => ∀ D h' tk, Fr h₀ env.locals h' (fun z => if z = y then some (.ref D) else m z) → News h₀ env.locals h' ((D, LCg.lst ys) :: nx) → (∀ p ∈ nx, p.1 ≠ D) →
      Q .next { s₁ with heap := h', toks := tk }) xv s₁) E s)
    (hs : ∀ x, foldedSetIterable iter env x = pure x := by intro _; rfl) :
    wpAny (model prog w) A (exec (.Assign [.Name y py] (.ListComp elt [⟨.Tuple [.Name xi pi, .Name xc pc] x1 tp, iter, [], 0⟩] scope pos) spos) env) Q E s :=
  Assign_enum hsw hclos hcell hkind hnames hxi hxc hxx hy hp h hs
end

def argsOf (n : Nat) : List Int := (List.range n).map fun (i : Nat) => (100 : Int) + (i : Int)
structure ArgsJ (base : List (Addr × Obj)) (i : Nat) (ys : List Value) (nx : List (Addr × Obj)) : Prop where
  n : IntsAre ys (argsOf i)
  led : nx = base
theorem ints_snoc : ∀ {vs : List Value} {ns : List Int} {k : Int} {t : Nat}, IntsAre vs ns → IntsAre (vs ++ [.int k t]) (ns ++ [k])
  | _, _, _, _, .nil => .cons _ _ .nil
  | _, _, _, _, .cons _ _ r => .cons _ _ (ints_snoc r)
theorem argsOf_succ (i : Nat) : argsOf (i + 1) = argsOf i ++ [100 + (i : Int)] := by unfold argsOf; rw [List.range_succ, List.map_append]; rfl
theorem argsOf_len (n : Nat) : (argsOf n).length = n := by unfold argsOf; rw [List.length_map, List.length_range]

structure GotJ (pre tl : List (Addr × Obj)) (ds : List (Str × PV)) (i : Nat) (ys : List Value) (nx : List (Addr × Obj)) : Prop where
  ex : ∃ gr, nx = pre ++ gr ∧ (∀ p ∈ tl, p ∈ gr) ∧ GotPs (fun a o => (a, o) ∈ gr) ys (ds.take i)
theorem got_end {h₀ h' : Heap} {L I C D T pl : Addr} {m : Str → Option Value} {oI oC : Obj} {pre tl gr all : List (Addr × Obj)} {ys : List Value} {ds : List (Str × PV)} {i tk k nt c : Nat} {its : Array Value} {s₁ : Shared} {x : Str} {val : Value} {pv : PV}
    (F : Fr h₀ L h' m) (N : News h₀ L h' all) (more : List (Addr × Obj)) (mT : (T, ({ cls := .type "tuple", data := .seq #[.str x k, val] nt } : Obj)) ∈ all) (sub : ∀ p ∈ (I, oI) :: (C, oC) :: (D, LCg.lst ys) :: (pre ++ (more ++ gr)), p ∈ all) (lT : (T : Nat) ≠ I ∧ (T : Nat) ≠ C ∧ (T : Nat) ≠ D) (offm : ∀ p ∈ more, p.1 ≠ I ∧ p.1 ≠ C ∧ p.1 ≠ D)
    (off : LCg.Off3 I C D (pre ++ gr)) (hsub : ∀ p ∈ tl, p ∈ gr) (hgot : GotPs (fun a o => (a, o) ∈ gr) ys (ds.take i)) (hq : ds[i]? = some (x, pv)) (gv : GotV (fun a o => (a, o) ∈ more ++ gr) val pv) (hpl : (pl, listOf its c) ∈ tl) :
    LCg.CompEnd h₀ L m s₁ I oI C oC D (LCg.lst ys) (LCg.SrcAt h₀ pl its) (fun y nx' => GotJ pre tl ds (i + 1) (ys ++ [y]) nx') (.ref T) { s₁ with heap := h', toks := tk } := by
  have off' := off.mem
  have hs2 : ∀ p ∈ tl, p ∈ (T, ({ cls := .type "tuple", data := .seq #[.str x k, val] nt } : Obj)) :: (more ++ gr) := fun p hp => .tail _ (List.mem_append_right _ (hsub p hp))
  refine LCg.CompEnd.intro F N (pre ++ ((T, { cls := .type "tuple", data := .seq #[.str x k, val] nt }) :: (more ++ gr))) (fun p hp => ?_) (LCg.Off3.of fun p hp => ?_) (.inr ⟨_, List.mem_append_right _ (hs2 _ hpl), rfl, _, rfl⟩) ⟨⟨_, rfl, hs2, ?_⟩⟩
  · have hp' : p = (T, ({ cls := .type "tuple", data := .seq #[.str x k, val] nt } : Obj)) ∨ p ∈ (I, oI) :: (C, oC) :: (D, LCg.lst ys) :: (pre ++ (more ++ gr)) := by
      simp only [List.mem_cons, List.mem_append] at hp ⊢
      rcases hp with h | h | h | h | h | h | h <;> simp [h]
    exact hp'.elim (fun q => q ▸ mT) (sub p)
  · rcases List.mem_append.mp hp with hp | hp
    · exact off' p (List.mem_append_left _ hp)
    · rcases List.mem_cons.mp hp with rfl | hp
      · exact lT
      · exact (List.mem_append.mp hp).elim (offm p) fun hp => off' p (List.mem_append_right _ hp)
  · rw [List.take_add_one, hq]
    exact (hgot.mono fun a o q => .tail _ (List.mem_append_right _ q)).snoc (.mk (.head _) (gv.mono fun a o q => .tail _ q))
theorem pairs_name {P : Addr → Obj → Prop} {vs : List Value} {ds : List (Str × PV)} (h : PairsV P vs ds) : ∀ d ∈ ds, d.1 ∈ W8 := by
  induction h with
  | nil => exact fun _ h => nomatch h
  | cons h _ ih =>
    refine List.forall_mem_cons.mpr ⟨?_, ih⟩
    cases h with
    | mk _ h _ =>
      cases h with
      | seven => exact (show Str.ofString "7" ∈ W8 by decide +kernel)
      | sym _ _ h => exact w7_8 h
theorem vdat_names {ans : List Int} {xs : List Str} {d : Str × PV} (h : d ∈ vdat ans xs) : d.1 ∈ xs := by
  unfold vdat at h
  obtain ⟨i, hi, rfl⟩ := List.mem_mapIdx.mp h
  exact List.getElem_mem hi
theorem vdat_list {ans : List Int} {xs : List Str} {d : Str × PV} {ns : List Int} (h : d ∈ vdat ans xs) (e : d.2 = .list ns) : ns = [] := by
  unfold vdat at h
  obtain ⟨i, hi, rfl⟩ := List.mem_mapIdx.mp h
  dsimp only at e
  unfold pvAt at e
  split at e <;> cases e
  rfl
theorem handed_ints {vs : List Value} {ns : List Int} (h : IntsAre vs ns) : ∀ v ∈ vs, handedIn v = true := by
  induction h with
  | nil => exact fun _ h => nomatch h
  | cons n t _ ih => exact List.forall_mem_cons.mpr ⟨rfl, ih⟩
theorem ints_le {vs : List Value} {ns : List Int} (h : IntsAre vs ns) (k : ns.length ≤ 100) : vs.length ≤ 1000 := by rw [IntsAre.length h]; omega
theorem got_endE {h₀ h' : Heap} {L e it lq C D T : Addr} {m : Str → Option Value} {oe oi ol oC : Obj} {pre tl gr all : List (Addr × Obj)} {ys : List Value} {ds : List (Str × PV)} {i tk k nt : Nat} {s₁ : Shared} {x : Str} {val : Value} {pv : PV}
    (F : Fr h₀ L h' m) (N : News h₀ L h' all) (more : List (Addr × Obj)) (mT : (T, ({ cls := .type "tuple", data := .seq #[.str x k, val] nt } : Obj)) ∈ all) (sub : ∀ p ∈ (C, oC) :: (D, LCg.lst ys) :: (e, oe) :: (it, oi) :: (lq, ol) :: (pre ++ (more ++ gr)), p ∈ all)
    (lT : (T : Nat) ≠ e ∧ (T : Nat) ≠ it ∧ (T : Nat) ≠ C ∧ (T : Nat) ≠ D) (offm : ∀ p ∈ more, p.1 ≠ e ∧ p.1 ≠ it ∧ p.1 ≠ C ∧ p.1 ≠ D)
    (off : ∀ p ∈ pre ++ gr, p.1 ≠ e ∧ p.1 ≠ it ∧ p.1 ≠ C ∧ p.1 ≠ D) (hsub : ∀ p ∈ tl, p ∈ gr) (hgot : GotPs (fun a o => (a, o) ∈ gr) ys (ds.take i)) (hq : ds[i]? = some (x, pv)) (gv : GotV (fun a o => (a, o) ∈ more ++ gr) val pv) :
    EcEnd h₀ L m (GotJ pre tl ds (i + 1)) e it [(e, oe), (it, oi), (lq, ol)] C D oC ys s₁ (.ref T) { s₁ with heap := h', toks := tk } := by
  have hs2 : ∀ p ∈ tl, p ∈ (T, ({ cls := .type "tuple", data := .seq #[.str x k, val] nt } : Obj)) :: (more ++ gr) := fun p hp => .tail _ (List.mem_append_right _ (hsub p hp))
  refine ⟨h', tk, pre ++ ((T, { cls := .type "tuple", data := .seq #[.str x k, val] nt }) :: (more ++ gr)), rfl, F, news_sub N fun p hp => ?_, fun p hp => ?_, ⟨⟨_, rfl, hs2, ?_⟩⟩⟩
  · have hp' : p = (T, ({ cls := .type "tuple", data := .seq #[.str x k, val] nt } : Obj)) ∨ p ∈ (C, oC) :: (D, LCg.lst ys) :: (e, oe) :: (it, oi) :: (lq, ol) :: (pre ++ (more ++ gr)) := by
      simp only [List.cons_append, List.nil_append, List.mem_cons, List.mem_append] at hp ⊢
      rcases hp with h | h | h | h | h | h | h | h | h <;> simp [h]
    exact hp'.elim (fun q => q ▸ mT) (sub p)
  · rcases List.mem_append.mp hp with hp | hp
    · exact off p (List.mem_append_left _ hp)
    · rcases List.mem_cons.mp hp with rfl | hp
      · exact lT
      · exact (List.mem_append.mp hp).elim (offm p) fun hp => off p (List.mem_append_right _ hp)
  · rw [List.take_add_one, hq]
    exact (hgot.mono fun a o q => .tail _ (List.mem_append_right _ q)).snoc (.mk (.head _) (gv.mono fun a o q => .tail _ q))
theorem got_endE1 {h₀ h' : Heap} {L e it lq C D T : Addr} {m : Str → Option Value} {oe oi ol oC : Obj} {pre tl gr : List (Addr × Obj)} {ys : List Value} {ds : List (Str × PV)} {i tk k nt c : Nat} {s₁ : Shared} {x : Str} {lz : Addr}
    (F : Fr h₀ L h' m) (N : News h₀ L h' ((T, { cls := .type "tuple", data := .seq #[.str x k, .ref lz] nt }) :: (lz, listOf (List.toArray []) c) :: (C, oC) :: (D, LCg.lst ys) :: (e, oe) :: (it, oi) :: (lq, ol) :: (pre ++ gr)))
    (lT : (T : Nat) ≠ e ∧ (T : Nat) ≠ it ∧ (T : Nat) ≠ C ∧ (T : Nat) ≠ D) (lZ : (lz : Nat) ≠ e ∧ (lz : Nat) ≠ it ∧ (lz : Nat) ≠ C ∧ (lz : Nat) ≠ D)
    (off : ∀ p ∈ pre ++ gr, p.1 ≠ e ∧ p.1 ≠ it ∧ p.1 ≠ C ∧ p.1 ≠ D) (hsub : ∀ p ∈ tl, p ∈ gr) (hgot : GotPs (fun a o => (a, o) ∈ gr) ys (ds.take i)) (hq : ds[i]? = some (x, .list [])) :
    EcEnd h₀ L m (GotJ pre tl ds (i + 1)) e it [(e, oe), (it, oi), (lq, ol)] C D oC ys s₁ (.ref T) { s₁ with heap := h', toks := tk } :=
  got_endE F N [(lz, listOf (List.toArray []) c)] (.head _) (fun p hp => by
    simp only [List.cons_append, List.nil_append, List.mem_cons, List.mem_append] at hp ⊢
    rcases hp with h | h | h | h | h | h | h | h <;> simp [h]) lT (List.forall_mem_cons.mpr ⟨lZ, fun _ h => nomatch h⟩) off hsub hgot hq (.list (.head _) .nil)
theorem reads_got {h : Heap} {l c : Nat} {vs : List Value} {ds : List (Str × PV)} (g : h.get? l = some (listOf vs.toArray c)) (k : GotPs (fun a o => h.get? a = some o) vs ds) : ∃ as, Reads h (.ref l) (.list (ds.map pairData)) as :=
  let ⟨_, r⟩ := k.reads; ⟨_, .list g rfl rfl r⟩
theorem got_last {h₀ h' : Heap} {L T sl wl : Addr} {nt c c2 k rt : Nat} {avs wvs : List Value} {ans : List Int} {gr rest : List (Addr × Obj)} {ds : List (Str × PV)} {rx : Str}
    (N : News h₀ L h' ((T, { cls := .type "tuple", data := .seq #[.str rx rt, .ref sl] nt }) :: (sl, listOf (List.toArray (kms_pick avs (some (k : Int)) none)) c) :: (wl, listOf (wvs.toArray.push (.ref T)) c2) :: rest)) (hav : IntsAre avs ans) (hw : GotPs (fun a o => (a, o) ∈ gr) wvs ds) (hsub : ∀ p ∈ gr, p ∈ rest) :
    ∃ as, Reads h' (.ref wl) (.list ((ds ++ [(rx, PV.list (ans.drop k))]).map pairData)) as := by
  have g := (N _ (.tail _ (.tail _ (.head _)))).1
  rw [List.push_toArray] at g
  exact reads_got g ((hw.mono fun a o q => (N (a, o) (.tail _ (.tail _ (.tail _ (hsub _ q))))).1).snoc (.mk (N _ (.head _)).1 (.list (N _ (.tail _ (.head _))).1 (pick_from hav k))))
theorem strs_app {vs us : List Value} {xs ys : List Str} (h : StrsAre vs xs) (h' : StrsAre us ys) : StrsAre (vs ++ us) (xs ++ ys) := by
  induction h with
  | nil => exact h'
  | cons x t _ ih => exact .cons x t ih
theorem vdat_get {ans : List Int} {xs : List Str} {i : Nat} {x : Str} (h : xs[i]? = some x) : (vdat ans xs)[i]? = some (x, pvAt ans i) := by
  unfold vdat; rw [List.getElem?_mapIdx, h]; rfl
theorem strs_get {vs : List Value} {xs : List Str} (h : StrsAre vs xs) : ∀ (i : Nat) (v : Value), vs[i]? = some v → ∃ x k, v = .str x k ∧ xs[i]? = some x := by
  induction h with
  | nil => intro i v e; cases e
  | cons x t _ ih =>
    intro i v e
    cases i with
    | zero => cases e; exact ⟨_, _, rfl, rfl⟩
    | succ i => exact ih i v e
theorem PairV.inv {P : Addr → Obj → Prop} {v : Value} {d : Str × PV} (h : PairV P v d) : ∃ t n sv val x pv, v = .ref t ∧ d = (x, pv) ∧ P t { cls := .type "tuple", data := .seq #[sv, val] n } ∧ ItemIs P sv x ∧ ValV P val pv := by
  cases h with
  | mk h1 h2 h3 => exact ⟨_, _, _, _, _, _, rfl, rfl, h1, h2, h3⟩

set_option maxHeartbeats 4000000 in
theorem law_fit {w : World} {prog : Program} {dp un : Nat} {gd : Option (List Code)} {s : Shared} {Q : Flow → Shared → Prop} {E : Value → Shared → Prop} {h₀ : Heap} {L : Addr} {m : Str → Option Value} {fx : List (Addr × Obj)}
    {name qual : Str} {params : Arguments} {body : List Stmt} {scope : Scope} {dV kV doc pm cdv ct oc : Value} {an od : Option Addr} {osl : Array (Option Value)}
    (hlaw : (hd.heap_39 w.params).lookup 184 = some ⟨oc, od, .func (fnOf name qual params body scope dV kV doc pm an cdv ct), osl⟩)
    (B : Base w h₀) (hd : dp ≤ 500) (hu : un ≤ 500) {x dx nl ol a b : Addr} {k1 k2 k3 : Int} {t1 t2 t3 c1 c2 c3 c4 : Nat} {zn zo vn vo : List Value} {nd op : List Str} {rs : Option Str} {rv rv2 : Value} {n tn : Nat} {oM oA : Obj} {vA : Option Value}
    (F : Fr h₀ L s.heap m) (N : News h₀ L s.heap ((L + 1 + 1, oM) :: (L + 1 + 1 + 1, oA) :: fx)) (eM : oM.data = .cell (some (.int (n : Int) tn))) (eA : oA.data = .cell vA) (hn9 : n ≤ 8) (hoff : ∀ p ∈ fx, p.1 ≠ L + 1 + 1 ∧ p.1 ≠ L + 1 + 1 + 1)
    (e1 : m (Str.ofString "told_own") = some (.ref x)) (e2 : m (Str.ofString "needed_own") = some (.ref a)) (e3 : m (Str.ofString "optional_own") = some (.ref b)) (e4 : m (Str.ofString "rest") = some rv2)
    (gx : (x, instObj 132 dx) ∈ fx) (gd' : (dx, dictOf [⟨k1, .str (Str.ofString "needed") t1, .ref nl⟩, ⟨k2, .str (Str.ofString "optional") t2, .ref ol⟩, ⟨k3, .str (Str.ofString "rest") t3, rv⟩] 3) ∈ fx) (gn : (nl, listOf (List.toArray zn) c1) ∈ fx) (go : (ol, listOf (List.toArray zo) c2) ∈ fx)
    (ga : (a, listOf vn.toArray c3) ∈ fx) (gb : (b, listOf vo.toArray c4) ∈ fx)
    (hn : ItemsAre (fun a o => (a, o) ∈ fx) zn nd) (ho : ItemsAre (fun a o => (a, o) ∈ fx) zo op) (hr : RestIs (fun a o => (a, o) ∈ fx) rv rs) (zn1 : zn.length ≤ 100) (zo1 : zo.length ≤ 100) (hvn : StrsAre vn nd) (hvo : StrsAre vo op) (hdr : DueR rv2 rs)
    (n7nd : ∀ y ∈ nd, y ≠ Str.ofString "7") (n7op : ∀ y ∈ op, y ≠ Str.ofString "7")
    (hQ : ∀ h' tk m' oA' vA', m' (Str.ofString "told_own") = some (.ref x) → m' (Str.ofString "needed_own") = some (.ref a) → m' (Str.ofString "optional_own") = some (.ref b) → m' (Str.ofString "rest") = some rv2 → Fr h₀ L h' m' →
      News h₀ L h' ((L + 1 + 1, oM) :: (L + 1 + 1 + 1, oA') :: fx) → oA'.data = .cell vA' → Q .next { s with heap := h', toks := tk }) :
    wpAny (model prog w) (Around.deeper (Ar dp (some []) gd un) (envOfC qual scope L 184 cdv)) (execs (fitOf body) (envOfC qual scope L 184 cdv)) Q E s := by
  k_dflt (refine' same_elim hlaw ?h' ?_; (case h' => k_is))
  intro q1 q2 q3 q4
  subst q1 q2 q3 q4
  have X := B.X
  have F₂ := fr_know (fr_know (fr_know (fr_know F (a := Str.ofString "rest") (x := rv2) e4) (a := Str.ofString "optional_own") (x := .ref b) e3) (a := Str.ofString "needed_own") (x := .ref a) e2) (a := Str.ofString "told_own") (x := .ref x) e1
  obtain ⟨p, loose, mean, mg, mb, T⟩ := B.T
  clear F
  dsimp only [fitOf, List.drop]
  (repeat' (first | (k_unfold; (try dsimp only)) | ((( (fail_if_success (with_reducible show wpAny _ _ (pyIter _) _ _ _)); (fail_if_success (with_reducible show wpAny _ _ (exec (Stmt.While _ _ _ _) _) _ _ _)))); (( (fail_if_success (with_reducible show wpAny _ _ (eval (Expr.ListComp _ _ _ _) _) _ _ _)); (fail_if_success (with_reducible show wpAny _ _ (exec (Stmt.Assign _ (Expr.ListComp _ _ _ _) _) _) _ _ _)); (fail_if_success (with_reducible show LCg.CompSrc _ _ _ _ _ _ _ _ _ _ _ _ _ _)))); first | (first | ((with_reducible show wpAny _ _ (execs [] _) _ _ _); (k_here; (with_reducible refine gen_toks ?_); intro zztk)) | ((with_reducible show wpAny _ _ (execs (_ :: _) _) _ _ _); (k_here; (with_reducible refine gen_toks ?_); intro zztk)) | ((with_reducible show wpAny _ _ (execs (_ :: _) _) _ _ _); (k_here; (with_reducible refine wpAny_execs_cons ?_); (try dsimp only); k_fold)) | ((with_reducible show wpAny _ _ (call (Value.type "enumerate") _) _ _ _); (k_here; (with_reducible rename EnMark => zzhEnM); k_dflt (refine enum_call (by k_asm) (by k_asm) (by k_mem) ?_); intro zze' zzit' zzh' zzhe' zzhi' zzhei' zzhoff' zzhen' zzheL' zzF' zzN')) | ((k_here; (with_reducible show wpAny _ _ (subscriptTail _ (PySem.Expr.Slice _ _ none _) (Value.ref _) (Value.ref _)) _ _ _); k_dflt (refine' slice_ex (by k_asm) (by k_asm) (by kmk_list) (by kmk_part) (by kmk_part) ?_ (by with_unfolding_all rfl) (by kmk_pure) (by (first | decide | omega | (simp only [List.length_append, List.length_cons, List.length_nil] at *; omega)))); intro zzD' zzh' zzF' zzN' zzl1; (try k_lt zzl1); (try k_sweep))) | ((with_reducible show wpAny _ _ (subscriptTail (Expr.Name _ _) (Expr.Name _ _) (Value.ref _) (Value.int _ _)) _ _ _); (k_dflt (refine' item_list (by is_list) (by (first | decide | omega | (simp only [List.size_toArray] at *; omega))) (by (first | decide | omega | (simp only [List.size_toArray] at *; omega))) (by assumption) ?_))) | ((with_reducible show wpAny _ _ (call (Value.builtin "len") [_]) _ _ _); (k_dflt (refine' call_len_list (by is_list) (by (first | decide | (simp only [List.size_toArray]; omega) | (simp only [List.size_toArray, List.length_cons, List.length_append, List.length_map, List.length_nil, List.length_take, List.length_drop]; omega))) ?_))) | walk1) | (dsimp only; (first | ((with_reducible show wpAny _ _ (execs [] _) _ _ _); (k_here; (with_reducible refine gen_toks ?_); intro zztk)) | ((with_reducible show wpAny _ _ (execs (_ :: _) _) _ _ _); (k_here; (with_reducible refine gen_toks ?_); intro zztk)) | ((with_reducible show wpAny _ _ (execs (_ :: _) _) _ _ _); (k_here; (with_reducible refine wpAny_execs_cons ?_); (try dsimp only); k_fold)) | ((with_reducible show wpAny _ _ (call (Value.type "enumerate") _) _ _ _); (k_here; (with_reducible rename EnMark => zzhEnM); k_dflt (refine enum_call (by k_asm) (by k_asm) (by k_mem) ?_); intro zze' zzit' zzh' zzhe' zzhi' zzhei' zzhoff' zzhen' zzheL' zzF' zzN')) | ((k_here; (with_reducible show wpAny _ _ (subscriptTail _ (PySem.Expr.Slice _ _ none _) (Value.ref _) (Value.ref _)) _ _ _); k_dflt (refine' slice_ex (by k_asm) (by k_asm) (by kmk_list) (by kmk_part) (by kmk_part) ?_ (by with_unfolding_all rfl) (by kmk_pure) (by (first | decide | omega | (simp only [List.length_append, List.length_cons, List.length_nil] at *; omega)))); intro zzD' zzh' zzF' zzN' zzl1; (try k_lt zzl1); (try k_sweep))) | ((with_reducible show wpAny _ _ (subscriptTail (Expr.Name _ _) (Expr.Name _ _) (Value.ref _) (Value.int _ _)) _ _ _); (k_dflt (refine' item_list (by is_list) (by (first | decide | omega | (simp only [List.size_toArray] at *; omega))) (by (first | decide | omega | (simp only [List.size_toArray] at *; omega))) (by assumption) ?_))) | ((with_reducible show wpAny _ _ (call (Value.builtin "len") [_]) _ _ _); (k_dflt (refine' call_len_list (by is_list) (by (first | decide | (simp only [List.size_toArray]; omega) | (simp only [List.size_toArray, List.length_cons, List.length_append, List.length_map, List.length_nil, List.length_take, List.length_drop]; omega))) ?_))) | walk1))) | fail "no step"))
  refine wpAny_Assign_Name ?_ (by with_unfolding_all rfl)
  ((k_dflt (refine LCg.ListComp_U (F₀ := by k_asm) (by with_unfolding_all rfl) (by decide) (by rfl) (by decide) (by rfl) ?_)))
  (repeat' (first | (k_unfold; (try dsimp only)) | ((( (fail_if_success (with_reducible show wpAny _ _ (pyIter _) _ _ _)); (fail_if_success (with_reducible show wpAny _ _ (exec (Stmt.While _ _ _ _) _) _ _ _)))); (( (fail_if_success (with_reducible show wpAny _ _ (eval (Expr.ListComp _ _ _ _) _) _ _ _)); (fail_if_success (with_reducible show wpAny _ _ (exec (Stmt.Assign _ (Expr.ListComp _ _ _ _) _) _) _ _ _)); (fail_if_success (with_reducible show LCg.CompSrc _ _ _ _ _ _ _ _ _ _ _ _ _ _)))); (fail_if_success (with_reducible show wpAny _ _ (call (Prod.fst _) _) _ _ _)); (fail_if_success (with_reducible show wpAny _ _ (call (Value.ref 155) _) _ _ _)); (fail_if_success (with_reducible show wpAny _ _ (call (Value.ref 101) _) _ _ _)); (fail_if_success (with_reducible show wpAny _ _ (binaryOp _ (Value.ref _) (Value.ref _)) _ _ _)); (fail_if_success (with_reducible show EcAt _ _ _ _ _ _ _ _ _ _ _ _ _ _)); (fail_if_success (with_reducible show wpAny _ _ (call (Value.type "range") _) _ _ _)); (fail_if_success (with_reducible show wpAny _ _ (exec (Stmt.Assign _ (Expr.ListComp _ _ _ _) _) _) _ _ _)); (fail_if_success (with_reducible show wpAny _ _ (compareOp CmpOp.NotEq (Value.ref _) (Value.ref _)) _ _ _)); first | (first | ((with_reducible show wpAny _ _ (execs [] _) _ _ _); (k_here; (with_reducible refine gen_toks ?_); intro zztk)) | ((with_reducible show wpAny _ _ (execs (_ :: _) _) _ _ _); (k_here; (with_reducible refine gen_toks ?_); intro zztk)) | ((with_reducible show wpAny _ _ (execs (_ :: _) _) _ _ _); (k_here; (with_reducible refine wpAny_execs_cons ?_); (try dsimp only); k_fold)) | ((with_reducible show wpAny _ _ (call (Value.type "enumerate") _) _ _ _); (k_here; (with_reducible rename EnMark => zzhEnM); k_dflt (refine enum_call (by k_asm) (by k_asm) (by k_mem) ?_); intro zze' zzit' zzh' zzhe' zzhi' zzhei' zzhoff' zzhen' zzheL' zzF' zzN')) | ((k_here; (with_reducible show wpAny _ _ (subscriptTail _ (PySem.Expr.Slice _ _ none _) (Value.ref _) (Value.ref _)) _ _ _); k_dflt (refine' slice_ex (by k_asm) (by k_asm) (by kmk_list) (by kmk_part) (by kmk_part) ?_ (by with_unfolding_all rfl) (by kmk_pure) (by (first | decide | omega | (simp only [List.length_append, List.length_cons, List.length_nil] at *; omega)))); intro zzD' zzh' zzF' zzN' zzl1; (try k_lt zzl1); (try k_sweep))) | ((with_reducible show wpAny _ _ (subscriptTail (Expr.Name _ _) (Expr.Name _ _) (Value.ref _) (Value.int _ _)) _ _ _); (k_dflt (refine' item_list (by is_list) (by (first | decide | omega | (simp only [List.size_toArray] at *; omega))) (by (first | decide | omega | (simp only [List.size_toArray] at *; omega))) (by assumption) ?_))) | ((with_reducible show wpAny _ _ (call (Value.builtin "len") [_]) _ _ _); (k_dflt (refine' call_len_list (by is_list) (by (first | decide | (simp only [List.size_toArray]; omega) | (simp only [List.size_toArray, List.length_cons, List.length_append, List.length_map, List.length_nil, List.length_take, List.length_drop]; omega))) ?_))) | walk1) | (dsimp only; (first | ((with_reducible show wpAny _ _ (execs [] _) _ _ _); (k_here; (with_reducible refine gen_toks ?_); intro zztk)) | ((with_reducible show wpAny _ _ (execs (_ :: _) _) _ _ _); (k_here; (with_reducible refine gen_toks ?_); intro zztk)) | ((with_reducible show wpAny _ _ (execs (_ :: _) _) _ _ _); (k_here; (with_reducible refine wpAny_execs_cons ?_); (try dsimp only); k_fold)) | ((with_reducible show wpAny _ _ (call (Value.type "enumerate") _) _ _ _); (k_here; (with_reducible rename EnMark => zzhEnM); k_dflt (refine enum_call (by k_asm) (by k_asm) (by k_mem) ?_); intro zze' zzit' zzh' zzhe' zzhi' zzhei' zzhoff' zzhen' zzheL' zzF' zzN')) | ((k_here; (with_reducible show wpAny _ _ (subscriptTail _ (PySem.Expr.Slice _ _ none _) (Value.ref _) (Value.ref _)) _ _ _); k_dflt (refine' slice_ex (by k_asm) (by k_asm) (by kmk_list) (by kmk_part) (by kmk_part) ?_ (by with_unfolding_all rfl) (by kmk_pure) (by (first | decide | omega | (simp only [List.length_append, List.length_cons, List.length_nil] at *; omega)))); intro zzD' zzh' zzF' zzN' zzl1; (try k_lt zzl1); (try k_sweep))) | ((with_reducible show wpAny _ _ (subscriptTail (Expr.Name _ _) (Expr.Name _ _) (Value.ref _) (Value.int _ _)) _ _ _); (k_dflt (refine' item_list (by is_list) (by (first | decide | omega | (simp only [List.size_toArray] at *; omega))) (by (first | decide | omega | (simp only [List.size_toArray] at *; omega))) (by assumption) ?_))) | ((with_reducible show wpAny _ _ (call (Value.builtin "len") [_]) _ _ _); (k_dflt (refine' call_len_list (by is_list) (by (first | decide | (simp only [List.size_toArray]; omega) | (simp only [List.size_toArray, List.length_cons, List.length_append, List.length_map, List.length_nil, List.length_take, List.length_drop]; omega))) ?_))) | walk1))) | fail "no step"))
  (rename Fr _ _ _ _ => F3); (rename News _ _ _ _ => N3)
  refine call_range_1 ?_
  refine LCg.CompSrc.range rfl (F3.push _) (N3.grown fun _ _ e => Heap.get?_push_of_some _ e) (IsRange.new _ _ _ _ _ _ _) (small_one (by omega) (by omega) (by omega) (by omega)) (rangeSize_nat _ _) (by rw [sizeLine_eq]; omega) ?_
  intro g'
  refine rest_of (ArgsJ _) ⟨.nil, rfl⟩ ?_ ?_
  · rintro i ys nx v1 I oI C oC' D m₂ h tk E' hin ⟨hb, rfl⟩ ⟨tv, rfl⟩ hC hx F N off ne
    clear F3 N3
    (repeat' (first | (k_unfold; (try dsimp only)) | ((( (fail_if_success (with_reducible show wpAny _ _ (pyIter _) _ _ _)); (fail_if_success (with_reducible show wpAny _ _ (exec (Stmt.While _ _ _ _) _) _ _ _)))); (( (fail_if_success (with_reducible show wpAny _ _ (eval (Expr.ListComp _ _ _ _) _) _ _ _)); (fail_if_success (with_reducible show wpAny _ _ (exec (Stmt.Assign _ (Expr.ListComp _ _ _ _) _) _) _ _ _)); (fail_if_success (with_reducible show LCg.CompSrc _ _ _ _ _ _ _ _ _ _ _ _ _ _)))); first | (first | ((with_reducible show wpAny _ _ (execs [] _) _ _ _); (k_here; (with_reducible refine gen_toks ?_); intro zztk)) | ((with_reducible show wpAny _ _ (execs (_ :: _) _) _ _ _); (k_here; (with_reducible refine gen_toks ?_); intro zztk)) | ((with_reducible show wpAny _ _ (execs (_ :: _) _) _ _ _); (k_here; (with_reducible refine wpAny_execs_cons ?_); (try dsimp only); k_fold)) | ((with_reducible show wpAny _ _ (call (Value.type "enumerate") _) _ _ _); (k_here; (with_reducible rename EnMark => zzhEnM); k_dflt (refine enum_call (by k_asm) (by k_asm) (by k_mem) ?_); intro zze' zzit' zzh' zzhe' zzhi' zzhei' zzhoff' zzhen' zzheL' zzF' zzN')) | ((k_here; (with_reducible show wpAny _ _ (subscriptTail _ (PySem.Expr.Slice _ _ none _) (Value.ref _) (Value.ref _)) _ _ _); k_dflt (refine' slice_ex (by k_asm) (by k_asm) (by kmk_list) (by kmk_part) (by kmk_part) ?_ (by with_unfolding_all rfl) (by kmk_pure) (by (first | decide | omega | (simp only [List.length_append, List.length_cons, List.length_nil] at *; omega)))); intro zzD' zzh' zzF' zzN' zzl1; (try k_lt zzl1); (try k_sweep))) | ((with_reducible show wpAny _ _ (subscriptTail (Expr.Name _ _) (Expr.Name _ _) (Value.ref _) (Value.int _ _)) _ _ _); (k_dflt (refine' item_list (by is_list) (by (first | decide | omega | (simp only [List.size_toArray] at *; omega))) (by (first | decide | omega | (simp only [List.size_toArray] at *; omega))) (by assumption) ?_))) | ((with_reducible show wpAny _ _ (call (Value.builtin "len") [_]) _ _ _); (k_dflt (refine' call_len_list (by is_list) (by (first | decide | (simp only [List.size_toArray]; omega) | (simp only [List.size_toArray, List.length_cons, List.length_append, List.length_map, List.length_nil, List.length_take, List.length_drop]; omega))) ?_))) | walk1) | (dsimp only; (first | ((with_reducible show wpAny _ _ (execs [] _) _ _ _); (k_here; (with_reducible refine gen_toks ?_); intro zztk)) | ((with_reducible show wpAny _ _ (execs (_ :: _) _) _ _ _); (k_here; (with_reducible refine gen_toks ?_); intro zztk)) | ((with_reducible show wpAny _ _ (execs (_ :: _) _) _ _ _); (k_here; (with_reducible refine wpAny_execs_cons ?_); (try dsimp only); k_fold)) | ((with_reducible show wpAny _ _ (call (Value.type "enumerate") _) _ _ _); (k_here; (with_reducible rename EnMark => zzhEnM); k_dflt (refine enum_call (by k_asm) (by k_asm) (by k_mem) ?_); intro zze' zzit' zzh' zzhe' zzhi' zzhei' zzhoff' zzhen' zzheL' zzF' zzN')) | ((k_here; (with_reducible show wpAny _ _ (subscriptTail _ (PySem.Expr.Slice _ _ none _) (Value.ref _) (Value.ref _)) _ _ _); k_dflt (refine' slice_ex (by k_asm) (by k_asm) (by kmk_list) (by kmk_part) (by kmk_part) ?_ (by with_unfolding_all rfl) (by kmk_pure) (by (first | decide | omega | (simp only [List.length_append, List.length_cons, List.length_nil] at *; omega)))); intro zzD' zzh' zzF' zzN' zzl1; (try k_lt zzl1); (try k_sweep))) | ((with_reducible show wpAny _ _ (subscriptTail (Expr.Name _ _) (Expr.Name _ _) (Value.ref _) (Value.int _ _)) _ _ _); (k_dflt (refine' item_list (by is_list) (by (first | decide | omega | (simp only [List.size_toArray] at *; omega))) (by (first | decide | omega | (simp only [List.size_toArray] at *; omega))) (by assumption) ?_))) | ((with_reducible show wpAny _ _ (call (Value.builtin "len") [_]) _ _ _); (k_dflt (refine' call_len_list (by is_list) (by (first | decide | (simp only [List.size_toArray]; omega) | (simp only [List.size_toArray, List.length_cons, List.length_append, List.length_map, List.length_nil, List.length_take, List.length_drop]; omega))) ?_))) | walk1))) | fail "no step"))
    (rename Fr _ _ _ _ => F6); (rename News _ _ _ _ => N6)
    exact LCg.CompEnd.intro F6 N6 _ (fun p hp => hp) off trivial ⟨by rw [argsOf_succ, show (100 : Int) + (i : Int) = 100 + (0 + (i : Int)) by omega]; exact ints_snoc hb, rfl⟩
  rintro avs nx ⟨hav, rfl⟩ al h tk F N offa
  clear F3 N3
  rw [show Int.toNat ((n : Int) - 0) = n by omega] at hav
  (repeat' (first | (k_unfold; (try dsimp only)) | ((( (fail_if_success (with_reducible show wpAny _ _ (pyIter _) _ _ _)); (fail_if_success (with_reducible show wpAny _ _ (exec (Stmt.While _ _ _ _) _) _ _ _)))); (( (fail_if_success (with_reducible show wpAny _ _ (eval (Expr.ListComp _ _ _ _) _) _ _ _)); (fail_if_success (with_reducible show wpAny _ _ (exec (Stmt.Assign _ (Expr.ListComp _ _ _ _) _) _) _ _ _)); (fail_if_success (with_reducible show LCg.CompSrc _ _ _ _ _ _ _ _ _ _ _ _ _ _)))); (fail_if_success (with_reducible show wpAny _ _ (call (Prod.fst _) _) _ _ _)); (fail_if_success (with_reducible show wpAny _ _ (call (Value.ref 155) _) _ _ _)); (fail_if_success (with_reducible show wpAny _ _ (call (Value.ref 101) _) _ _ _)); (fail_if_success (with_reducible show wpAny _ _ (binaryOp _ (Value.ref _) (Value.ref _)) _ _ _)); (fail_if_success (with_reducible show EcAt _ _ _ _ _ _ _ _ _ _ _ _ _ _)); (fail_if_success (with_reducible show wpAny _ _ (call (Value.type "range") _) _ _ _)); (fail_if_success (with_reducible show wpAny _ _ (exec (Stmt.Assign _ (Expr.ListComp _ _ _ _) _) _) _ _ _)); (fail_if_success (with_reducible show wpAny _ _ (compareOp CmpOp.NotEq (Value.ref _) (Value.ref _)) _ _ _)); first | (first | ((with_reducible show wpAny _ _ (execs [] _) _ _ _); (k_here; (with_reducible refine gen_toks ?_); intro zztk)) | ((with_reducible show wpAny _ _ (execs (_ :: _) _) _ _ _); (k_here; (with_reducible refine gen_toks ?_); intro zztk)) | ((with_reducible show wpAny _ _ (execs (_ :: _) _) _ _ _); (k_here; (with_reducible refine wpAny_execs_cons ?_); (try dsimp only); k_fold)) | ((with_reducible show wpAny _ _ (call (Value.type "enumerate") _) _ _ _); (k_here; (with_reducible rename EnMark => zzhEnM); k_dflt (refine enum_call (by k_asm) (by k_asm) (by k_mem) ?_); intro zze' zzit' zzh' zzhe' zzhi' zzhei' zzhoff' zzhen' zzheL' zzF' zzN')) | ((k_here; (with_reducible show wpAny _ _ (subscriptTail _ (PySem.Expr.Slice _ _ none _) (Value.ref _) (Value.ref _)) _ _ _); k_dflt (refine' slice_ex (by k_asm) (by k_asm) (by kmk_list) (by kmk_part) (by kmk_part) ?_ (by with_unfolding_all rfl) (by kmk_pure) (by (first | decide | omega | (simp only [List.length_append, List.length_cons, List.length_nil] at *; omega)))); intro zzD' zzh' zzF' zzN' zzl1; (try k_lt zzl1); (try k_sweep))) | ((with_reducible show wpAny _ _ (subscriptTail (Expr.Name _ _) (Expr.Name _ _) (Value.ref _) (Value.int _ _)) _ _ _); (k_dflt (refine' item_list (by is_list) (by (first | decide | omega | (simp only [List.size_toArray] at *; omega))) (by (first | decide | omega | (simp only [List.size_toArray] at *; omega))) (by assumption) ?_))) | ((with_reducible show wpAny _ _ (call (Value.builtin "len") [_]) _ _ _); (k_dflt (refine' call_len_list (by is_list) (by (first | decide | (simp only [List.size_toArray]; omega) | (simp only [List.size_toArray, List.length_cons, List.length_append, List.length_map, List.length_nil, List.length_take, List.length_drop]; omega))) ?_))) | walk1) | (dsimp only; (first | ((with_reducible show wpAny _ _ (execs [] _) _ _ _); (k_here; (with_reducible refine gen_toks ?_); intro zztk)) | ((with_reducible show wpAny _ _ (execs (_ :: _) _) _ _ _); (k_here; (with_reducible refine gen_toks ?_); intro zztk)) | ((with_reducible show wpAny _ _ (execs (_ :: _) _) _ _ _); (k_here; (with_reducible refine wpAny_execs_cons ?_); (try dsimp only); k_fold)) | ((with_reducible show wpAny _ _ (call (Value.type "enumerate") _) _ _ _); (k_here; (with_reducible rename EnMark => zzhEnM); k_dflt (refine enum_call (by k_asm) (by k_asm) (by k_mem) ?_); intro zze' zzit' zzh' zzhe' zzhi' zzhei' zzhoff' zzhen' zzheL' zzF' zzN')) | ((k_here; (with_reducible show wpAny _ _ (subscriptTail _ (PySem.Expr.Slice _ _ none _) (Value.ref _) (Value.ref _)) _ _ _); k_dflt (refine' slice_ex (by k_asm) (by k_asm) (by kmk_list) (by kmk_part) (by kmk_part) ?_ (by with_unfolding_all rfl) (by kmk_pure) (by (first | decide | omega | (simp only [List.length_append, List.length_cons, List.length_nil] at *; omega)))); intro zzD' zzh' zzF' zzN' zzl1; (try k_lt zzl1); (try k_sweep))) | ((with_reducible show wpAny _ _ (subscriptTail (Expr.Name _ _) (Expr.Name _ _) (Value.ref _) (Value.int _ _)) _ _ _); (k_dflt (refine' item_list (by is_list) (by (first | decide | omega | (simp only [List.size_toArray] at *; omega))) (by (first | decide | omega | (simp only [List.size_toArray] at *; omega))) (by assumption) ?_))) | ((with_reducible show wpAny _ _ (call (Value.builtin "len") [_]) _ _ _); (k_dflt (refine' call_len_list (by is_list) (by (first | decide | (simp only [List.size_toArray]; omega) | (simp only [List.size_toArray, List.length_cons, List.length_append, List.length_map, List.length_nil, List.length_take, List.length_drop]; omega))) ?_))) | walk1))) | fail "no step"))
  refine stCN (own := [(al, LCg.lst avs), (L + 1 + 1, oM)]) F N (by rfl) eA ?_ (fun p hp => (hoff p hp).2) ?_
  · intro p hp
    rcases List.mem_cons.mp hp with rfl | hp
    · exact offa.2.1.symm
    · rw [List.mem_singleton.mp hp]; exact Nat.ne_of_lt (Nat.lt_succ_self _)
  intro h2 oA2 F2 N2 eA2
  have offx : ∀ p ∈ fx, p.1 ≠ al := fun p hp q => by
    have : ∀ {l : List (Addr × Obj)}, LCg.Off1 al l → ∀ p ∈ l, p.1 ≠ al := fun {l} => by
      induction l with
      | nil => exact fun _ _ h => nomatch h
      | cons q r ih =>
        intro z p hp
        rcases List.mem_cons.mp hp with rfl | hp
        · exact z.1
        · exact ih z.2 p hp
    exact this offa.2.2 p hp q
  have a1 : al ≠ L + 1 + 1 := offa.1.symm
  have a2 : al ≠ L + 1 + 1 + 1 := offa.2.1.symm
  clear F N
  simp only [List.cons_append, List.nil_append] at N2
  (repeat' (first | (k_unfold; (try dsimp only)) | ((( (fail_if_success (with_reducible show wpAny _ _ (pyIter _) _ _ _)); (fail_if_success (with_reducible show wpAny _ _ (exec (Stmt.While _ _ _ _) _) _ _ _)))); (( (fail_if_success (with_reducible show wpAny _ _ (eval (Expr.ListComp _ _ _ _) _) _ _ _)); (fail_if_success (with_reducible show wpAny _ _ (exec (Stmt.Assign _ (Expr.ListComp _ _ _ _) _) _) _ _ _)); (fail_if_success (with_reducible show LCg.CompSrc _ _ _ _ _ _ _ _ _ _ _ _ _ _)))); (fail_if_success (with_reducible show wpAny _ _ (call (Prod.fst _) _) _ _ _)); (fail_if_success (with_reducible show wpAny _ _ (call (Value.ref 155) _) _ _ _)); (fail_if_success (with_reducible show wpAny _ _ (call (Value.ref 101) _) _ _ _)); (fail_if_success (with_reducible show wpAny _ _ (binaryOp _ (Value.ref _) (Value.ref _)) _ _ _)); (fail_if_success (with_reducible show EcAt _ _ _ _ _ _ _ _ _ _ _ _ _ _)); (fail_if_success (with_reducible show wpAny _ _ (call (Value.type "range") _) _ _ _)); (fail_if_success (with_reducible show wpAny _ _ (exec (Stmt.Assign _ (Expr.ListComp _ _ _ _) _) _) _ _ _)); (fail_if_success (with_reducible show wpAny _ _ (compareOp CmpOp.NotEq (Value.ref _) (Value.ref _)) _ _ _)); first | (first | ((with_reducible show wpAny _ _ (execs [] _) _ _ _); (k_here; (with_reducible refine gen_toks ?_); intro zztk)) | ((with_reducible show wpAny _ _ (execs (_ :: _) _) _ _ _); (k_here; (with_reducible refine gen_toks ?_); intro zztk)) | ((with_reducible show wpAny _ _ (execs (_ :: _) _) _ _ _); (k_here; (with_reducible refine wpAny_execs_cons ?_); (try dsimp only); k_fold)) | ((with_reducible show wpAny _ _ (call (Value.type "enumerate") _) _ _ _); (k_here; (with_reducible rename EnMark => zzhEnM); k_dflt (refine enum_call (by k_asm) (by k_asm) (by k_mem) ?_); intro zze' zzit' zzh' zzhe' zzhi' zzhei' zzhoff' zzhen' zzheL' zzF' zzN')) | ((k_here; (with_reducible show wpAny _ _ (subscriptTail _ (PySem.Expr.Slice _ _ none _) (Value.ref _) (Value.ref _)) _ _ _); k_dflt (refine' slice_ex (by k_asm) (by k_asm) (by kmk_list) (by kmk_part) (by kmk_part) ?_ (by with_unfolding_all rfl) (by kmk_pure) (by (first | decide | omega | (simp only [List.length_append, List.length_cons, List.length_nil] at *; omega)))); intro zzD' zzh' zzF' zzN' zzl1; (try k_lt zzl1); (try k_sweep))) | ((with_reducible show wpAny _ _ (subscriptTail (Expr.Name _ _) (Expr.Name _ _) (Value.ref _) (Value.int _ _)) _ _ _); (k_dflt (refine' item_list (by is_list) (by (first | decide | omega | (simp only [List.size_toArray] at *; omega))) (by (first | decide | omega | (simp only [List.size_toArray] at *; omega))) (by assumption) ?_))) | ((with_reducible show wpAny _ _ (call (Value.builtin "len") [_]) _ _ _); (k_dflt (refine' call_len_list (by is_list) (by (first | decide | (simp only [List.size_toArray]; omega) | (simp only [List.size_toArray, List.length_cons, List.length_append, List.length_map, List.length_nil, List.length_take, List.length_drop]; omega))) ?_))) | walk1) | (dsimp only; (first | ((with_reducible show wpAny _ _ (execs [] _) _ _ _); (k_here; (with_reducible refine gen_toks ?_); intro zztk)) | ((with_reducible show wpAny _ _ (execs (_ :: _) _) _ _ _); (k_here; (with_reducible refine gen_toks ?_); intro zztk)) | ((with_reducible show wpAny _ _ (execs (_ :: _) _) _ _ _); (k_here; (with_reducible refine wpAny_execs_cons ?_); (try dsimp only); k_fold)) | ((with_reducible show wpAny _ _ (call (Value.type "enumerate") _) _ _ _); (k_here; (with_reducible rename EnMark => zzhEnM); k_dflt (refine enum_call (by k_asm) (by k_asm) (by k_mem) ?_); intro zze' zzit' zzh' zzhe' zzhi' zzhei' zzhoff' zzhen' zzheL' zzF' zzN')) | ((k_here; (with_reducible show wpAny _ _ (subscriptTail _ (PySem.Expr.Slice _ _ none _) (Value.ref _) (Value.ref _)) _ _ _); k_dflt (refine' slice_ex (by k_asm) (by k_asm) (by kmk_list) (by kmk_part) (by kmk_part) ?_ (by with_unfolding_all rfl) (by kmk_pure) (by (first | decide | omega | (simp only [List.length_append, List.length_cons, List.length_nil] at *; omega)))); intro zzD' zzh' zzF' zzN' zzl1; (try k_lt zzl1); (try k_sweep))) | ((with_reducible show wpAny _ _ (subscriptTail (Expr.Name _ _) (Expr.Name _ _) (Value.ref _) (Value.int _ _)) _ _ _); (k_dflt (refine' item_list (by is_list) (by (first | decide | omega | (simp only [List.size_toArray] at *; omega))) (by (first | decide | omega | (simp only [List.size_toArray] at *; omega))) (by assumption) ?_))) | ((with_reducible show wpAny _ _ (call (Value.builtin "len") [_]) _ _ _); (k_dflt (refine' call_len_list (by is_list) (by (first | decide | (simp only [List.size_toArray]; omega) | (simp only [List.size_toArray, List.length_cons, List.length_append, List.length_map, List.length_nil, List.length_take, List.length_drop]; omega))) ?_))) | walk1))) | fail "no step"))
  ((k_dflt (refine LCp.Assign_ListComp_P (F₀ := by k_asm) (by rfl) (by with_unfolding_all rfl) (by with_unfolding_all rfl) (by decide) (by rfl) (by decide) (by rfl) (by rfl) (by decide) (by rfl) (by rfl) ?_)))
  (repeat' (first | (k_unfold; (try dsimp only)) | ((( (fail_if_success (with_reducible show wpAny _ _ (pyIter _) _ _ _)); (fail_if_success (with_reducible show wpAny _ _ (exec (Stmt.While _ _ _ _) _) _ _ _)))); (( (fail_if_success (with_reducible show wpAny _ _ (eval (Expr.ListComp _ _ _ _) _) _ _ _)); (fail_if_success (with_reducible show wpAny _ _ (exec (Stmt.Assign _ (Expr.ListComp _ _ _ _) _) _) _ _ _)); (fail_if_success (with_reducible show LCg.CompSrc _ _ _ _ _ _ _ _ _ _ _ _ _ _)))); (fail_if_success (with_reducible show wpAny _ _ (call (Prod.fst _) _) _ _ _)); (fail_if_success (with_reducible show wpAny _ _ (call (Value.ref 155) _) _ _ _)); (fail_if_success (with_reducible show wpAny _ _ (call (Value.ref 101) _) _ _ _)); (fail_if_success (with_reducible show wpAny _ _ (binaryOp _ (Value.ref _) (Value.ref _)) _ _ _)); (fail_if_success (with_reducible show EcAt _ _ _ _ _ _ _ _ _ _ _ _ _ _)); (fail_if_success (with_reducible show wpAny _ _ (call (Value.type "range") _) _ _ _)); (fail_if_success (with_reducible show wpAny _ _ (exec (Stmt.Assign _ (Expr.ListComp _ _ _ _) _) _) _ _ _)); (fail_if_success (with_reducible show wpAny _ _ (compareOp CmpOp.NotEq (Value.ref _) (Value.ref _)) _ _ _)); first | (first | ((with_reducible show wpAny _ _ (execs [] _) _ _ _); (k_here; (with_reducible refine gen_toks ?_); intro zztk)) | ((with_reducible show wpAny _ _ (execs (_ :: _) _) _ _ _); (k_here; (with_reducible refine gen_toks ?_); intro zztk)) | ((with_reducible show wpAny _ _ (execs (_ :: _) _) _ _ _); (k_here; (with_reducible refine wpAny_execs_cons ?_); (try dsimp only); k_fold)) | ((with_reducible show wpAny _ _ (call (Value.type "enumerate") _) _ _ _); (k_here; (with_reducible rename EnMark => zzhEnM); k_dflt (refine enum_call (by k_asm) (by k_asm) (by k_mem) ?_); intro zze' zzit' zzh' zzhe' zzhi' zzhei' zzhoff' zzhen' zzheL' zzF' zzN')) | ((k_here; (with_reducible show wpAny _ _ (subscriptTail _ (PySem.Expr.Slice _ _ none _) (Value.ref _) (Value.ref _)) _ _ _); k_dflt (refine' slice_ex (by k_asm) (by k_asm) (by kmk_list) (by kmk_part) (by kmk_part) ?_ (by with_unfolding_all rfl) (by kmk_pure) (by (first | decide | omega | (simp only [List.length_append, List.length_cons, List.length_nil] at *; omega)))); intro zzD' zzh' zzF' zzN' zzl1; (try k_lt zzl1); (try k_sweep))) | ((with_reducible show wpAny _ _ (subscriptTail (Expr.Name _ _) (Expr.Name _ _) (Value.ref _) (Value.int _ _)) _ _ _); (k_dflt (refine' item_list (by is_list) (by (first | decide | omega | (simp only [List.size_toArray] at *; omega))) (by (first | decide | omega | (simp only [List.size_toArray] at *; omega))) (by assumption) ?_))) | ((with_reducible show wpAny _ _ (call (Value.builtin "len") [_]) _ _ _); (k_dflt (refine' call_len_list (by is_list) (by (first | decide | (simp only [List.size_toArray]; omega) | (simp only [List.size_toArray, List.length_cons, List.length_append, List.length_map, List.length_nil, List.length_take, List.length_drop]; omega))) ?_))) | walk1) | (dsimp only; (first | ((with_reducible show wpAny _ _ (execs [] _) _ _ _); (k_here; (with_reducible refine gen_toks ?_); intro zztk)) | ((with_reducible show wpAny _ _ (execs (_ :: _) _) _ _ _); (k_here; (with_reducible refine gen_toks ?_); intro zztk)) | ((with_reducible show wpAny _ _ (execs (_ :: _) _) _ _ _); (k_here; (with_reducible refine wpAny_execs_cons ?_); (try dsimp only); k_fold)) | ((with_reducible show wpAny _ _ (call (Value.type "enumerate") _) _ _ _); (k_here; (with_reducible rename EnMark => zzhEnM); k_dflt (refine enum_call (by k_asm) (by k_asm) (by k_mem) ?_); intro zze' zzit' zzh' zzhe' zzhi' zzhei' zzhoff' zzhen' zzheL' zzF' zzN')) | ((k_here; (with_reducible show wpAny _ _ (subscriptTail _ (PySem.Expr.Slice _ _ none _) (Value.ref _) (Value.ref _)) _ _ _); k_dflt (refine' slice_ex (by k_asm) (by k_asm) (by kmk_list) (by kmk_part) (by kmk_part) ?_ (by with_unfolding_all rfl) (by kmk_pure) (by (first | decide | omega | (simp only [List.length_append, List.length_cons, List.length_nil] at *; omega)))); intro zzD' zzh' zzF' zzN' zzl1; (try k_lt zzl1); (try k_sweep))) | ((with_reducible show wpAny _ _ (subscriptTail (Expr.Name _ _) (Expr.Name _ _) (Value.ref _) (Value.int _ _)) _ _ _); (k_dflt (refine' item_list (by is_list) (by (first | decide | omega | (simp only [List.size_toArray] at *; omega))) (by (first | decide | omega | (simp only [List.size_toArray] at *; omega))) (by assumption) ?_))) | ((with_reducible show wpAny _ _ (call (Value.builtin "len") [_]) _ _ _); (k_dflt (refine' call_len_list (by is_list) (by (first | decide | (simp only [List.size_toArray]; omega) | (simp only [List.size_toArray, List.length_cons, List.length_append, List.length_map, List.length_nil, List.length_take, List.length_drop]; omega))) ?_))) | walk1))) | fail "no step"))
  (rename Fr _ _ _ _ => F3); (rename News _ _ _ _ => N3)
  have hin3 : ∀ a o, (a, o) ∈ fx → _ = _ := fun a o q => (N3 (a, o) (.tail _ (.tail _ (.tail _ q)))).1
  have av9 : avs.length ≤ 100 := by rw [IntsAre.length hav, argsOf_len]; omega
  refine vals_spec (P := fun a o => (a, o) ∈ fx) (ans := argsOf n) (B.keeps F3.keep) ?vd ?vu hin3 (hin3 _ _ gx) (hin3 _ _ gd') (hin3 _ _ gn) (hin3 _ _ go) (N3 _ (.head _)).1 hn ho hr hav zn1 zo1 av9 ?_
  case vd => k_room
  case vu => ((have hcL := cLine_is; (try simp only [units_under_make, units_in1, units_deeper, Around.mark_units, units_caller]); (try dsimp only [Ar]); omega))
  intro pl pls c nx h4 tk4 kp4 gnx gpl hps
  have F4 := fr_kept F3 kp4
  have N4 := news_news F3 gnx (news_kept N3 kp4)
  obtain ⟨tl, htl⟩ : ∃ tl, tl = nx ++ fx := ⟨_, rfl⟩
  have hfx : ∀ p ∈ fx, p ∈ tl := fun p hp => htl ▸ List.mem_append_right _ hp
  have hnx : ∀ p ∈ nx, p ∈ tl := fun p hp => htl ▸ List.mem_append_left _ hp
  have N5 : News h₀ L h4 ([(L + 1 + 1, oM), (L + 1 + 1 + 1, oA2), (al, LCg.lst avs)] ++ tl) := news_sub N4 fun p hp => by
    rw [htl] at hp
    simp only [List.cons_append, List.nil_append, List.mem_cons, List.mem_append] at hp ⊢
    rcases hp with h | h | h | h | h
    · exact .inr (.inr (.inl h))
    · exact .inr (.inr (.inr (.inl h)))
    · exact .inr (.inl h)
    · exact .inl h
    · exact .inr (.inr (.inr (.inr h)))
  have gpl' := hnx _ gpl
  have hps' := hps.mono (P' := fun a o => (a, o) ∈ tl) fun a o q => q.elim (hnx _) (hfx _)
  generalize hds : vdat (argsOf n) (nd ++ op) ++ vdatR (argsOf n) (nd ++ op).length rs = ds at hps'
  have ds8 := pairs_name hps'
  have ds7 : ∀ d ∈ ds, d.1 ≠ Str.ofString "7" := by
    intro d hd
    rw [← hds] at hd
    rcases List.mem_append.mp hd with hd | hd
    · exact (List.mem_append.mp (vdat_names hd)).elim (n7nd _) (n7op _)
    · cases hr with
      | none => cases hd
      | some _ h7 => rw [List.mem_singleton.mp hd]; exact h7
  clear F3 N3 N4 hps gpl gnx kp4
  have ds9 : ∀ d ∈ ds, ∀ ns, d.2 = .list ns → ns.length ≤ 100 := by
    intro d hd ns e
    rw [← hds] at hd
    rcases List.mem_append.mp hd with hd | hd
    · rw [vdat_list hd e]; exact Nat.zero_le _
    · cases rs with
      | none => cases hd
      | some r =>
        rw [List.mem_singleton.mp hd] at e
        cases e
        rw [List.length_drop, argsOf_len]; omega
  have pls2 : pls.length ≤ 300 := by
    have e1 := hn.length
    have e2 := ho.length
    rw [hps'.length, ← hds, List.length_append, vdat_len, List.length_append]
    cases rs <;> simp only [vdatR, List.length_nil, List.length_singleton] <;> omega
  refine LCp.SrcLP.ledger rfl F4 N5 (ax := pl) (List.mem_append_right _ gpl') (by rw [sizeLine_eq, List.size_toArray]; omega) ?_
  intro g'
  refine rest_ofP (GotJ [(L + 1 + 1, oM), (L + 1 + 1 + 1, oA2), (al, LCg.lst avs)] tl ds) ⟨⟨tl, rfl, fun _ h => h, .nil⟩⟩ ?_ ?_
  · rintro i ys nx v hin ⟨gr, rfl, hsub, hgot⟩ hv
    rw [List.size_toArray] at hin
    obtain ⟨v2, d2, q1, q2, q3⟩ := hps'.get i hin
    rw [List.getElem?_toArray, q1] at hv
    cases hv
    obtain ⟨t, nt, sv, val, xn, pv, rfl, rfl, p1, p2, p3⟩ := q3.inv
    have pgr := p2.mono (P' := fun a o => (a, o) ∈ gr) fun a o q => hsub _ q
    have vgr := p3.mono (P' := fun a o => (a, o) ∈ gr) fun a o q => hsub _ q
    refine ⟨t, _, sv, val, nt, rfl, List.mem_append_right _ (hsub _ p1), rfl, rfl, ?_⟩
    intro I oI C oC' D m₂ h tk E' hC hx1 hx2 F N off ne
    have x7 := ds7 _ (List.mem_of_getElem? q2)
    dsimp only at x7
    clear F4 N5
    simp only [List.cons_append, List.nil_append] at N off
    cases pgr with
    | seven => exact absurd rfl x7
    | sym s1 s2 s3 =>
      have s1' : (_, instObj 51 _) ∈ gr := s1
      have s2' : (_, dictOf _ _) ∈ gr := s2
      cases vgr with
      | int =>
        (repeat' (first | (k_unfold; (try dsimp only)) | ((( (fail_if_success (with_reducible show wpAny _ _ (pyIter _) _ _ _)); (fail_if_success (with_reducible show wpAny _ _ (exec (Stmt.While _ _ _ _) _) _ _ _)))); (( (fail_if_success (with_reducible show wpAny _ _ (eval (Expr.ListComp _ _ _ _) _) _ _ _)); (fail_if_success (with_reducible show wpAny _ _ (exec (Stmt.Assign _ (Expr.ListComp _ _ _ _) _) _) _ _ _)); (fail_if_success (with_reducible show LCg.CompSrc _ _ _ _ _ _ _ _ _ _ _ _ _ _)))); (fail_if_success (with_reducible show wpAny _ _ (call (Prod.fst _) _) _ _ _)); (fail_if_success (with_reducible show wpAny _ _ (call (Value.ref 155) _) _ _ _)); (fail_if_success (with_reducible show wpAny _ _ (call (Value.ref 101) _) _ _ _)); (fail_if_success (with_reducible show wpAny _ _ (binaryOp _ (Value.ref _) (Value.ref _)) _ _ _)); (fail_if_success (with_reducible show EcAt _ _ _ _ _ _ _ _ _ _ _ _ _ _)); (fail_if_success (with_reducible show wpAny _ _ (call (Value.type "range") _) _ _ _)); (fail_if_success (with_reducible show wpAny _ _ (exec (Stmt.Assign _ (Expr.ListComp _ _ _ _) _) _) _ _ _)); (fail_if_success (with_reducible show wpAny _ _ (compareOp CmpOp.NotEq (Value.ref _) (Value.ref _)) _ _ _)); first | (first | ((with_reducible show wpAny _ _ (execs [] _) _ _ _); (k_here; (with_reducible refine gen_toks ?_); intro zztk)) | ((with_reducible show wpAny _ _ (execs (_ :: _) _) _ _ _); (k_here; (with_reducible refine gen_toks ?_); intro zztk)) | ((with_reducible show wpAny _ _ (execs (_ :: _) _) _ _ _); (k_here; (with_reducible refine wpAny_execs_cons ?_); (try dsimp only); k_fold)) | ((with_reducible show wpAny _ _ (call (Value.type "enumerate") _) _ _ _); (k_here; (with_reducible rename EnMark => zzhEnM); k_dflt (refine enum_call (by k_asm) (by k_asm) (by k_mem) ?_); intro zze' zzit' zzh' zzhe' zzhi' zzhei' zzhoff' zzhen' zzheL' zzF' zzN')) | ((k_here; (with_reducible show wpAny _ _ (subscriptTail _ (PySem.Expr.Slice _ _ none _) (Value.ref _) (Value.ref _)) _ _ _); k_dflt (refine' slice_ex (by k_asm) (by k_asm) (by kmk_list) (by kmk_part) (by kmk_part) ?_ (by with_unfolding_all rfl) (by kmk_pure) (by (first | decide | omega | (simp only [List.length_append, List.length_cons, List.length_nil] at *; omega)))); intro zzD' zzh' zzF' zzN' zzl1; (try k_lt zzl1); (try k_sweep))) | ((with_reducible show wpAny _ _ (subscriptTail (Expr.Name _ _) (Expr.Name _ _) (Value.ref _) (Value.int _ _)) _ _ _); (k_dflt (refine' item_list (by is_list) (by (first | decide | omega | (simp only [List.size_toArray] at *; omega))) (by (first | decide | omega | (simp only [List.size_toArray] at *; omega))) (by assumption) ?_))) | ((with_reducible show wpAny _ _ (call (Value.builtin "len") [_]) _ _ _); (k_dflt (refine' call_len_list (by is_list) (by (first | decide | (simp only [List.size_toArray]; omega) | (simp only [List.size_toArray, List.length_cons, List.length_append, List.length_map, List.length_nil, List.length_take, List.length_drop]; omega))) ?_))) | walk1) | (dsimp only; (first | ((with_reducible show wpAny _ _ (execs [] _) _ _ _); (k_here; (with_reducible refine gen_toks ?_); intro zztk)) | ((with_reducible show wpAny _ _ (execs (_ :: _) _) _ _ _); (k_here; (with_reducible refine gen_toks ?_); intro zztk)) | ((with_reducible show wpAny _ _ (execs (_ :: _) _) _ _ _); (k_here; (with_reducible refine wpAny_execs_cons ?_); (try dsimp only); k_fold)) | ((with_reducible show wpAny _ _ (call (Value.type "enumerate") _) _ _ _); (k_here; (with_reducible rename EnMark => zzhEnM); k_dflt (refine enum_call (by k_asm) (by k_asm) (by k_mem) ?_); intro zze' zzit' zzh' zzhe' zzhi' zzhei' zzhoff' zzhen' zzheL' zzF' zzN')) | ((k_here; (with_reducible show wpAny _ _ (subscriptTail _ (PySem.Expr.Slice _ _ none _) (Value.ref _) (Value.ref _)) _ _ _); k_dflt (refine' slice_ex (by k_asm) (by k_asm) (by kmk_list) (by kmk_part) (by kmk_part) ?_ (by with_unfolding_all rfl) (by kmk_pure) (by (first | decide | omega | (simp only [List.length_append, List.length_cons, List.length_nil] at *; omega)))); intro zzD' zzh' zzF' zzN' zzl1; (try k_lt zzl1); (try k_sweep))) | ((with_reducible show wpAny _ _ (subscriptTail (Expr.Name _ _) (Expr.Name _ _) (Value.ref _) (Value.int _ _)) _ _ _); (k_dflt (refine' item_list (by is_list) (by (first | decide | omega | (simp only [List.size_toArray] at *; omega))) (by (first | decide | omega | (simp only [List.size_toArray] at *; omega))) (by assumption) ?_))) | ((with_reducible show wpAny _ _ (call (Value.builtin "len") [_]) _ _ _); (k_dflt (refine' call_len_list (by is_list) (by (first | decide | (simp only [List.size_toArray]; omega) | (simp only [List.size_toArray, List.length_cons, List.length_append, List.length_map, List.length_nil, List.length_take, List.length_drop]; omega))) ?_))) | walk1))) | fail "no step"))
        (rename Fr _ _ _ _ => F6); (rename News _ _ _ _ => N6); (rename (_ ∧ _ ∧ _ ∧ _ ∧ _) => l1)
        exact got_end F6 N6 [] (.head _) (fun p hp => .tail _ hp) ⟨(Nat.ne_of_lt l1.1).symm, (Nat.ne_of_lt l1.2.1).symm, (Nat.ne_of_lt l1.2.2.1).symm⟩ (fun _ h => nomatch h) off hsub hgot q2 .int gpl'
      | list l1 l2 =>
        have iv9 := ints_le l2 (ds9 _ (List.mem_of_getElem? q2) _ rfl)
        have hx := handed_ints l2
        have l1c := l1
        cases l1 with
        | nil =>
          (repeat' (first | (k_unfold; (try dsimp only)) | ((( (fail_if_success (with_reducible show wpAny _ _ (pyIter _) _ _ _)); (fail_if_success (with_reducible show wpAny _ _ (exec (Stmt.While _ _ _ _) _) _ _ _)))); (( (fail_if_success (with_reducible show wpAny _ _ (eval (Expr.ListComp _ _ _ _) _) _ _ _)); (fail_if_success (with_reducible show wpAny _ _ (exec (Stmt.Assign _ (Expr.ListComp _ _ _ _) _) _) _ _ _)); (fail_if_success (with_reducible show LCg.CompSrc _ _ _ _ _ _ _ _ _ _ _ _ _ _)))); (fail_if_success (with_reducible show wpAny _ _ (call (Prod.fst _) _) _ _ _)); (fail_if_success (with_reducible show wpAny _ _ (call (Value.ref 155) _) _ _ _)); (fail_if_success (with_reducible show wpAny _ _ (call (Value.ref 101) _) _ _ _)); (fail_if_success (with_reducible show wpAny _ _ (binaryOp _ (Value.ref _) (Value.ref _)) _ _ _)); (fail_if_success (with_reducible show EcAt _ _ _ _ _ _ _ _ _ _ _ _ _ _)); (fail_if_success (with_reducible show wpAny _ _ (call (Value.type "range") _) _ _ _)); (fail_if_success (with_reducible show wpAny _ _ (exec (Stmt.Assign _ (Expr.ListComp _ _ _ _) _) _) _ _ _)); (fail_if_success (with_reducible show wpAny _ _ (compareOp CmpOp.NotEq (Value.ref _) (Value.ref _)) _ _ _)); first | (first | ((with_reducible show wpAny _ _ (execs [] _) _ _ _); (k_here; (with_reducible refine gen_toks ?_); intro zztk)) | ((with_reducible show wpAny _ _ (execs (_ :: _) _) _ _ _); (k_here; (with_reducible refine gen_toks ?_); intro zztk)) | ((with_reducible show wpAny _ _ (execs (_ :: _) _) _ _ _); (k_here; (with_reducible refine wpAny_execs_cons ?_); (try dsimp only); k_fold)) | ((with_reducible show wpAny _ _ (call (Value.type "enumerate") _) _ _ _); (k_here; (with_reducible rename EnMark => zzhEnM); k_dflt (refine enum_call (by k_asm) (by k_asm) (by k_mem) ?_); intro zze' zzit' zzh' zzhe' zzhi' zzhei' zzhoff' zzhen' zzheL' zzF' zzN')) | ((k_here; (with_reducible show wpAny _ _ (subscriptTail _ (PySem.Expr.Slice _ _ none _) (Value.ref _) (Value.ref _)) _ _ _); k_dflt (refine' slice_ex (by k_asm) (by k_asm) (by kmk_list) (by kmk_part) (by kmk_part) ?_ (by with_unfolding_all rfl) (by kmk_pure) (by (first | decide | omega | (simp only [List.length_append, List.length_cons, List.length_nil] at *; omega)))); intro zzD' zzh' zzF' zzN' zzl1; (try k_lt zzl1); (try k_sweep))) | ((with_reducible show wpAny _ _ (subscriptTail (Expr.Name _ _) (Expr.Name _ _) (Value.ref _) (Value.int _ _)) _ _ _); (k_dflt (refine' item_list (by is_list) (by (first | decide | omega | (simp only [List.size_toArray] at *; omega))) (by (first | decide | omega | (simp only [List.size_toArray] at *; omega))) (by assumption) ?_))) | ((with_reducible show wpAny _ _ (call (Value.builtin "len") [_]) _ _ _); (k_dflt (refine' call_len_list (by is_list) (by (first | decide | (simp only [List.size_toArray]; omega) | (simp only [List.size_toArray, List.length_cons, List.length_append, List.length_map, List.length_nil, List.length_take, List.length_drop]; omega))) ?_))) | walk1) | (dsimp only; (first | ((with_reducible show wpAny _ _ (execs [] _) _ _ _); (k_here; (with_reducible refine gen_toks ?_); intro zztk)) | ((with_reducible show wpAny _ _ (execs (_ :: _) _) _ _ _); (k_here; (with_reducible refine gen_toks ?_); intro zztk)) | ((with_reducible show wpAny _ _ (execs (_ :: _) _) _ _ _); (k_here; (with_reducible refine wpAny_execs_cons ?_); (try dsimp only); k_fold)) | ((with_reducible show wpAny _ _ (call (Value.type "enumerate") _) _ _ _); (k_here; (with_reducible rename EnMark => zzhEnM); k_dflt (refine enum_call (by k_asm) (by k_asm) (by k_mem) ?_); intro zze' zzit' zzh' zzhe' zzhi' zzhei' zzhoff' zzhen' zzheL' zzF' zzN')) | ((k_here; (with_reducible show wpAny _ _ (subscriptTail _ (PySem.Expr.Slice _ _ none _) (Value.ref _) (Value.ref _)) _ _ _); k_dflt (refine' slice_ex (by k_asm) (by k_asm) (by kmk_list) (by kmk_part) (by kmk_part) ?_ (by with_unfolding_all rfl) (by kmk_pure) (by (first | decide | omega | (simp only [List.length_append, List.length_cons, List.length_nil] at *; omega)))); intro zzD' zzh' zzF' zzN' zzl1; (try k_lt zzl1); (try k_sweep))) | ((with_reducible show wpAny _ _ (subscriptTail (Expr.Name _ _) (Expr.Name _ _) (Value.ref _) (Value.int _ _)) _ _ _); (k_dflt (refine' item_list (by is_list) (by (first | decide | omega | (simp only [List.size_toArray] at *; omega))) (by (first | decide | omega | (simp only [List.size_toArray] at *; omega))) (by assumption) ?_))) | ((with_reducible show wpAny _ _ (call (Value.builtin "len") [_]) _ _ _); (k_dflt (refine' call_len_list (by is_list) (by (first | decide | (simp only [List.size_toArray]; omega) | (simp only [List.size_toArray, List.length_cons, List.length_append, List.length_map, List.length_nil, List.length_take, List.length_drop]; omega))) ?_))) | walk1))) | fail "no step"))
          (rename Fr _ _ _ _ => F6); (rename News _ _ _ _ => N6)
          k_dflt (refine items_call B F6 N6 ?id (l1c.mono fun a o q => (N6 (a, o) (.tail _ (.tail _ (.tail _ (.tail _ (.tail _ (.tail _ q))))))).1) iv9 hx ?_)
          case id => k_room
          intro lt h6 tk6 n6 F7 N7 off7 kp7
          clear F6 N6 kp7
          (repeat' (first | (k_unfold; (try dsimp only)) | ((( (fail_if_success (with_reducible show wpAny _ _ (pyIter _) _ _ _)); (fail_if_success (with_reducible show wpAny _ _ (exec (Stmt.While _ _ _ _) _) _ _ _)))); (( (fail_if_success (with_reducible show wpAny _ _ (eval (Expr.ListComp _ _ _ _) _) _ _ _)); (fail_if_success (with_reducible show wpAny _ _ (exec (Stmt.Assign _ (Expr.ListComp _ _ _ _) _) _) _ _ _)); (fail_if_success (with_reducible show LCg.CompSrc _ _ _ _ _ _ _ _ _ _ _ _ _ _)))); (fail_if_success (with_reducible show wpAny _ _ (call (Prod.fst _) _) _ _ _)); (fail_if_success (with_reducible show wpAny _ _ (call (Value.ref 155) _) _ _ _)); (fail_if_success (with_reducible show wpAny _ _ (call (Value.ref 101) _) _ _ _)); (fail_if_success (with_reducible show wpAny _ _ (binaryOp _ (Value.ref _) (Value.ref _)) _ _ _)); (fail_if_success (with_reducible show EcAt _ _ _ _ _ _ _ _ _ _ _ _ _ _)); (fail_if_success (with_reducible show wpAny _ _ (call (Value.type "range") _) _ _ _)); (fail_if_success (with_reducible show wpAny _ _ (exec (Stmt.Assign _ (Expr.ListComp _ _ _ _) _) _) _ _ _)); (fail_if_success (with_reducible show wpAny _ _ (compareOp CmpOp.NotEq (Value.ref _) (Value.ref _)) _ _ _)); first | (first | ((with_reducible show wpAny _ _ (execs [] _) _ _ _); (k_here; (with_reducible refine gen_toks ?_); intro zztk)) | ((with_reducible show wpAny _ _ (execs (_ :: _) _) _ _ _); (k_here; (with_reducible refine gen_toks ?_); intro zztk)) | ((with_reducible show wpAny _ _ (execs (_ :: _) _) _ _ _); (k_here; (with_reducible refine wpAny_execs_cons ?_); (try dsimp only); k_fold)) | ((with_reducible show wpAny _ _ (call (Value.type "enumerate") _) _ _ _); (k_here; (with_reducible rename EnMark => zzhEnM); k_dflt (refine enum_call (by k_asm) (by k_asm) (by k_mem) ?_); intro zze' zzit' zzh' zzhe' zzhi' zzhei' zzhoff' zzhen' zzheL' zzF' zzN')) | ((k_here; (with_reducible show wpAny _ _ (subscriptTail _ (PySem.Expr.Slice _ _ none _) (Value.ref _) (Value.ref _)) _ _ _); k_dflt (refine' slice_ex (by k_asm) (by k_asm) (by kmk_list) (by kmk_part) (by kmk_part) ?_ (by with_unfolding_all rfl) (by kmk_pure) (by (first | decide | omega | (simp only [List.length_append, List.length_cons, List.length_nil] at *; omega)))); intro zzD' zzh' zzF' zzN' zzl1; (try k_lt zzl1); (try k_sweep))) | ((with_reducible show wpAny _ _ (subscriptTail (Expr.Name _ _) (Expr.Name _ _) (Value.ref _) (Value.int _ _)) _ _ _); (k_dflt (refine' item_list (by is_list) (by (first | decide | omega | (simp only [List.size_toArray] at *; omega))) (by (first | decide | omega | (simp only [List.size_toArray] at *; omega))) (by assumption) ?_))) | ((with_reducible show wpAny _ _ (call (Value.builtin "len") [_]) _ _ _); (k_dflt (refine' call_len_list (by is_list) (by (first | decide | (simp only [List.size_toArray]; omega) | (simp only [List.size_toArray, List.length_cons, List.length_append, List.length_map, List.length_nil, List.length_take, List.length_drop]; omega))) ?_))) | walk1) | (dsimp only; (first | ((with_reducible show wpAny _ _ (execs [] _) _ _ _); (k_here; (with_reducible refine gen_toks ?_); intro zztk)) | ((with_reducible show wpAny _ _ (execs (_ :: _) _) _ _ _); (k_here; (with_reducible refine gen_toks ?_); intro zztk)) | ((with_reducible show wpAny _ _ (execs (_ :: _) _) _ _ _); (k_here; (with_reducible refine wpAny_execs_cons ?_); (try dsimp only); k_fold)) | ((with_reducible show wpAny _ _ (call (Value.type "enumerate") _) _ _ _); (k_here; (with_reducible rename EnMark => zzhEnM); k_dflt (refine enum_call (by k_asm) (by k_asm) (by k_mem) ?_); intro zze' zzit' zzh' zzhe' zzhi' zzhei' zzhoff' zzhen' zzheL' zzF' zzN')) | ((k_here; (with_reducible show wpAny _ _ (subscriptTail _ (PySem.Expr.Slice _ _ none _) (Value.ref _) (Value.ref _)) _ _ _); k_dflt (refine' slice_ex (by k_asm) (by k_asm) (by kmk_list) (by kmk_part) (by kmk_part) ?_ (by with_unfolding_all rfl) (by kmk_pure) (by (first | decide | omega | (simp only [List.length_append, List.length_cons, List.length_nil] at *; omega)))); intro zzD' zzh' zzF' zzN' zzl1; (try k_lt zzl1); (try k_sweep))) | ((with_reducible show wpAny _ _ (subscriptTail (Expr.Name _ _) (Expr.Name _ _) (Value.ref _) (Value.int _ _)) _ _ _); (k_dflt (refine' item_list (by is_list) (by (first | decide | omega | (simp only [List.size_toArray] at *; omega))) (by (first | decide | omega | (simp only [List.size_toArray] at *; omega))) (by assumption) ?_))) | ((with_reducible show wpAny _ _ (call (Value.builtin "len") [_]) _ _ _); (k_dflt (refine' call_len_list (by is_list) (by (first | decide | (simp only [List.size_toArray]; omega) | (simp only [List.size_toArray, List.length_cons, List.length_append, List.length_map, List.length_nil, List.length_take, List.length_drop]; omega))) ?_))) | walk1))) | fail "no step"))
          (rename Fr _ _ _ _ => F8); (rename News _ _ _ _ => N8); (rename (_ ∧ _ ∧ _ ∧ _ ∧ _) => l9)
          exact got_end F8 N8 [(lt, listOf (List.toArray _) n6)] (.head _) (fun p hp => by
            simp only [List.cons_append, List.nil_append, List.mem_cons] at hp ⊢
            rcases hp with h | h | h | h | h | h | h | h <;> simp [h]) ⟨(Nat.ne_of_lt l9.2.1).symm, (Nat.ne_of_lt l9.2.2.1).symm, (Nat.ne_of_lt l9.2.2.2.1).symm⟩ (List.forall_mem_cons.mpr ⟨⟨(off7 _ (.head _)).symm, (off7 _ (.tail _ (.head _))).symm, (off7 _ (.tail _ (.tail _ (.head _)))).symm⟩, fun _ h => nomatch h⟩) off hsub hgot q2 (.list (.head _) l2) gpl'
        | cons z1 z2 z3 =>
          have z1' : (_, instObj 75 _) ∈ gr := z1
          have z2' : (_, dictOf _ _) ∈ gr := z2
          (repeat' (first | (k_unfold; (try dsimp only)) | ((( (fail_if_success (with_reducible show wpAny _ _ (pyIter _) _ _ _)); (fail_if_success (with_reducible show wpAny _ _ (exec (Stmt.While _ _ _ _) _) _ _ _)))); (( (fail_if_success (with_reducible show wpAny _ _ (eval (Expr.ListComp _ _ _ _) _) _ _ _)); (fail_if_success (with_reducible show wpAny _ _ (exec (Stmt.Assign _ (Expr.ListComp _ _ _ _) _) _) _ _ _)); (fail_if_success (with_reducible show LCg.CompSrc _ _ _ _ _ _ _ _ _ _ _ _ _ _)))); (fail_if_success (with_reducible show wpAny _ _ (call (Prod.fst _) _) _ _ _)); (fail_if_success (with_reducible show wpAny _ _ (call (Value.ref 155) _) _ _ _)); (fail_if_success (with_reducible show wpAny _ _ (call (Value.ref 101) _) _ _ _)); (fail_if_success (with_reducible show wpAny _ _ (binaryOp _ (Value.ref _) (Value.ref _)) _ _ _)); (fail_if_success (with_reducible show EcAt _ _ _ _ _ _ _ _ _ _ _ _ _ _)); (fail_if_success (with_reducible show wpAny _ _ (call (Value.type "range") _) _ _ _)); (fail_if_success (with_reducible show wpAny _ _ (exec (Stmt.Assign _ (Expr.ListComp _ _ _ _) _) _) _ _ _)); (fail_if_success (with_reducible show wpAny _ _ (compareOp CmpOp.NotEq (Value.ref _) (Value.ref _)) _ _ _)); first | (first | ((with_reducible show wpAny _ _ (execs [] _) _ _ _); (k_here; (with_reducible refine gen_toks ?_); intro zztk)) | ((with_reducible show wpAny _ _ (execs (_ :: _) _) _ _ _); (k_here; (with_reducible refine gen_toks ?_); intro zztk)) | ((with_reducible show wpAny _ _ (execs (_ :: _) _) _ _ _); (k_here; (with_reducible refine wpAny_execs_cons ?_); (try dsimp only); k_fold)) | ((with_reducible show wpAny _ _ (call (Value.type "enumerate") _) _ _ _); (k_here; (with_reducible rename EnMark => zzhEnM); k_dflt (refine enum_call (by k_asm) (by k_asm) (by k_mem) ?_); intro zze' zzit' zzh' zzhe' zzhi' zzhei' zzhoff' zzhen' zzheL' zzF' zzN')) | ((k_here; (with_reducible show wpAny _ _ (subscriptTail _ (PySem.Expr.Slice _ _ none _) (Value.ref _) (Value.ref _)) _ _ _); k_dflt (refine' slice_ex (by k_asm) (by k_asm) (by kmk_list) (by kmk_part) (by kmk_part) ?_ (by with_unfolding_all rfl) (by kmk_pure) (by (first | decide | omega | (simp only [List.length_append, List.length_cons, List.length_nil] at *; omega)))); intro zzD' zzh' zzF' zzN' zzl1; (try k_lt zzl1); (try k_sweep))) | ((with_reducible show wpAny _ _ (subscriptTail (Expr.Name _ _) (Expr.Name _ _) (Value.ref _) (Value.int _ _)) _ _ _); (k_dflt (refine' item_list (by is_list) (by (first | decide | omega | (simp only [List.size_toArray] at *; omega))) (by (first | decide | omega | (simp only [List.size_toArray] at *; omega))) (by assumption) ?_))) | ((with_reducible show wpAny _ _ (call (Value.builtin "len") [_]) _ _ _); (k_dflt (refine' call_len_list (by is_list) (by (first | decide | (simp only [List.size_toArray]; omega) | (simp only [List.size_toArray, List.length_cons, List.length_append, List.length_map, List.length_nil, List.length_take, List.length_drop]; omega))) ?_))) | walk1) | (dsimp only; (first | ((with_reducible show wpAny _ _ (execs [] _) _ _ _); (k_here; (with_reducible refine gen_toks ?_); intro zztk)) | ((with_reducible show wpAny _ _ (execs (_ :: _) _) _ _ _); (k_here; (with_reducible refine gen_toks ?_); intro zztk)) | ((with_reducible show wpAny _ _ (execs (_ :: _) _) _ _ _); (k_here; (with_reducible refine wpAny_execs_cons ?_); (try dsimp only); k_fold)) | ((with_reducible show wpAny _ _ (call (Value.type "enumerate") _) _ _ _); (k_here; (with_reducible rename EnMark => zzhEnM); k_dflt (refine enum_call (by k_asm) (by k_asm) (by k_mem) ?_); intro zze' zzit' zzh' zzhe' zzhi' zzhei' zzhoff' zzhen' zzheL' zzF' zzN')) | ((k_here; (with_reducible show wpAny _ _ (subscriptTail _ (PySem.Expr.Slice _ _ none _) (Value.ref _) (Value.ref _)) _ _ _); k_dflt (refine' slice_ex (by k_asm) (by k_asm) (by kmk_list) (by kmk_part) (by kmk_part) ?_ (by with_unfolding_all rfl) (by kmk_pure) (by (first | decide | omega | (simp only [List.length_append, List.length_cons, List.length_nil] at *; omega)))); intro zzD' zzh' zzF' zzN' zzl1; (try k_lt zzl1); (try k_sweep))) | ((with_reducible show wpAny _ _ (subscriptTail (Expr.Name _ _) (Expr.Name _ _) (Value.ref _) (Value.int _ _)) _ _ _); (k_dflt (refine' item_list (by is_list) (by (first | decide | omega | (simp only [List.size_toArray] at *; omega))) (by (first | decide | omega | (simp only [List.size_toArray] at *; omega))) (by assumption) ?_))) | ((with_reducible show wpAny _ _ (call (Value.builtin "len") [_]) _ _ _); (k_dflt (refine' call_len_list (by is_list) (by (first | decide | (simp only [List.size_toArray]; omega) | (simp only [List.size_toArray, List.length_cons, List.length_append, List.length_map, List.length_nil, List.length_take, List.length_drop]; omega))) ?_))) | walk1))) | fail "no step"))
          (rename Fr _ _ _ _ => F6); (rename News _ _ _ _ => N6)
          k_dflt (refine items_call B F6 N6 ?id (l1c.mono fun a o q => (N6 (a, o) (.tail _ (.tail _ (.tail _ (.tail _ (.tail _ (.tail _ q))))))).1) iv9 hx ?_)
          case id => k_room
          intro lt h6 tk6 n6 F7 N7 off7 kp7
          clear F6 N6 kp7
          (repeat' (first | (k_unfold; (try dsimp only)) | ((( (fail_if_success (with_reducible show wpAny _ _ (pyIter _) _ _ _)); (fail_if_success (with_reducible show wpAny _ _ (exec (Stmt.While _ _ _ _) _) _ _ _)))); (( (fail_if_success (with_reducible show wpAny _ _ (eval (Expr.ListComp _ _ _ _) _) _ _ _)); (fail_if_success (with_reducible show wpAny _ _ (exec (Stmt.Assign _ (Expr.ListComp _ _ _ _) _) _) _ _ _)); (fail_if_success (with_reducible show LCg.CompSrc _ _ _ _ _ _ _ _ _ _ _ _ _ _)))); (fail_if_success (with_reducible show wpAny _ _ (call (Prod.fst _) _) _ _ _)); (fail_if_success (with_reducible show wpAny _ _ (call (Value.ref 155) _) _ _ _)); (fail_if_success (with_reducible show wpAny _ _ (call (Value.ref 101) _) _ _ _)); (fail_if_success (with_reducible show wpAny _ _ (binaryOp _ (Value.ref _) (Value.ref _)) _ _ _)); (fail_if_success (with_reducible show EcAt _ _ _ _ _ _ _ _ _ _ _ _ _ _)); (fail_if_success (with_reducible show wpAny _ _ (call (Value.type "range") _) _ _ _)); (fail_if_success (with_reducible show wpAny _ _ (exec (Stmt.Assign _ (Expr.ListComp _ _ _ _) _) _) _ _ _)); (fail_if_success (with_reducible show wpAny _ _ (compareOp CmpOp.NotEq (Value.ref _) (Value.ref _)) _ _ _)); first | (first | ((with_reducible show wpAny _ _ (execs [] _) _ _ _); (k_here; (with_reducible refine gen_toks ?_); intro zztk)) | ((with_reducible show wpAny _ _ (execs (_ :: _) _) _ _ _); (k_here; (with_reducible refine gen_toks ?_); intro zztk)) | ((with_reducible show wpAny _ _ (execs (_ :: _) _) _ _ _); (k_here; (with_reducible refine wpAny_execs_cons ?_); (try dsimp only); k_fold)) | ((with_reducible show wpAny _ _ (call (Value.type "enumerate") _) _ _ _); (k_here; (with_reducible rename EnMark => zzhEnM); k_dflt (refine enum_call (by k_asm) (by k_asm) (by k_mem) ?_); intro zze' zzit' zzh' zzhe' zzhi' zzhei' zzhoff' zzhen' zzheL' zzF' zzN')) | ((k_here; (with_reducible show wpAny _ _ (subscriptTail _ (PySem.Expr.Slice _ _ none _) (Value.ref _) (Value.ref _)) _ _ _); k_dflt (refine' slice_ex (by k_asm) (by k_asm) (by kmk_list) (by kmk_part) (by kmk_part) ?_ (by with_unfolding_all rfl) (by kmk_pure) (by (first | decide | omega | (simp only [List.length_append, List.length_cons, List.length_nil] at *; omega)))); intro zzD' zzh' zzF' zzN' zzl1; (try k_lt zzl1); (try k_sweep))) | ((with_reducible show wpAny _ _ (subscriptTail (Expr.Name _ _) (Expr.Name _ _) (Value.ref _) (Value.int _ _)) _ _ _); (k_dflt (refine' item_list (by is_list) (by (first | decide | omega | (simp only [List.size_toArray] at *; omega))) (by (first | decide | omega | (simp only [List.size_toArray] at *; omega))) (by assumption) ?_))) | ((with_reducible show wpAny _ _ (call (Value.builtin "len") [_]) _ _ _); (k_dflt (refine' call_len_list (by is_list) (by (first | decide | (simp only [List.size_toArray]; omega) | (simp only [List.size_toArray, List.length_cons, List.length_append, List.length_map, List.length_nil, List.length_take, List.length_drop]; omega))) ?_))) | walk1) | (dsimp only; (first | ((with_reducible show wpAny _ _ (execs [] _) _ _ _); (k_here; (with_reducible refine gen_toks ?_); intro zztk)) | ((with_reducible show wpAny _ _ (execs (_ :: _) _) _ _ _); (k_here; (with_reducible refine gen_toks ?_); intro zztk)) | ((with_reducible show wpAny _ _ (execs (_ :: _) _) _ _ _); (k_here; (with_reducible refine wpAny_execs_cons ?_); (try dsimp only); k_fold)) | ((with_reducible show wpAny _ _ (call (Value.type "enumerate") _) _ _ _); (k_here; (with_reducible rename EnMark => zzhEnM); k_dflt (refine enum_call (by k_asm) (by k_asm) (by k_mem) ?_); intro zze' zzit' zzh' zzhe' zzhi' zzhei' zzhoff' zzhen' zzheL' zzF' zzN')) | ((k_here; (with_reducible show wpAny _ _ (subscriptTail _ (PySem.Expr.Slice _ _ none _) (Value.ref _) (Value.ref _)) _ _ _); k_dflt (refine' slice_ex (by k_asm) (by k_asm) (by kmk_list) (by kmk_part) (by kmk_part) ?_ (by with_unfolding_all rfl) (by kmk_pure) (by (first | decide | omega | (simp only [List.length_append, List.length_cons, List.length_nil] at *; omega)))); intro zzD' zzh' zzF' zzN' zzl1; (try k_lt zzl1); (try k_sweep))) | ((with_reducible show wpAny _ _ (subscriptTail (Expr.Name _ _) (Expr.Name _ _) (Value.ref _) (Value.int _ _)) _ _ _); (k_dflt (refine' item_list (by is_list) (by (first | decide | omega | (simp only [List.size_toArray] at *; omega))) (by (first | decide | omega | (simp only [List.size_toArray] at *; omega))) (by assumption) ?_))) | ((with_reducible show wpAny _ _ (call (Value.builtin "len") [_]) _ _ _); (k_dflt (refine' call_len_list (by is_list) (by (first | decide | (simp only [List.size_toArray]; omega) | (simp only [List.size_toArray, List.length_cons, List.length_append, List.length_map, List.length_nil, List.length_take, List.length_drop]; omega))) ?_))) | walk1))) | fail "no step"))
          (rename Fr _ _ _ _ => F8); (rename News _ _ _ _ => N8); (rename (_ ∧ _ ∧ _ ∧ _ ∧ _) => l9)
          exact got_end F8 N8 [(lt, listOf (List.toArray _) n6)] (.head _) (fun p hp => by
            simp only [List.cons_append, List.nil_append, List.mem_cons] at hp ⊢
            rcases hp with h | h | h | h | h | h | h | h <;> simp [h]) ⟨(Nat.ne_of_lt l9.2.1).symm, (Nat.ne_of_lt l9.2.2.1).symm, (Nat.ne_of_lt l9.2.2.2.1).symm⟩ (List.forall_mem_cons.mpr ⟨⟨(off7 _ (.head _)).symm, (off7 _ (.tail _ (.head _))).symm, (off7 _ (.tail _ (.tail _ (.head _)))).symm⟩, fun _ h => nomatch h⟩) off hsub hgot q2 (.list (.head _) l2) gpl'
  rintro fvs nx2 ⟨gr, rfl, hsub, hfound⟩ fl h5 tk5 F6 N6 off6
  rw [List.size_toArray, hps'.length, List.take_length] at hfound
  clear F4 N5
  (repeat' (first | (k_unfold; (try dsimp only)) | ((( (fail_if_success (with_reducible show wpAny _ _ (pyIter _) _ _ _)); (fail_if_success (with_reducible show wpAny _ _ (exec (Stmt.While _ _ _ _) _) _ _ _)))); (( (fail_if_success (with_reducible show wpAny _ _ (eval (Expr.ListComp _ _ _ _) _) _ _ _)); (fail_if_success (with_reducible show wpAny _ _ (exec (Stmt.Assign _ (Expr.ListComp _ _ _ _) _) _) _ _ _)); (fail_if_success (with_reducible show LCg.CompSrc _ _ _ _ _ _ _ _ _ _ _ _ _ _)))); (fail_if_success (with_reducible show wpAny _ _ (call (Prod.fst _) _) _ _ _)); (fail_if_success (with_reducible show wpAny _ _ (call (Value.ref 155) _) _ _ _)); (fail_if_success (with_reducible show wpAny _ _ (call (Value.ref 101) _) _ _ _)); (fail_if_success (with_reducible show wpAny _ _ (binaryOp _ (Value.ref _) (Value.ref _)) _ _ _)); (fail_if_success (with_reducible show EcAt _ _ _ _ _ _ _ _ _ _ _ _ _ _)); (fail_if_success (with_reducible show wpAny _ _ (call (Value.type "range") _) _ _ _)); (fail_if_success (with_reducible show wpAny _ _ (exec (Stmt.Assign _ (Expr.ListComp _ _ _ _) _) _) _ _ _)); (fail_if_success (with_reducible show wpAny _ _ (compareOp CmpOp.NotEq (Value.ref _) (Value.ref _)) _ _ _)); first | (first | ((with_reducible show wpAny _ _ (execs [] _) _ _ _); (k_here; (with_reducible refine gen_toks ?_); intro zztk)) | ((with_reducible show wpAny _ _ (execs (_ :: _) _) _ _ _); (k_here; (with_reducible refine gen_toks ?_); intro zztk)) | ((with_reducible show wpAny _ _ (execs (_ :: _) _) _ _ _); (k_here; (with_reducible refine wpAny_execs_cons ?_); (try dsimp only); k_fold)) | ((with_reducible show wpAny _ _ (call (Value.type "enumerate") _) _ _ _); (k_here; (with_reducible rename EnMark => zzhEnM); k_dflt (refine enum_call (by k_asm) (by k_asm) (by k_mem) ?_); intro zze' zzit' zzh' zzhe' zzhi' zzhei' zzhoff' zzhen' zzheL' zzF' zzN')) | ((k_here; (with_reducible show wpAny _ _ (subscriptTail _ (PySem.Expr.Slice _ _ none _) (Value.ref _) (Value.ref _)) _ _ _); k_dflt (refine' slice_ex (by k_asm) (by k_asm) (by kmk_list) (by kmk_part) (by kmk_part) ?_ (by with_unfolding_all rfl) (by kmk_pure) (by (first | decide | omega | (simp only [List.length_append, List.length_cons, List.length_nil] at *; omega)))); intro zzD' zzh' zzF' zzN' zzl1; (try k_lt zzl1); (try k_sweep))) | ((with_reducible show wpAny _ _ (subscriptTail (Expr.Name _ _) (Expr.Name _ _) (Value.ref _) (Value.int _ _)) _ _ _); (k_dflt (refine' item_list (by is_list) (by (first | decide | omega | (simp only [List.size_toArray] at *; omega))) (by (first | decide | omega | (simp only [List.size_toArray] at *; omega))) (by assumption) ?_))) | ((with_reducible show wpAny _ _ (call (Value.builtin "len") [_]) _ _ _); (k_dflt (refine' call_len_list (by is_list) (by (first | decide | (simp only [List.size_toArray]; omega) | (simp only [List.size_toArray, List.length_cons, List.length_append, List.length_map, List.length_nil, List.length_take, List.length_drop]; omega))) ?_))) | walk1) | (dsimp only; (first | ((with_reducible show wpAny _ _ (execs [] _) _ _ _); (k_here; (with_reducible refine gen_toks ?_); intro zztk)) | ((with_reducible show wpAny _ _ (execs (_ :: _) _) _ _ _); (k_here; (with_reducible refine gen_toks ?_); intro zztk)) | ((with_reducible show wpAny _ _ (execs (_ :: _) _) _ _ _); (k_here; (with_reducible refine wpAny_execs_cons ?_); (try dsimp only); k_fold)) | ((with_reducible show wpAny _ _ (call (Value.type "enumerate") _) _ _ _); (k_here; (with_reducible rename EnMark => zzhEnM); k_dflt (refine enum_call (by k_asm) (by k_asm) (by k_mem) ?_); intro zze' zzit' zzh' zzhe' zzhi' zzhei' zzhoff' zzhen' zzheL' zzF' zzN')) | ((k_here; (with_reducible show wpAny _ _ (subscriptTail _ (PySem.Expr.Slice _ _ none _) (Value.ref _) (Value.ref _)) _ _ _); k_dflt (refine' slice_ex (by k_asm) (by k_asm) (by kmk_list) (by kmk_part) (by kmk_part) ?_ (by with_unfolding_all rfl) (by kmk_pure) (by (first | decide | omega | (simp only [List.length_append, List.length_cons, List.length_nil] at *; omega)))); intro zzD' zzh' zzF' zzN' zzl1; (try k_lt zzl1); (try k_sweep))) | ((with_reducible show wpAny _ _ (subscriptTail (Expr.Name _ _) (Expr.Name _ _) (Value.ref _) (Value.int _ _)) _ _ _); (k_dflt (refine' item_list (by is_list) (by (first | decide | omega | (simp only [List.size_toArray] at *; omega))) (by (first | decide | omega | (simp only [List.size_toArray] at *; omega))) (by assumption) ?_))) | ((with_reducible show wpAny _ _ (call (Value.builtin "len") [_]) _ _ _); (k_dflt (refine' call_len_list (by is_list) (by (first | decide | (simp only [List.size_toArray]; omega) | (simp only [List.size_toArray, List.length_cons, List.length_append, List.length_map, List.length_nil, List.length_take, List.length_drop]; omega))) ?_))) | walk1))) | fail "no step"))
  (rename Fr _ _ _ _ => F7); (rename News _ _ _ _ => N7)
  simp only [List.cons_append, List.nil_append] at N7
  ((k_dflt (refine Assign_enumF (by k_asm) (by with_unfolding_all rfl) (by with_unfolding_all rfl) (by decide) (by rfl) (by decide) (by rfl) (by rfl) (by decide) (by rfl) (by rfl) ?_)))
  have hEnM : EnMark := trivial
  (repeat' (first | (k_unfold; (try dsimp only)) | ((( (fail_if_success (with_reducible show wpAny _ _ (pyIter _) _ _ _)); (fail_if_success (with_reducible show wpAny _ _ (exec (Stmt.While _ _ _ _) _) _ _ _)))); (( (fail_if_success (with_reducible show wpAny _ _ (eval (Expr.ListComp _ _ _ _) _) _ _ _)); (fail_if_success (with_reducible show wpAny _ _ (exec (Stmt.Assign _ (Expr.ListComp _ _ _ _) _) _) _ _ _)); (fail_if_success (with_reducible show LCg.CompSrc _ _ _ _ _ _ _ _ _ _ _ _ _ _)))); (fail_if_success (with_reducible show wpAny _ _ (call (Prod.fst _) _) _ _ _)); (fail_if_success (with_reducible show wpAny _ _ (call (Value.ref 155) _) _ _ _)); (fail_if_success (with_reducible show wpAny _ _ (call (Value.ref 101) _) _ _ _)); (fail_if_success (with_reducible show wpAny _ _ (binaryOp _ (Value.ref _) (Value.ref _)) _ _ _)); (fail_if_success (with_reducible show EcAt _ _ _ _ _ _ _ _ _ _ _ _ _ _)); (fail_if_success (with_reducible show wpAny _ _ (call (Value.type "range") _) _ _ _)); (fail_if_success (with_reducible show wpAny _ _ (exec (Stmt.Assign _ (Expr.ListComp _ _ _ _) _) _) _ _ _)); (fail_if_success (with_reducible show wpAny _ _ (compareOp CmpOp.NotEq (Value.ref _) (Value.ref _)) _ _ _)); first | (first | ((with_reducible show wpAny _ _ (execs [] _) _ _ _); (k_here; (with_reducible refine gen_toks ?_); intro zztk)) | ((with_reducible show wpAny _ _ (execs (_ :: _) _) _ _ _); (k_here; (with_reducible refine gen_toks ?_); intro zztk)) | ((with_reducible show wpAny _ _ (execs (_ :: _) _) _ _ _); (k_here; (with_reducible refine wpAny_execs_cons ?_); (try dsimp only); k_fold)) | ((with_reducible show wpAny _ _ (call (Value.type "enumerate") _) _ _ _); (k_here; (with_reducible rename EnMark => zzhEnM); k_dflt (refine enum_call (by k_asm) (by k_asm) (by k_mem) ?_); intro zze' zzit' zzh' zzhe' zzhi' zzhei' zzhoff' zzhen' zzheL' zzF' zzN')) | ((k_here; (with_reducible show wpAny _ _ (subscriptTail _ (PySem.Expr.Slice _ _ none _) (Value.ref _) (Value.ref _)) _ _ _); k_dflt (refine' slice_ex (by k_asm) (by k_asm) (by kmk_list) (by kmk_part) (by kmk_part) ?_ (by with_unfolding_all rfl) (by kmk_pure) (by (first | decide | omega | (simp only [List.length_append, List.length_cons, List.length_nil] at *; omega)))); intro zzD' zzh' zzF' zzN' zzl1; (try k_lt zzl1); (try k_sweep))) | ((with_reducible show wpAny _ _ (subscriptTail (Expr.Name _ _) (Expr.Name _ _) (Value.ref _) (Value.int _ _)) _ _ _); (k_dflt (refine' item_list (by is_list) (by (first | decide | omega | (simp only [List.size_toArray] at *; omega))) (by (first | decide | omega | (simp only [List.size_toArray] at *; omega))) (by assumption) ?_))) | ((with_reducible show wpAny _ _ (call (Value.builtin "len") [_]) _ _ _); (k_dflt (refine' call_len_list (by is_list) (by (first | decide | (simp only [List.size_toArray]; omega) | (simp only [List.size_toArray, List.length_cons, List.length_append, List.length_map, List.length_nil, List.length_take, List.length_drop]; omega))) ?_))) | walk1) | (dsimp only; (first | ((with_reducible show wpAny _ _ (execs [] _) _ _ _); (k_here; (with_reducible refine gen_toks ?_); intro zztk)) | ((with_reducible show wpAny _ _ (execs (_ :: _) _) _ _ _); (k_here; (with_reducible refine gen_toks ?_); intro zztk)) | ((with_reducible show wpAny _ _ (execs (_ :: _) _) _ _ _); (k_here; (with_reducible refine wpAny_execs_cons ?_); (try dsimp only); k_fold)) | ((with_reducible show wpAny _ _ (call (Value.type "enumerate") _) _ _ _); (k_here; (with_reducible rename EnMark => zzhEnM); k_dflt (refine enum_call (by k_asm) (by k_asm) (by k_mem) ?_); intro zze' zzit' zzh' zzhe' zzhi' zzhei' zzhoff' zzhen' zzheL' zzF' zzN')) | ((k_here; (with_reducible show wpAny _ _ (subscriptTail _ (PySem.Expr.Slice _ _ none _) (Value.ref _) (Value.ref _)) _ _ _); k_dflt (refine' slice_ex (by k_asm) (by k_asm) (by kmk_list) (by kmk_part) (by kmk_part) ?_ (by with_unfolding_all rfl) (by kmk_pure) (by (first | decide | omega | (simp only [List.length_append, List.length_cons, List.length_nil] at *; omega)))); intro zzD' zzh' zzF' zzN' zzl1; (try k_lt zzl1); (try k_sweep))) | ((with_reducible show wpAny _ _ (subscriptTail (Expr.Name _ _) (Expr.Name _ _) (Value.ref _) (Value.int _ _)) _ _ _); (k_dflt (refine' item_list (by is_list) (by (first | decide | omega | (simp only [List.size_toArray] at *; omega))) (by (first | decide | omega | (simp only [List.size_toArray] at *; omega))) (by assumption) ?_))) | ((with_reducible show wpAny _ _ (call (Value.builtin "len") [_]) _ _ _); (k_dflt (refine' call_len_list (by is_list) (by (first | decide | (simp only [List.size_toArray]; omega) | (simp only [List.size_toArray, List.length_cons, List.length_append, List.length_map, List.length_nil, List.length_take, List.length_drop]; omega))) ?_))) | walk1))) | fail "no step"))
  (rename Fr _ _ _ _ => F8); (rename News _ _ _ _ => N8)
  have ga4 : (a, listOf vn.toArray c3) ∈ gr := hsub _ (hfx _ ga)
  have gb4 : (b, listOf vo.toArray c4) ∈ gr := hsub _ (hfx _ gb)
  have vl1 := StrsAre.length hvn
  have vl2 := StrsAre.length hvo
  have vl3 := hn.length
  have vl4 := ho.length
  refine kmk_add_lit (zs := vn ++ vo) F8 N8 (led_list N8 (by (repeat (first | assumption | refine List.Mem.tail _ ?_)))) (led_list N8 (by (repeat (first | assumption | refine List.Mem.tail _ ?_)))) rfl ?_ (by rw [sizeLine_eq, List.toList_toArray, List.toList_toArray]; omega)
  intro lq h8 F9 N9 l9
  clear F8 N8
  (repeat' (first | (k_unfold; (try dsimp only)) | ((( (fail_if_success (with_reducible show wpAny _ _ (pyIter _) _ _ _)); (fail_if_success (with_reducible show wpAny _ _ (exec (Stmt.While _ _ _ _) _) _ _ _)))); (( (fail_if_success (with_reducible show wpAny _ _ (eval (Expr.ListComp _ _ _ _) _) _ _ _)); (fail_if_success (with_reducible show wpAny _ _ (exec (Stmt.Assign _ (Expr.ListComp _ _ _ _) _) _) _ _ _)); (fail_if_success (with_reducible show LCg.CompSrc _ _ _ _ _ _ _ _ _ _ _ _ _ _)))); (fail_if_success (with_reducible show wpAny _ _ (call (Prod.fst _) _) _ _ _)); (fail_if_success (with_reducible show wpAny _ _ (call (Value.ref 155) _) _ _ _)); (fail_if_success (with_reducible show wpAny _ _ (call (Value.ref 101) _) _ _ _)); (fail_if_success (with_reducible show wpAny _ _ (binaryOp _ (Value.ref _) (Value.ref _)) _ _ _)); (fail_if_success (with_reducible show EcAt _ _ _ _ _ _ _ _ _ _ _ _ _ _)); (fail_if_success (with_reducible show wpAny _ _ (call (Value.type "range") _) _ _ _)); (fail_if_success (with_reducible show wpAny _ _ (exec (Stmt.Assign _ (Expr.ListComp _ _ _ _) _) _) _ _ _)); (fail_if_success (with_reducible show wpAny _ _ (compareOp CmpOp.NotEq (Value.ref _) (Value.ref _)) _ _ _)); first | (first | ((with_reducible show wpAny _ _ (execs [] _) _ _ _); (k_here; (with_reducible refine gen_toks ?_); intro zztk)) | ((with_reducible show wpAny _ _ (execs (_ :: _) _) _ _ _); (k_here; (with_reducible refine gen_toks ?_); intro zztk)) | ((with_reducible show wpAny _ _ (execs (_ :: _) _) _ _ _); (k_here; (with_reducible refine wpAny_execs_cons ?_); (try dsimp only); k_fold)) | ((with_reducible show wpAny _ _ (call (Value.type "enumerate") _) _ _ _); (k_here; (with_reducible rename EnMark => zzhEnM); k_dflt (refine enum_call (by k_asm) (by k_asm) (by k_mem) ?_); intro zze' zzit' zzh' zzhe' zzhi' zzhei' zzhoff' zzhen' zzheL' zzF' zzN')) | ((k_here; (with_reducible show wpAny _ _ (subscriptTail _ (PySem.Expr.Slice _ _ none _) (Value.ref _) (Value.ref _)) _ _ _); k_dflt (refine' slice_ex (by k_asm) (by k_asm) (by kmk_list) (by kmk_part) (by kmk_part) ?_ (by with_unfolding_all rfl) (by kmk_pure) (by (first | decide | omega | (simp only [List.length_append, List.length_cons, List.length_nil] at *; omega)))); intro zzD' zzh' zzF' zzN' zzl1; (try k_lt zzl1); (try k_sweep))) | ((with_reducible show wpAny _ _ (subscriptTail (Expr.Name _ _) (Expr.Name _ _) (Value.ref _) (Value.int _ _)) _ _ _); (k_dflt (refine' item_list (by is_list) (by (first | decide | omega | (simp only [List.size_toArray] at *; omega))) (by (first | decide | omega | (simp only [List.size_toArray] at *; omega))) (by assumption) ?_))) | ((with_reducible show wpAny _ _ (call (Value.builtin "len") [_]) _ _ _); (k_dflt (refine' call_len_list (by is_list) (by (first | decide | (simp only [List.size_toArray]; omega) | (simp only [List.size_toArray, List.length_cons, List.length_append, List.length_map, List.length_nil, List.length_take, List.length_drop]; omega))) ?_))) | walk1) | (dsimp only; (first | ((with_reducible show wpAny _ _ (execs [] _) _ _ _); (k_here; (with_reducible refine gen_toks ?_); intro zztk)) | ((with_reducible show wpAny _ _ (execs (_ :: _) _) _ _ _); (k_here; (with_reducible refine gen_toks ?_); intro zztk)) | ((with_reducible show wpAny _ _ (execs (_ :: _) _) _ _ _); (k_here; (with_reducible refine wpAny_execs_cons ?_); (try dsimp only); k_fold)) | ((with_reducible show wpAny _ _ (call (Value.type "enumerate") _) _ _ _); (k_here; (with_reducible rename EnMark => zzhEnM); k_dflt (refine enum_call (by k_asm) (by k_asm) (by k_mem) ?_); intro zze' zzit' zzh' zzhe' zzhi' zzhei' zzhoff' zzhen' zzheL' zzF' zzN')) | ((k_here; (with_reducible show wpAny _ _ (subscriptTail _ (PySem.Expr.Slice _ _ none _) (Value.ref _) (Value.ref _)) _ _ _); k_dflt (refine' slice_ex (by k_asm) (by k_asm) (by kmk_list) (by kmk_part) (by kmk_part) ?_ (by with_unfolding_all rfl) (by kmk_pure) (by (first | decide | omega | (simp only [List.length_append, List.length_cons, List.length_nil] at *; omega)))); intro zzD' zzh' zzF' zzN' zzl1; (try k_lt zzl1); (try k_sweep))) | ((with_reducible show wpAny _ _ (subscriptTail (Expr.Name _ _) (Expr.Name _ _) (Value.ref _) (Value.int _ _)) _ _ _); (k_dflt (refine' item_list (by is_list) (by (first | decide | omega | (simp only [List.size_toArray] at *; omega))) (by (first | decide | omega | (simp only [List.size_toArray] at *; omega))) (by assumption) ?_))) | ((with_reducible show wpAny _ _ (call (Value.builtin "len") [_]) _ _ _); (k_dflt (refine' call_len_list (by is_list) (by (first | decide | (simp only [List.size_toArray]; omega) | (simp only [List.size_toArray, List.length_cons, List.length_append, List.length_map, List.length_nil, List.length_take, List.length_drop]; omega))) ?_))) | walk1))) | fail "no step"))
  (rename Fr _ _ _ _ => F3); (rename News _ _ _ _ => N3); (rename IsEnum _ _ _ _ _ => he); (rename Heap.IsListIter _ _ _ _ => hi); (rename (∀ p ∈ _, Prod.fst p ≠ _ ∧ _) => hoffE); (rename (_ ∧ _) => hen)
  have hperm : ∀ p ∈ [(L + 1 + 1, oM), (L + 1 + 1 + 1, oA2), (al, LCg.lst avs)] ++ ((fl, LCg.lst fvs) :: gr), p ∈ (fl, LCg.lst fvs) :: (L + 1 + 1, oM) :: (L + 1 + 1 + 1, oA2) :: (al, LCg.lst avs) :: gr := fun p hp => by
    simp only [List.cons_append, List.nil_append, List.mem_cons] at hp ⊢
    rcases hp with h | h | h | h | h <;> simp [h]
  refine ⟨_, _, lq, (vn ++ vo).toArray, 0, [(L + 1 + 1, oM), (L + 1 + 1 + 1, oA2), (al, LCg.lst avs)] ++ ((fl, LCg.lst fvs) :: gr), GotJ [(L + 1 + 1, oM), (L + 1 + 1 + 1, oA2), (al, LCg.lst avs)] ((fl, LCg.lst fvs) :: gr) (vdat (argsOf n) (nd ++ op)), rfl, ⟨by assumption, (hoffE _ (.head _)).1, (hoffE _ (.head _)).2⟩, he, hi, by assumption, by assumption, F3, news_sub N3 (fun p hp => ?_), fun p hp => hoffE p (.tail _ (hperm p hp)), ⟨⟨_, rfl, fun _ h => h, .nil⟩⟩, ?_, rfl, ?_, ?_⟩
  · rcases List.mem_cons.mp hp with rfl | hp
    · exact .head _
    · exact .tail _ (hperm p hp)
  · rw [sizeLine_eq, List.size_toArray, List.length_append]; omega
  · rintro i t v ys nx h tk oe oi C oC D m₂ E' hv ⟨gr2, rfl, hsub2, hgot⟩ off hC hxi hxc F N ne
    clear F3 N3 he hi F9 N9
    obtain ⟨y, k, rfl, hy⟩ := strs_get (strs_app hvn hvo) i v (by rw [List.getElem?_toArray] at hv; exact hv)
    have hq := vdat_get (ans := argsOf n) hy
    simp only [List.cons_append, List.nil_append] at N
    by_cases hlt : i < n
    · obtain ⟨q, hq2⟩ : ∃ q, (argsOf n)[i]? = some q := ⟨_, List.getElem?_eq_getElem (by rw [argsOf_len]; exact hlt)⟩
      obtain ⟨ti, hx2⟩ := IntsAre.get hav i _ hq2
      have hx : avs.toArray[((i : Int)).toNat]? = some (.int q ti) := by rw [List.getElem?_toArray]; exact hx2
      have pq : pvAt (argsOf n) i = .int q := by unfold pvAt; rw [hq2]
      rw [pq] at hq
      (repeat' (first | (k_unfold; (try dsimp only)) | ((( (fail_if_success (with_reducible show wpAny _ _ (pyIter _) _ _ _)); (fail_if_success (with_reducible show wpAny _ _ (exec (Stmt.While _ _ _ _) _) _ _ _)))); (( (fail_if_success (with_reducible show wpAny _ _ (eval (Expr.ListComp _ _ _ _) _) _ _ _)); (fail_if_success (with_reducible show wpAny _ _ (exec (Stmt.Assign _ (Expr.ListComp _ _ _ _) _) _) _ _ _)); (fail_if_success (with_reducible show LCg.CompSrc _ _ _ _ _ _ _ _ _ _ _ _ _ _)))); (fail_if_success (with_reducible show wpAny _ _ (call (Prod.fst _) _) _ _ _)); (fail_if_success (with_reducible show wpAny _ _ (call (Value.ref 155) _) _ _ _)); (fail_if_success (with_reducible show wpAny _ _ (call (Value.ref 101) _) _ _ _)); (fail_if_success (with_reducible show wpAny _ _ (binaryOp _ (Value.ref _) (Value.ref _)) _ _ _)); (fail_if_success (with_reducible show EcAt _ _ _ _ _ _ _ _ _ _ _ _ _ _)); (fail_if_success (with_reducible show wpAny _ _ (call (Value.type "range") _) _ _ _)); (fail_if_success (with_reducible show wpAny _ _ (exec (Stmt.Assign _ (Expr.ListComp _ _ _ _) _) _) _ _ _)); (fail_if_success (with_reducible show wpAny _ _ (compareOp CmpOp.NotEq (Value.ref _) (Value.ref _)) _ _ _)); first | (first | ((with_reducible show wpAny _ _ (execs [] _) _ _ _); (k_here; (with_reducible refine gen_toks ?_); intro zztk)) | ((with_reducible show wpAny _ _ (execs (_ :: _) _) _ _ _); (k_here; (with_reducible refine gen_toks ?_); intro zztk)) | ((with_reducible show wpAny _ _ (execs (_ :: _) _) _ _ _); (k_here; (with_reducible refine wpAny_execs_cons ?_); (try dsimp only); k_fold)) | ((with_reducible show wpAny _ _ (call (Value.type "enumerate") _) _ _ _); (k_here; (with_reducible rename EnMark => zzhEnM); k_dflt (refine enum_call (by k_asm) (by k_asm) (by k_mem) ?_); intro zze' zzit' zzh' zzhe' zzhi' zzhei' zzhoff' zzhen' zzheL' zzF' zzN')) | ((k_here; (with_reducible show wpAny _ _ (subscriptTail _ (PySem.Expr.Slice _ _ none _) (Value.ref _) (Value.ref _)) _ _ _); k_dflt (refine' slice_ex (by k_asm) (by k_asm) (by kmk_list) (by kmk_part) (by kmk_part) ?_ (by with_unfolding_all rfl) (by kmk_pure) (by (first | decide | omega | (simp only [List.length_append, List.length_cons, List.length_nil] at *; omega)))); intro zzD' zzh' zzF' zzN' zzl1; (try k_lt zzl1); (try k_sweep))) | ((with_reducible show wpAny _ _ (subscriptTail (Expr.Name _ _) (Expr.Name _ _) (Value.ref _) (Value.int _ _)) _ _ _); (k_dflt (refine' item_list (by is_list) (by (first | decide | omega | (simp only [List.size_toArray] at *; omega))) (by (first | decide | omega | (simp only [List.size_toArray] at *; omega))) (by assumption) ?_))) | ((with_reducible show wpAny _ _ (call (Value.builtin "len") [_]) _ _ _); (k_dflt (refine' call_len_list (by is_list) (by (first | decide | (simp only [List.size_toArray]; omega) | (simp only [List.size_toArray, List.length_cons, List.length_append, List.length_map, List.length_nil, List.length_take, List.length_drop]; omega))) ?_))) | walk1) | (dsimp only; (first | ((with_reducible show wpAny _ _ (execs [] _) _ _ _); (k_here; (with_reducible refine gen_toks ?_); intro zztk)) | ((with_reducible show wpAny _ _ (execs (_ :: _) _) _ _ _); (k_here; (with_reducible refine gen_toks ?_); intro zztk)) | ((with_reducible show wpAny _ _ (execs (_ :: _) _) _ _ _); (k_here; (with_reducible refine wpAny_execs_cons ?_); (try dsimp only); k_fold)) | ((with_reducible show wpAny _ _ (call (Value.type "enumerate") _) _ _ _); (k_here; (with_reducible rename EnMark => zzhEnM); k_dflt (refine enum_call (by k_asm) (by k_asm) (by k_mem) ?_); intro zze' zzit' zzh' zzhe' zzhi' zzhei' zzhoff' zzhen' zzheL' zzF' zzN')) | ((k_here; (with_reducible show wpAny _ _ (subscriptTail _ (PySem.Expr.Slice _ _ none _) (Value.ref _) (Value.ref _)) _ _ _); k_dflt (refine' slice_ex (by k_asm) (by k_asm) (by kmk_list) (by kmk_part) (by kmk_part) ?_ (by with_unfolding_all rfl) (by kmk_pure) (by (first | decide | omega | (simp only [List.length_append, List.length_cons, List.length_nil] at *; omega)))); intro zzD' zzh' zzF' zzN' zzl1; (try k_lt zzl1); (try k_sweep))) | ((with_reducible show wpAny _ _ (subscriptTail (Expr.Name _ _) (Expr.Name _ _) (Value.ref _) (Value.int _ _)) _ _ _); (k_dflt (refine' item_list (by is_list) (by (first | decide | omega | (simp only [List.size_toArray] at *; omega))) (by (first | decide | omega | (simp only [List.size_toArray] at *; omega))) (by assumption) ?_))) | ((with_reducible show wpAny _ _ (call (Value.builtin "len") [_]) _ _ _); (k_dflt (refine' call_len_list (by is_list) (by (first | decide | (simp only [List.size_toArray]; omega) | (simp only [List.size_toArray, List.length_cons, List.length_append, List.length_map, List.length_nil, List.length_take, List.length_drop]; omega))) ?_))) | walk1))) | fail "no step"))
      (rename Fr _ _ _ _ => F6); (rename News _ _ _ _ => N6); (rename (_ ∧ _ ∧ _ ∧ _ ∧ _) => l1)
      exact got_endE F6 N6 [] (.head _) (fun p hp => .tail _ hp) ⟨(Nat.ne_of_lt l1.2.2.1).symm, (Nat.ne_of_lt l1.2.2.2.1).symm, (Nat.ne_of_lt l1.1).symm, (Nat.ne_of_lt l1.2.1).symm⟩ (fun _ h => nomatch h) off hsub2 hgot hq .int
    · have pq : pvAt (argsOf n) i = .list [] := by unfold pvAt; rw [List.getElem?_eq_none (by rw [argsOf_len]; omega)]
      rw [pq] at hq
      (repeat' (first | (k_unfold; (try dsimp only)) | ((( (fail_if_success (with_reducible show wpAny _ _ (pyIter _) _ _ _)); (fail_if_success (with_reducible show wpAny _ _ (exec (Stmt.While _ _ _ _) _) _ _ _)))); (( (fail_if_success (with_reducible show wpAny _ _ (eval (Expr.ListComp _ _ _ _) _) _ _ _)); (fail_if_success (with_reducible show wpAny _ _ (exec (Stmt.Assign _ (Expr.ListComp _ _ _ _) _) _) _ _ _)); (fail_if_success (with_reducible show LCg.CompSrc _ _ _ _ _ _ _ _ _ _ _ _ _ _)))); (fail_if_success (with_reducible show wpAny _ _ (call (Prod.fst _) _) _ _ _)); (fail_if_success (with_reducible show wpAny _ _ (call (Value.ref 155) _) _ _ _)); (fail_if_success (with_reducible show wpAny _ _ (call (Value.ref 101) _) _ _ _)); (fail_if_success (with_reducible show wpAny _ _ (binaryOp _ (Value.ref _) (Value.ref _)) _ _ _)); (fail_if_success (with_reducible show EcAt _ _ _ _ _ _ _ _ _ _ _ _ _ _)); (fail_if_success (with_reducible show wpAny _ _ (call (Value.type "range") _) _ _ _)); (fail_if_success (with_reducible show wpAny _ _ (exec (Stmt.Assign _ (Expr.ListComp _ _ _ _) _) _) _ _ _)); (fail_if_success (with_reducible show wpAny _ _ (compareOp CmpOp.NotEq (Value.ref _) (Value.ref _)) _ _ _)); first | (first | ((with_reducible show wpAny _ _ (execs [] _) _ _ _); (k_here; (with_reducible refine gen_toks ?_); intro zztk)) | ((with_reducible show wpAny _ _ (execs (_ :: _) _) _ _ _); (k_here; (with_reducible refine gen_toks ?_); intro zztk)) | ((with_reducible show wpAny _ _ (execs (_ :: _) _) _ _ _); (k_here; (with_reducible refine wpAny_execs_cons ?_); (try dsimp only); k_fold)) | ((with_reducible show wpAny _ _ (call (Value.type "enumerate") _) _ _ _); (k_here; (with_reducible rename EnMark => zzhEnM); k_dflt (refine enum_call (by k_asm) (by k_asm) (by k_mem) ?_); intro zze' zzit' zzh' zzhe' zzhi' zzhei' zzhoff' zzhen' zzheL' zzF' zzN')) | ((k_here; (with_reducible show wpAny _ _ (subscriptTail _ (PySem.Expr.Slice _ _ none _) (Value.ref _) (Value.ref _)) _ _ _); k_dflt (refine' slice_ex (by k_asm) (by k_asm) (by kmk_list) (by kmk_part) (by kmk_part) ?_ (by with_unfolding_all rfl) (by kmk_pure) (by (first | decide | omega | (simp only [List.length_append, List.length_cons, List.length_nil] at *; omega)))); intro zzD' zzh' zzF' zzN' zzl1; (try k_lt zzl1); (try k_sweep))) | ((with_reducible show wpAny _ _ (subscriptTail (Expr.Name _ _) (Expr.Name _ _) (Value.ref _) (Value.int _ _)) _ _ _); (k_dflt (refine' item_list (by is_list) (by (first | decide | omega | (simp only [List.size_toArray] at *; omega))) (by (first | decide | omega | (simp only [List.size_toArray] at *; omega))) (by assumption) ?_))) | ((with_reducible show wpAny _ _ (call (Value.builtin "len") [_]) _ _ _); (k_dflt (refine' call_len_list (by is_list) (by (first | decide | (simp only [List.size_toArray]; omega) | (simp only [List.size_toArray, List.length_cons, List.length_append, List.length_map, List.length_nil, List.length_take, List.length_drop]; omega))) ?_))) | walk1) | (dsimp only; (first | ((with_reducible show wpAny _ _ (execs [] _) _ _ _); (k_here; (with_reducible refine gen_toks ?_); intro zztk)) | ((with_reducible show wpAny _ _ (execs (_ :: _) _) _ _ _); (k_here; (with_reducible refine gen_toks ?_); intro zztk)) | ((with_reducible show wpAny _ _ (execs (_ :: _) _) _ _ _); (k_here; (with_reducible refine wpAny_execs_cons ?_); (try dsimp only); k_fold)) | ((with_reducible show wpAny _ _ (call (Value.type "enumerate") _) _ _ _); (k_here; (with_reducible rename EnMark => zzhEnM); k_dflt (refine enum_call (by k_asm) (by k_asm) (by k_mem) ?_); intro zze' zzit' zzh' zzhe' zzhi' zzhei' zzhoff' zzhen' zzheL' zzF' zzN')) | ((k_here; (with_reducible show wpAny _ _ (subscriptTail _ (PySem.Expr.Slice _ _ none _) (Value.ref _) (Value.ref _)) _ _ _); k_dflt (refine' slice_ex (by k_asm) (by k_asm) (by kmk_list) (by kmk_part) (by kmk_part) ?_ (by with_unfolding_all rfl) (by kmk_pure) (by (first | decide | omega | (simp only [List.length_append, List.length_cons, List.length_nil] at *; omega)))); intro zzD' zzh' zzF' zzN' zzl1; (try k_lt zzl1); (try k_sweep))) | ((with_reducible show wpAny _ _ (subscriptTail (Expr.Name _ _) (Expr.Name _ _) (Value.ref _) (Value.int _ _)) _ _ _); (k_dflt (refine' item_list (by is_list) (by (first | decide | omega | (simp only [List.size_toArray] at *; omega))) (by (first | decide | omega | (simp only [List.size_toArray] at *; omega))) (by assumption) ?_))) | ((with_reducible show wpAny _ _ (call (Value.builtin "len") [_]) _ _ _); (k_dflt (refine' call_len_list (by is_list) (by (first | decide | (simp only [List.size_toArray]; omega) | (simp only [List.size_toArray, List.length_cons, List.length_append, List.length_map, List.length_nil, List.length_take, List.length_drop]; omega))) ?_))) | walk1))) | fail "no step"))
      (rename Fr _ _ _ _ => F6); (rename News _ _ _ _ => N6); (rename (_ ∧ _ ∧ _ ∧ _ ∧ _) => l1)
      obtain ⟨y1, y2, y3, y4, y5, y6⟩ := l1
      clear y6
      (rename (_ ∧ _ ∧ _ ∧ _ ∧ _) => l2)
      exact got_endE1 F6 N6 ⟨(Nat.ne_of_lt y4).symm, (Nat.ne_of_lt y5).symm, (Nat.ne_of_lt y2).symm, (Nat.ne_of_lt y3).symm⟩ ⟨(Nat.ne_of_lt l2.2.2.1).symm, (Nat.ne_of_lt l2.2.2.2.1).symm, (Nat.ne_of_lt l2.1).symm, (Nat.ne_of_lt l2.2.1).symm⟩ off hsub2 hgot hq
  · rintro wvs nx ⟨gr2, rfl, hsub2, hwant⟩ wl h9 tk9 F N off
    rw [List.size_toArray, List.length_append, ← List.length_append, StrsAre.length (strs_app hvn hvo), ← vdat_len (argsOf n) (nd ++ op), List.take_length] at hwant
    clear F3 N3 he hi F9 N9
    simp only [List.cons_append, List.nil_append] at N
    have o1 := off _ (.head _)
    have o2 := off _ (.tail _ (.head _))
    have o3 := off _ (.tail _ (.tail _ (.head _)))
    have o4 : ∀ p ∈ gr2, p.1 ≠ wl := fun p hp => off p (.tail _ (.tail _ (.tail _ hp)))
    dsimp only at o1 o2 o3
    have wl9 : wvs.length ≤ 300 := by
      rw [hwant.length, vdat_len, List.length_append]; omega
    have gfl : (fl, LCg.lst fvs) ∈ gr2 := hsub2 _ (.head _)
    have hfound2 := hfound.mono (P' := fun a o => (a, o) ∈ gr2) fun a o q => hsub2 _ (.tail _ q)
    have hfx2 : ∀ p ∈ fx, p ∈ gr2 := fun p hp => hsub2 _ (.tail _ (hsub _ (hfx _ hp)))
    have lp := lay_pairs ds8
    rcases hdr with ⟨rfl, rfl⟩ | ⟨rx, rt, rfl, rfl⟩
    · (repeat' (first | (k_unfold; (try dsimp only)) | ((( (fail_if_success (with_reducible show wpAny _ _ (pyIter _) _ _ _)); (fail_if_success (with_reducible show wpAny _ _ (exec (Stmt.While _ _ _ _) _) _ _ _)))); (( (fail_if_success (with_reducible show wpAny _ _ (eval (Expr.ListComp _ _ _ _) _) _ _ _)); (fail_if_success (with_reducible show wpAny _ _ (exec (Stmt.Assign _ (Expr.ListComp _ _ _ _) _) _) _ _ _)); (fail_if_success (with_reducible show LCg.CompSrc _ _ _ _ _ _ _ _ _ _ _ _ _ _)))); (fail_if_success (with_reducible show wpAny _ _ (call (Prod.fst _) _) _ _ _)); (fail_if_success (with_reducible show wpAny _ _ (call (Value.ref 155) _) _ _ _)); (fail_if_success (with_reducible show wpAny _ _ (call (Value.ref 101) _) _ _ _)); (fail_if_success (with_reducible show wpAny _ _ (binaryOp _ (Value.ref _) (Value.ref _)) _ _ _)); (fail_if_success (with_reducible show EcAt _ _ _ _ _ _ _ _ _ _ _ _ _ _)); (fail_if_success (with_reducible show wpAny _ _ (call (Value.type "range") _) _ _ _)); (fail_if_success (with_reducible show wpAny _ _ (exec (Stmt.Assign _ (Expr.ListComp _ _ _ _) _) _) _ _ _)); (fail_if_success (with_reducible show wpAny _ _ (compareOp CmpOp.NotEq (Value.ref _) (Value.ref _)) _ _ _)); first | (first | ((with_reducible show wpAny _ _ (execs [] _) _ _ _); (k_here; (with_reducible refine gen_toks ?_); intro zztk)) | ((with_reducible show wpAny _ _ (execs (_ :: _) _) _ _ _); (k_here; (with_reducible refine gen_toks ?_); intro zztk)) | ((with_reducible show wpAny _ _ (execs (_ :: _) _) _ _ _); (k_here; (with_reducible refine wpAny_execs_cons ?_); (try dsimp only); k_fold)) | ((with_reducible show wpAny _ _ (call (Value.type "enumerate") _) _ _ _); (k_here; (with_reducible rename EnMark => zzhEnM); k_dflt (refine enum_call (by k_asm) (by k_asm) (by k_mem) ?_); intro zze' zzit' zzh' zzhe' zzhi' zzhei' zzhoff' zzhen' zzheL' zzF' zzN')) | ((k_here; (with_reducible show wpAny _ _ (subscriptTail _ (PySem.Expr.Slice _ _ none _) (Value.ref _) (Value.ref _)) _ _ _); k_dflt (refine' slice_ex (by k_asm) (by k_asm) (by kmk_list) (by kmk_part) (by kmk_part) ?_ (by with_unfolding_all rfl) (by kmk_pure) (by (first | decide | omega | (simp only [List.length_append, List.length_cons, List.length_nil] at *; omega)))); intro zzD' zzh' zzF' zzN' zzl1; (try k_lt zzl1); (try k_sweep))) | ((with_reducible show wpAny _ _ (subscriptTail (Expr.Name _ _) (Expr.Name _ _) (Value.ref _) (Value.int _ _)) _ _ _); (k_dflt (refine' item_list (by is_list) (by (first | decide | omega | (simp only [List.size_toArray] at *; omega))) (by (first | decide | omega | (simp only [List.size_toArray] at *; omega))) (by assumption) ?_))) | ((with_reducible show wpAny _ _ (call (Value.builtin "len") [_]) _ _ _); (k_dflt (refine' call_len_list (by is_list) (by (first | decide | (simp only [List.size_toArray]; omega) | (simp only [List.size_toArray, List.length_cons, List.length_append, List.length_map, List.length_nil, List.length_take, List.length_drop]; omega))) ?_))) | walk1) | (dsimp only; (first | ((with_reducible show wpAny _ _ (execs [] _) _ _ _); (k_here; (with_reducible refine gen_toks ?_); intro zztk)) | ((with_reducible show wpAny _ _ (execs (_ :: _) _) _ _ _); (k_here; (with_reducible refine gen_toks ?_); intro zztk)) | ((with_reducible show wpAny _ _ (execs (_ :: _) _) _ _ _); (k_here; (with_reducible refine wpAny_execs_cons ?_); (try dsimp only); k_fold)) | ((with_reducible show wpAny _ _ (call (Value.type "enumerate") _) _ _ _); (k_here; (with_reducible rename EnMark => zzhEnM); k_dflt (refine enum_call (by k_asm) (by k_asm) (by k_mem) ?_); intro zze' zzit' zzh' zzhe' zzhi' zzhei' zzhoff' zzhen' zzheL' zzF' zzN')) | ((k_here; (with_reducible show wpAny _ _ (subscriptTail _ (PySem.Expr.Slice _ _ none _) (Value.ref _) (Value.ref _)) _ _ _); k_dflt (refine' slice_ex (by k_asm) (by k_asm) (by kmk_list) (by kmk_part) (by kmk_part) ?_ (by with_unfolding_all rfl) (by kmk_pure) (by (first | decide | omega | (simp only [List.length_append, List.length_cons, List.length_nil] at *; omega)))); intro zzD' zzh' zzF' zzN' zzl1; (try k_lt zzl1); (try k_sweep))) | ((with_reducible show wpAny _ _ (subscriptTail (Expr.Name _ _) (Expr.Name _ _) (Value.ref _) (Value.int _ _)) _ _ _); (k_dflt (refine' item_list (by is_list) (by (first | decide | omega | (simp only [List.size_toArray] at *; omega))) (by (first | decide | omega | (simp only [List.size_toArray] at *; omega))) (by assumption) ?_))) | ((with_reducible show wpAny _ _ (call (Value.builtin "len") [_]) _ _ _); (k_dflt (refine' call_len_list (by is_list) (by (first | decide | (simp only [List.size_toArray]; omega) | (simp only [List.size_toArray, List.length_cons, List.length_append, List.length_map, List.length_nil, List.length_take, List.length_drop]; omega))) ?_))) | walk1))) | fail "no step"))
      (rename Fr _ _ _ _ => F8); (rename News _ _ _ _ => N8)
      have hd0 : vdat (argsOf n) (nd ++ op) = ds := by rw [← hds]; exact (List.append_nil _).symm
      rw [hd0] at hwant
      obtain ⟨as1, r1⟩ := reads_got (N8 (fl, LCg.lst fvs) (.tail _ (.tail _ (.tail _ (.tail _ gfl))))).1 (hfound2.mono fun a o q => (N8 (a, o) (.tail _ (.tail _ (.tail _ (.tail _ q))))).1)
      obtain ⟨as2, r2⟩ := reads_got (N8 _ (.head _)).1 (hwant.mono fun a o q => (N8 (a, o) (.tail _ (.tail _ (.tail _ (.tail _ q))))).1)
      refine ne_same r1 r2 (by simp only [PyData.canLay0]; exact lp.1) (by simp only [PyData.depth]; omega) (by ((have hcL := cLine_is; (try simp only [units_under_make, units_in1, units_deeper, Around.mark_units, units_caller]); (try dsimp only [Ar]); omega))) ?_
      clear r1 r2
      (repeat' (first | (k_unfold; (try dsimp only)) | ((( (fail_if_success (with_reducible show wpAny _ _ (pyIter _) _ _ _)); (fail_if_success (with_reducible show wpAny _ _ (exec (Stmt.While _ _ _ _) _) _ _ _)))); (( (fail_if_success (with_reducible show wpAny _ _ (eval (Expr.ListComp _ _ _ _) _) _ _ _)); (fail_if_success (with_reducible show wpAny _ _ (exec (Stmt.Assign _ (Expr.ListComp _ _ _ _) _) _) _ _ _)); (fail_if_success (with_reducible show LCg.CompSrc _ _ _ _ _ _ _ _ _ _ _ _ _ _)))); (fail_if_success (with_reducible show wpAny _ _ (call (Prod.fst _) _) _ _ _)); (fail_if_success (with_reducible show wpAny _ _ (call (Value.ref 155) _) _ _ _)); (fail_if_success (with_reducible show wpAny _ _ (call (Value.ref 101) _) _ _ _)); (fail_if_success (with_reducible show wpAny _ _ (binaryOp _ (Value.ref _) (Value.ref _)) _ _ _)); (fail_if_success (with_reducible show EcAt _ _ _ _ _ _ _ _ _ _ _ _ _ _)); (fail_if_success (with_reducible show wpAny _ _ (call (Value.type "range") _) _ _ _)); (fail_if_success (with_reducible show wpAny _ _ (exec (Stmt.Assign _ (Expr.ListComp _ _ _ _) _) _) _ _ _)); (fail_if_success (with_reducible show wpAny _ _ (compareOp CmpOp.NotEq (Value.ref _) (Value.ref _)) _ _ _)); first | (first | ((with_reducible show wpAny _ _ (execs [] _) _ _ _); (k_here; (with_reducible refine gen_toks ?_); intro zztk)) | ((with_reducible show wpAny _ _ (execs (_ :: _) _) _ _ _); (k_here; (with_reducible refine gen_toks ?_); intro zztk)) | ((with_reducible show wpAny _ _ (execs (_ :: _) _) _ _ _); (k_here; (with_reducible refine wpAny_execs_cons ?_); (try dsimp only); k_fold)) | ((with_reducible show wpAny _ _ (call (Value.type "enumerate") _) _ _ _); (k_here; (with_reducible rename EnMark => zzhEnM); k_dflt (refine enum_call (by k_asm) (by k_asm) (by k_mem) ?_); intro zze' zzit' zzh' zzhe' zzhi' zzhei' zzhoff' zzhen' zzheL' zzF' zzN')) | ((k_here; (with_reducible show wpAny _ _ (subscriptTail _ (PySem.Expr.Slice _ _ none _) (Value.ref _) (Value.ref _)) _ _ _); k_dflt (refine' slice_ex (by k_asm) (by k_asm) (by kmk_list) (by kmk_part) (by kmk_part) ?_ (by with_unfolding_all rfl) (by kmk_pure) (by (first | decide | omega | (simp only [List.length_append, List.length_cons, List.length_nil] at *; omega)))); intro zzD' zzh' zzF' zzN' zzl1; (try k_lt zzl1); (try k_sweep))) | ((with_reducible show wpAny _ _ (subscriptTail (Expr.Name _ _) (Expr.Name _ _) (Value.ref _) (Value.int _ _)) _ _ _); (k_dflt (refine' item_list (by is_list) (by (first | decide | omega | (simp only [List.size_toArray] at *; omega))) (by (first | decide | omega | (simp only [List.size_toArray] at *; omega))) (by assumption) ?_))) | ((with_reducible show wpAny _ _ (call (Value.builtin "len") [_]) _ _ _); (k_dflt (refine' call_len_list (by is_list) (by (first | decide | (simp only [List.size_toArray]; omega) | (simp only [List.size_toArray, List.length_cons, List.length_append, List.length_map, List.length_nil, List.length_take, List.length_drop]; omega))) ?_))) | walk1) | (dsimp only; (first | ((with_reducible show wpAny _ _ (execs [] _) _ _ _); (k_here; (with_reducible refine gen_toks ?_); intro zztk)) | ((with_reducible show wpAny _ _ (execs (_ :: _) _) _ _ _); (k_here; (with_reducible refine gen_toks ?_); intro zztk)) | ((with_reducible show wpAny _ _ (execs (_ :: _) _) _ _ _); (k_here; (with_reducible refine wpAny_execs_cons ?_); (try dsimp only); k_fold)) | ((with_reducible show wpAny _ _ (call (Value.type "enumerate") _) _ _ _); (k_here; (with_reducible rename EnMark => zzhEnM); k_dflt (refine enum_call (by k_asm) (by k_asm) (by k_mem) ?_); intro zze' zzit' zzh' zzhe' zzhi' zzhei' zzhoff' zzhen' zzheL' zzF' zzN')) | ((k_here; (with_reducible show wpAny _ _ (subscriptTail _ (PySem.Expr.Slice _ _ none _) (Value.ref _) (Value.ref _)) _ _ _); k_dflt (refine' slice_ex (by k_asm) (by k_asm) (by kmk_list) (by kmk_part) (by kmk_part) ?_ (by with_unfolding_all rfl) (by kmk_pure) (by (first | decide | omega | (simp only [List.length_append, List.length_cons, List.length_nil] at *; omega)))); intro zzD' zzh' zzF' zzN' zzl1; (try k_lt zzl1); (try k_sweep))) | ((with_reducible show wpAny _ _ (subscriptTail (Expr.Name _ _) (Expr.Name _ _) (Value.ref _) (Value.int _ _)) _ _ _); (k_dflt (refine' item_list (by is_list) (by (first | decide | omega | (simp only [List.size_toArray] at *; omega))) (by (first | decide | omega | (simp only [List.size_toArray] at *; omega))) (by assumption) ?_))) | ((with_reducible show wpAny _ _ (call (Value.builtin "len") [_]) _ _ _); (k_dflt (refine' call_len_list (by is_list) (by (first | decide | (simp only [List.size_toArray]; omega) | (simp only [List.size_toArray, List.length_cons, List.length_append, List.length_map, List.length_nil, List.length_take, List.length_drop]; omega))) ?_))) | walk1))) | fail "no step"))
      (rename Fr _ _ _ _ => F9); (rename News _ _ _ _ => N9)
      exact hQ _ _ _ _ _ rfl rfl rfl rfl F9 (news_sub N9 fun p hp => by
        simp only [List.mem_cons] at hp ⊢
        rcases hp with h | h | h
        · simp [h]
        · simp [h]
        · exact .inr (.inr (.inr (.inr (hfx2 _ h))))) eA2
    · (repeat' (first | (k_unfold; (try dsimp only)) | ((( (fail_if_success (with_reducible show wpAny _ _ (pyIter _) _ _ _)); (fail_if_success (with_reducible show wpAny _ _ (exec (Stmt.While _ _ _ _) _) _ _ _)))); (( (fail_if_success (with_reducible show wpAny _ _ (eval (Expr.ListComp _ _ _ _) _) _ _ _)); (fail_if_success (with_reducible show wpAny _ _ (exec (Stmt.Assign _ (Expr.ListComp _ _ _ _) _) _) _ _ _)); (fail_if_success (with_reducible show LCg.CompSrc _ _ _ _ _ _ _ _ _ _ _ _ _ _)))); (fail_if_success (with_reducible show wpAny _ _ (call (Prod.fst _) _) _ _ _)); (fail_if_success (with_reducible show wpAny _ _ (call (Value.ref 155) _) _ _ _)); (fail_if_success (with_reducible show wpAny _ _ (call (Value.ref 101) _) _ _ _)); (fail_if_success (with_reducible show wpAny _ _ (binaryOp _ (Value.ref _) (Value.ref _)) _ _ _)); (fail_if_success (with_reducible show EcAt _ _ _ _ _ _ _ _ _ _ _ _ _ _)); (fail_if_success (with_reducible show wpAny _ _ (call (Value.type "range") _) _ _ _)); (fail_if_success (with_reducible show wpAny _ _ (exec (Stmt.Assign _ (Expr.ListComp _ _ _ _) _) _) _ _ _)); (fail_if_success (with_reducible show wpAny _ _ (compareOp CmpOp.NotEq (Value.ref _) (Value.ref _)) _ _ _)); first | (first | ((with_reducible show wpAny _ _ (execs [] _) _ _ _); (k_here; (with_reducible refine gen_toks ?_); intro zztk)) | ((with_reducible show wpAny _ _ (execs (_ :: _) _) _ _ _); (k_here; (with_reducible refine gen_toks ?_); intro zztk)) | ((with_reducible show wpAny _ _ (execs (_ :: _) _) _ _ _); (k_here; (with_reducible refine wpAny_execs_cons ?_); (try dsimp only); k_fold)) | ((with_reducible show wpAny _ _ (call (Value.type "enumerate") _) _ _ _); (k_here; (with_reducible rename EnMark => zzhEnM); k_dflt (refine enum_call (by k_asm) (by k_asm) (by k_mem) ?_); intro zze' zzit' zzh' zzhe' zzhi' zzhei' zzhoff' zzhen' zzheL' zzF' zzN')) | ((k_here; (with_reducible show wpAny _ _ (subscriptTail _ (PySem.Expr.Slice _ _ none _) (Value.ref _) (Value.ref _)) _ _ _); k_dflt (refine' slice_ex (by k_asm) (by k_asm) (by kmk_list) (by kmk_part) (by kmk_part) ?_ (by with_unfolding_all rfl) (by kmk_pure) (by (first | decide | omega | (simp only [List.length_append, List.length_cons, List.length_nil] at *; omega)))); intro zzD' zzh' zzF' zzN' zzl1; (try k_lt zzl1); (try k_sweep))) | ((with_reducible show wpAny _ _ (subscriptTail (Expr.Name _ _) (Expr.Name _ _) (Value.ref _) (Value.int _ _)) _ _ _); (k_dflt (refine' item_list (by is_list) (by (first | decide | omega | (simp only [List.size_toArray] at *; omega))) (by (first | decide | omega | (simp only [List.size_toArray] at *; omega))) (by assumption) ?_))) | ((with_reducible show wpAny _ _ (call (Value.builtin "len") [_]) _ _ _); (k_dflt (refine' call_len_list (by is_list) (by (first | decide | (simp only [List.size_toArray]; omega) | (simp only [List.size_toArray, List.length_cons, List.length_append, List.length_map, List.length_nil, List.length_take, List.length_drop]; omega))) ?_))) | walk1) | (dsimp only; (first | ((with_reducible show wpAny _ _ (execs [] _) _ _ _); (k_here; (with_reducible refine gen_toks ?_); intro zztk)) | ((with_reducible show wpAny _ _ (execs (_ :: _) _) _ _ _); (k_here; (with_reducible refine gen_toks ?_); intro zztk)) | ((with_reducible show wpAny _ _ (execs (_ :: _) _) _ _ _); (k_here; (with_reducible refine wpAny_execs_cons ?_); (try dsimp only); k_fold)) | ((with_reducible show wpAny _ _ (call (Value.type "enumerate") _) _ _ _); (k_here; (with_reducible rename EnMark => zzhEnM); k_dflt (refine enum_call (by k_asm) (by k_asm) (by k_mem) ?_); intro zze' zzit' zzh' zzhe' zzhi' zzhei' zzhoff' zzhen' zzheL' zzF' zzN')) | ((k_here; (with_reducible show wpAny _ _ (subscriptTail _ (PySem.Expr.Slice _ _ none _) (Value.ref _) (Value.ref _)) _ _ _); k_dflt (refine' slice_ex (by k_asm) (by k_asm) (by kmk_list) (by kmk_part) (by kmk_part) ?_ (by with_unfolding_all rfl) (by kmk_pure) (by (first | decide | omega | (simp only [List.length_append, List.length_cons, List.length_nil] at *; omega)))); intro zzD' zzh' zzF' zzN' zzl1; (try k_lt zzl1); (try k_sweep))) | ((with_reducible show wpAny _ _ (subscriptTail (Expr.Name _ _) (Expr.Name _ _) (Value.ref _) (Value.int _ _)) _ _ _); (k_dflt (refine' item_list (by is_list) (by (first | decide | omega | (simp only [List.size_toArray] at *; omega))) (by (first | decide | omega | (simp only [List.size_toArray] at *; omega))) (by assumption) ?_))) | ((with_reducible show wpAny _ _ (call (Value.builtin "len") [_]) _ _ _); (k_dflt (refine' call_len_list (by is_list) (by (first | decide | (simp only [List.size_toArray]; omega) | (simp only [List.size_toArray, List.length_cons, List.length_append, List.length_map, List.length_nil, List.length_take, List.length_drop]; omega))) ?_))) | walk1))) | fail "no step"))
      (rename Fr _ _ _ _ => F8); (rename News _ _ _ _ => N8)
      have hk : wvs.toArray.size = (nd ++ op).length := by rw [List.size_toArray, hwant.length, vdat_len]
      obtain ⟨as2, r2⟩ := got_last N8 hav hwant (fun p hp => .tail _ (.tail _ (.tail _ hp)))
      rw [hk, show vdat (argsOf n) (nd ++ op) ++ [(rx, PV.list ((argsOf n).drop (nd ++ op).length))] = ds from hds] at r2
      obtain ⟨as1, r1⟩ := reads_got (N8 (fl, LCg.lst fvs) (.tail _ (.tail _ (.tail _ (.tail _ (.tail _ (.tail _ gfl))))))).1 (hfound2.mono fun a o q => (N8 (a, o) (.tail _ (.tail _ (.tail _ (.tail _ (.tail _ (.tail _ q))))))).1)
      refine ne_same r1 r2 (by simp only [PyData.canLay0]; exact lp.1) (by simp only [PyData.depth]; omega) (by ((have hcL := cLine_is; (try simp only [units_under_make, units_in1, units_deeper, Around.mark_units, units_caller]); (try dsimp only [Ar]); omega))) ?_
      clear r1 r2
      (repeat' (first | (k_unfold; (try dsimp only)) | ((( (fail_if_success (with_reducible show wpAny _ _ (pyIter _) _ _ _)); (fail_if_success (with_reducible show wpAny _ _ (exec (Stmt.While _ _ _ _) _) _ _ _)))); (( (fail_if_success (with_reducible show wpAny _ _ (eval (Expr.ListComp _ _ _ _) _) _ _ _)); (fail_if_success (with_reducible show wpAny _ _ (exec (Stmt.Assign _ (Expr.ListComp _ _ _ _) _) _) _ _ _)); (fail_if_success (with_reducible show LCg.CompSrc _ _ _ _ _ _ _ _ _ _ _ _ _ _)))); (fail_if_success (with_reducible show wpAny _ _ (call (Prod.fst _) _) _ _ _)); (fail_if_success (with_reducible show wpAny _ _ (call (Value.ref 155) _) _ _ _)); (fail_if_success (with_reducible show wpAny _ _ (call (Value.ref 101) _) _ _ _)); (fail_if_success (with_reducible show wpAny _ _ (binaryOp _ (Value.ref _) (Value.ref _)) _ _ _)); (fail_if_success (with_reducible show EcAt _ _ _ _ _ _ _ _ _ _ _ _ _ _)); (fail_if_success (with_reducible show wpAny _ _ (call (Value.type "range") _) _ _ _)); (fail_if_success (with_reducible show wpAny _ _ (exec (Stmt.Assign _ (Expr.ListComp _ _ _ _) _) _) _ _ _)); (fail_if_success (with_reducible show wpAny _ _ (compareOp CmpOp.NotEq (Value.ref _) (Value.ref _)) _ _ _)); first | (first | ((with_reducible show wpAny _ _ (execs [] _) _ _ _); (k_here; (with_reducible refine gen_toks ?_); intro zztk)) | ((with_reducible show wpAny _ _ (execs (_ :: _) _) _ _ _); (k_here; (with_reducible refine gen_toks ?_); intro zztk)) | ((with_reducible show wpAny _ _ (execs (_ :: _) _) _ _ _); (k_here; (with_reducible refine wpAny_execs_cons ?_); (try dsimp only); k_fold)) | ((with_reducible show wpAny _ _ (call (Value.type "enumerate") _) _ _ _); (k_here; (with_reducible rename EnMark => zzhEnM); k_dflt (refine enum_call (by k_asm) (by k_asm) (by k_mem) ?_); intro zze' zzit' zzh' zzhe' zzhi' zzhei' zzhoff' zzhen' zzheL' zzF' zzN')) | ((k_here; (with_reducible show wpAny _ _ (subscriptTail _ (PySem.Expr.Slice _ _ none _) (Value.ref _) (Value.ref _)) _ _ _); k_dflt (refine' slice_ex (by k_asm) (by k_asm) (by kmk_list) (by kmk_part) (by kmk_part) ?_ (by with_unfolding_all rfl) (by kmk_pure) (by (first | decide | omega | (simp only [List.length_append, List.length_cons, List.length_nil] at *; omega)))); intro zzD' zzh' zzF' zzN' zzl1; (try k_lt zzl1); (try k_sweep))) | ((with_reducible show wpAny _ _ (subscriptTail (Expr.Name _ _) (Expr.Name _ _) (Value.ref _) (Value.int _ _)) _ _ _); (k_dflt (refine' item_list (by is_list) (by (first | decide | omega | (simp only [List.size_toArray] at *; omega))) (by (first | decide | omega | (simp only [List.size_toArray] at *; omega))) (by assumption) ?_))) | ((with_reducible show wpAny _ _ (call (Value.builtin "len") [_]) _ _ _); (k_dflt (refine' call_len_list (by is_list) (by (first | decide | (simp only [List.size_toArray]; omega) | (simp only [List.size_toArray, List.length_cons, List.length_append, List.length_map, List.length_nil, List.length_take, List.length_drop]; omega))) ?_))) | walk1) | (dsimp only; (first | ((with_reducible show wpAny _ _ (execs [] _) _ _ _); (k_here; (with_reducible refine gen_toks ?_); intro zztk)) | ((with_reducible show wpAny _ _ (execs (_ :: _) _) _ _ _); (k_here; (with_reducible refine gen_toks ?_); intro zztk)) | ((with_reducible show wpAny _ _ (execs (_ :: _) _) _ _ _); (k_here; (with_reducible refine wpAny_execs_cons ?_); (try dsimp only); k_fold)) | ((with_reducible show wpAny _ _ (call (Value.type "enumerate") _) _ _ _); (k_here; (with_reducible rename EnMark => zzhEnM); k_dflt (refine enum_call (by k_asm) (by k_asm) (by k_mem) ?_); intro zze' zzit' zzh' zzhe' zzhi' zzhei' zzhoff' zzhen' zzheL' zzF' zzN')) | ((k_here; (with_reducible show wpAny _ _ (subscriptTail _ (PySem.Expr.Slice _ _ none _) (Value.ref _) (Value.ref _)) _ _ _); k_dflt (refine' slice_ex (by k_asm) (by k_asm) (by kmk_list) (by kmk_part) (by kmk_part) ?_ (by with_unfolding_all rfl) (by kmk_pure) (by (first | decide | omega | (simp only [List.length_append, List.length_cons, List.length_nil] at *; omega)))); intro zzD' zzh' zzF' zzN' zzl1; (try k_lt zzl1); (try k_sweep))) | ((with_reducible show wpAny _ _ (subscriptTail (Expr.Name _ _) (Expr.Name _ _) (Value.ref _) (Value.int _ _)) _ _ _); (k_dflt (refine' item_list (by is_list) (by (first | decide | omega | (simp only [List.size_toArray] at *; omega))) (by (first | decide | omega | (simp only [List.size_toArray] at *; omega))) (by assumption) ?_))) | ((with_reducible show wpAny _ _ (call (Value.builtin "len") [_]) _ _ _); (k_dflt (refine' call_len_list (by is_list) (by (first | decide | (simp only [List.size_toArray]; omega) | (simp only [List.size_toArray, List.length_cons, List.length_append, List.length_map, List.length_nil, List.length_take, List.length_drop]; omega))) ?_))) | walk1))) | fail "no step"))
      (rename Fr _ _ _ _ => F9); (rename News _ _ _ _ => N9)
      exact hQ _ _ _ _ _ rfl rfl rfl rfl F9 (news_sub N9 fun p hp => by
        simp only [List.mem_cons] at hp ⊢
        rcases hp with h | h | h
        · simp [h]
        · simp [h]
        · exact .inr (.inr (.inr (.inr (.inr (.inr (hfx2 _ h))))))) eA2

theorem zz_reset_NpLoop : True := by
  w_top off
  exact trivial
open PySem PySem.W PyProof.Rows PySem.Calls
theorem seed_frag_loop : hd.heap_39 = hd.heap_39 ∧ PySem.Challenge.rw_np0012_01 = PySem.Challenge.rw_np0012_01 := by
  k_fill
  exact ⟨rfl, rfl⟩

structure LoopJ (L : Addr) (fx : List (Addr × Obj)) (x a b : Addr) (rv2 : Value) (m : Str → Option Value) (nx : List (Addr × Obj)) : Prop where
  ex : ∃ oM oA vM vA, nx = (L + 1 + 1, oM) :: (L + 1 + 1 + 1, oA) :: fx ∧ oM.data = .cell vM ∧ oA.data = .cell vA
  e1 : m (Str.ofString "told_own") = some (.ref x)
  e2 : m (Str.ofString "needed_own") = some (.ref a)
  e3 : m (Str.ofString "optional_own") = some (.ref b)
  e4 : m (Str.ofString "rest") = some rv2

theorem RestIs.mono {P P' : Addr → Obj → Prop} {v : Value} {rs : Option Str} (h : RestIs P v rs) (k : ∀ a o, P a o → P' a o) : RestIs P' v rs := by
  cases h with
  | none => exact .none
  | some h1 h2 => exact .some (h1.mono k) h2
theorem fits_fix {h₀ h : Heap} {L : Addr} {x : Str} {c : Bool} {m : Str → Option Value} (c' : Bool) (F : Fr h₀ L h fun y => if y = x then some (.bool c) else m y) (e : c = c') : Fr h₀ L h fun y => if y = x then some (.bool c') else m y := e ▸ F

set_option maxHeartbeats 4000000 in
theorem law_loop {w : World} {prog : Program} {dp un : Nat} {gd : Option (List Code)} {s : Shared} {Q : Flow → Shared → Prop} {h₀ : Heap} {L : Addr} {m : Str → Option Value} {fx : List (Addr × Obj)}
    {name qual : Str} {params : Arguments} {body : List Stmt} {scope : Scope} {dV kV doc pm cdv ct oc : Value} {an od : Option Addr} {osl : Array (Option Value)}
    (hlaw : (hd.heap_39 w.params).lookup 184 = some ⟨oc, od, .func (fnOf name qual params body scope dV kV doc pm an cdv ct), osl⟩)
    (B : Base w h₀) (hd : dp ≤ 500) (hu : un ≤ 500) {x dx nl ol a b : Addr} {k1 k2 k3 : Int} {t1 t2 t3 c1 c2 c3 c4 : Nat} {zn zo vn vo : List Value} {nd op : List Str} {rs : Option Str} {rv rv2 : Value} {oM oA : Obj} {vM vA : Option Value}
    (F : Fr h₀ L s.heap m) (N : News h₀ L s.heap ((L + 1 + 1, oM) :: (L + 1 + 1 + 1, oA) :: fx)) (eM : oM.data = .cell vM) (eA : oA.data = .cell vA) (hoff : ∀ p ∈ fx, p.1 ≠ L + 1 + 1 ∧ p.1 ≠ L + 1 + 1 + 1)
    (e1 : m (Str.ofString "told_own") = some (.ref x)) (e2 : m (Str.ofString "needed_own") = some (.ref a)) (e3 : m (Str.ofString "optional_own") = some (.ref b)) (e4 : m (Str.ofString "rest") = some rv2)
    (gx : (x, instObj 132 dx) ∈ fx) (gd' : (dx, dictOf [⟨k1, .str (Str.ofString "needed") t1, .ref nl⟩, ⟨k2, .str (Str.ofString "optional") t2, .ref ol⟩, ⟨k3, .str (Str.ofString "rest") t3, rv⟩] 3) ∈ fx) (gn : (nl, listOf (List.toArray zn) c1) ∈ fx) (go : (ol, listOf (List.toArray zo) c2) ∈ fx)
    (ga : (a, listOf vn.toArray c3) ∈ fx) (gb : (b, listOf vo.toArray c4) ∈ fx)
    (hn : ItemsAre (fun a o => (a, o) ∈ fx) zn nd) (ho : ItemsAre (fun a o => (a, o) ∈ fx) zo op) (hr : RestIs (fun a o => (a, o) ∈ fx) rv rs) (zn1 : zn.length ≤ 100) (zo1 : zo.length ≤ 100) (hvn : StrsAre vn nd) (hvo : StrsAre vo op) (hdr : DueR rv2 rs)
    (n7nd : ∀ y ∈ nd, y ≠ Str.ofString "7") (n7op : ∀ y ∈ op, y ≠ Str.ofString "7")
    (hQ : ∀ h' tk m', Fr h₀ L h' m' → Q (.ret (.bool true)) { s with heap := h', toks := tk }) :
    wpAny (model prog w) (Around.deeper (Ar dp (some []) gd un) (envOfC qual scope L 184 cdv)) (execs (body.drop 15) (envOfC qual scope L 184 cdv)) Q (fun _ _ => False) s := by
  k_dflt (refine' same_elim hlaw ?h' ?_; (case h' => k_is))
  intro q1 q2 q3 q4
  subst q1 q2 q3 q4
  have X := B.X
  obtain ⟨p, loose, mean, mg, mb, T⟩ := B.T
  dsimp only [List.drop]
  (repeat' (first | (k_unfold; (try dsimp only)) | ((( (fail_if_success (with_reducible show wpAny _ _ (pyIter _) _ _ _)); (fail_if_success (with_reducible show wpAny _ _ (exec (Stmt.While _ _ _ _) _) _ _ _)))); (( (fail_if_success (with_reducible show wpAny _ _ (eval (Expr.ListComp _ _ _ _) _) _ _ _)); (fail_if_success (with_reducible show wpAny _ _ (exec (Stmt.Assign _ (Expr.ListComp _ _ _ _) _) _) _ _ _)); (fail_if_success (with_reducible show LCg.CompSrc _ _ _ _ _ _ _ _ _ _ _ _ _ _)))); (fail_if_success (with_reducible show wpAny _ _ (call (Prod.fst _) _) _ _ _)); (fail_if_success (with_reducible show wpAny _ _ (call (Value.ref 122) _) _ _ _)); (fail_if_success (with_reducible show wpAny _ _ (call (Value.type "range") _) _ _ _)); (fail_if_success (with_reducible show wpAny _ _ (execs (Stmt.Assign [Expr.Name (Str.ofString "arguments") _] _ _ :: _) _) _ _ _)); (fail_if_success (with_reducible show wpAny _ _ (exec (Stmt.For _ _ _ _ _) _) _ _ _)); (fail_if_success (with_reducible show wpAny _ _ (execs (Stmt.Assign _ (Expr.ListComp _ _ _ _) _ :: _) _) _ _ _)); first | (first | ((with_reducible show wpAny _ _ (execs (_ :: _) _) _ _ _); (k_here; (with_reducible refine gen_toks ?_); intro zztk)) | ((with_reducible show wpAny _ _ (execs [] _) _ _ _); (k_here; (with_reducible refine gen_toks ?_); intro zztk)) | ((with_reducible show wpAny _ _ (execs (_ :: _) _) _ _ _); (k_here; (with_reducible refine wpAny_execs_cons ?_); (try dsimp only); k_fold)) | ((with_reducible show wpAny _ _ (call (Value.builtin "len") [_]) _ _ _); ((rename News _ _ _ _ => zzlN'); k_dflt (refine' call_len_list (by exact led_list zzlN' (by (repeat (first | assumption | refine List.Mem.tail _ ?_)))) (by (first | decide | (simp only [List.size_toArray]; omega) | (simp only [List.size_toArray, List.length_cons, List.length_append, List.length_map, List.length_nil, List.length_take, List.length_drop]; omega))) ?_))) | walk1) | (dsimp only; (first | ((with_reducible show wpAny _ _ (execs (_ :: _) _) _ _ _); (k_here; (with_reducible refine gen_toks ?_); intro zztk)) | ((with_reducible show wpAny _ _ (execs [] _) _ _ _); (k_here; (with_reducible refine gen_toks ?_); intro zztk)) | ((with_reducible show wpAny _ _ (execs (_ :: _) _) _ _ _); (k_here; (with_reducible refine wpAny_execs_cons ?_); (try dsimp only); k_fold)) | ((with_reducible show wpAny _ _ (call (Value.builtin "len") [_]) _ _ _); ((rename News _ _ _ _ => zzlN'); k_dflt (refine' call_len_list (by exact led_list zzlN' (by (repeat (first | assumption | refine List.Mem.tail _ ?_)))) (by (first | decide | (simp only [List.size_toArray]; omega) | (simp only [List.size_toArray, List.length_cons, List.length_append, List.length_map, List.length_nil, List.length_take, List.length_drop]; omega))) ?_))) | walk1))) | fail "no step"))
  refine For_invTF F ?_ (by intro _; rfl)
  (repeat' (first | (k_unfold; (try dsimp only)) | ((( (fail_if_success (with_reducible show wpAny _ _ (pyIter _) _ _ _)); (fail_if_success (with_reducible show wpAny _ _ (exec (Stmt.While _ _ _ _) _) _ _ _)))); (( (fail_if_success (with_reducible show wpAny _ _ (eval (Expr.ListComp _ _ _ _) _) _ _ _)); (fail_if_success (with_reducible show wpAny _ _ (exec (Stmt.Assign _ (Expr.ListComp _ _ _ _) _) _) _ _ _)); (fail_if_success (with_reducible show LCg.CompSrc _ _ _ _ _ _ _ _ _ _ _ _ _ _)))); (fail_if_success (with_reducible show wpAny _ _ (call (Prod.fst _) _) _ _ _)); (fail_if_success (with_reducible show wpAny _ _ (call (Value.ref 122) _) _ _ _)); (fail_if_success (with_reducible show wpAny _ _ (call (Value.type "range") _) _ _ _)); (fail_if_success (with_reducible show wpAny _ _ (execs (Stmt.Assign [Expr.Name (Str.ofString "arguments") _] _ _ :: _) _) _ _ _)); (fail_if_success (with_reducible show wpAny _ _ (exec (Stmt.For _ _ _ _ _) _) _ _ _)); (fail_if_success (with_reducible show wpAny _ _ (execs (Stmt.Assign _ (Expr.ListComp _ _ _ _) _ :: _) _) _ _ _)); first | (first | ((with_reducible show wpAny _ _ (execs (_ :: _) _) _ _ _); (k_here; (with_reducible refine gen_toks ?_); intro zztk)) | ((with_reducible show wpAny _ _ (execs [] _) _ _ _); (k_here; (with_reducible refine gen_toks ?_); intro zztk)) | ((with_reducible show wpAny _ _ (execs (_ :: _) _) _ _ _); (k_here; (with_reducible refine wpAny_execs_cons ?_); (try dsimp only); k_fold)) | ((with_reducible show wpAny _ _ (call (Value.builtin "len") [_]) _ _ _); ((rename News _ _ _ _ => zzlN'); k_dflt (refine' call_len_list (by exact led_list zzlN' (by (repeat (first | assumption | refine List.Mem.tail _ ?_)))) (by (first | decide | (simp only [List.size_toArray]; omega) | (simp only [List.size_toArray, List.length_cons, List.length_append, List.length_map, List.length_nil, List.length_take, List.length_drop]; omega))) ?_))) | walk1) | (dsimp only; (first | ((with_reducible show wpAny _ _ (execs (_ :: _) _) _ _ _); (k_here; (with_reducible refine gen_toks ?_); intro zztk)) | ((with_reducible show wpAny _ _ (execs [] _) _ _ _); (k_here; (with_reducible refine gen_toks ?_); intro zztk)) | ((with_reducible show wpAny _ _ (execs (_ :: _) _) _ _ _); (k_here; (with_reducible refine wpAny_execs_cons ?_); (try dsimp only); k_fold)) | ((with_reducible show wpAny _ _ (call (Value.builtin "len") [_]) _ _ _); ((rename News _ _ _ _ => zzlN'); k_dflt (refine' call_len_list (by exact led_list zzlN' (by (repeat (first | assumption | refine List.Mem.tail _ ?_)))) (by (first | decide | (simp only [List.size_toArray]; omega) | (simp only [List.size_toArray, List.length_cons, List.length_append, List.length_map, List.length_nil, List.length_take, List.length_drop]; omega))) ?_))) | walk1))) | fail "no step"))
  (rename Fr _ _ _ _ => F3); (rename News _ _ _ _ => N3)
  refine call_range_1 ?_
  refine loopAt_range (n := 9) (fun _ => LoopJ L fx x a b rv2) rfl (IsRange.new _ _ _ _ _ _ _) (by decide) (F3.push _) (N3.grown fun _ _ e => Heap.get?_push_of_some _ e) ⟨⟨_, _, _, _, rfl, eM, eA⟩, e1, e2, e3, e4⟩ ?_ ?_
  · rintro i t m₁ nx s₁ I oI hi ⟨⟨oM1, oA1, vM1, vA1, rfl, eM1, eA1⟩, e1, e2, e3, e4⟩ off F N
    clear F3 N3
    have F₂ := fr_know (fr_know (fr_know (fr_know F (a := Str.ofString "rest") (x := rv2) e4) (a := Str.ofString "optional_own") (x := .ref b) e3) (a := Str.ofString "needed_own") (x := .ref a) e2) (a := Str.ofString "told_own") (x := .ref x) e1
    clear F
    (repeat' (first | (k_unfold; (try dsimp only)) | ((( (fail_if_success (with_reducible show wpAny _ _ (pyIter _) _ _ _)); (fail_if_success (with_reducible show wpAny _ _ (exec (Stmt.While _ _ _ _) _) _ _ _)))); (( (fail_if_success (with_reducible show wpAny _ _ (eval (Expr.ListComp _ _ _ _) _) _ _ _)); (fail_if_success (with_reducible show wpAny _ _ (exec (Stmt.Assign _ (Expr.ListComp _ _ _ _) _) _) _ _ _)); (fail_if_success (with_reducible show LCg.CompSrc _ _ _ _ _ _ _ _ _ _ _ _ _ _)))); (fail_if_success (with_reducible show wpAny _ _ (call (Prod.fst _) _) _ _ _)); (fail_if_success (with_reducible show wpAny _ _ (call (Value.ref 122) _) _ _ _)); (fail_if_success (with_reducible show wpAny _ _ (call (Value.type "range") _) _ _ _)); (fail_if_success (with_reducible show wpAny _ _ (execs (Stmt.Assign [Expr.Name (Str.ofString "arguments") _] _ _ :: _) _) _ _ _)); (fail_if_success (with_reducible show wpAny _ _ (exec (Stmt.For _ _ _ _ _) _) _ _ _)); (fail_if_success (with_reducible show wpAny _ _ (execs (Stmt.Assign _ (Expr.ListComp _ _ _ _) _ :: _) _) _ _ _)); first | (first | ((with_reducible show wpAny _ _ (execs (_ :: _) _) _ _ _); (k_here; (with_reducible refine gen_toks ?_); intro zztk)) | ((with_reducible show wpAny _ _ (execs [] _) _ _ _); (k_here; (with_reducible refine gen_toks ?_); intro zztk)) | ((with_reducible show wpAny _ _ (execs (_ :: _) _) _ _ _); (k_here; (with_reducible refine wpAny_execs_cons ?_); (try dsimp only); k_fold)) | ((with_reducible show wpAny _ _ (call (Value.builtin "len") [_]) _ _ _); ((rename News _ _ _ _ => zzlN'); k_dflt (refine' call_len_list (by exact led_list zzlN' (by (repeat (first | assumption | refine List.Mem.tail _ ?_)))) (by (first | decide | (simp only [List.size_toArray]; omega) | (simp only [List.size_toArray, List.length_cons, List.length_append, List.length_map, List.length_nil, List.length_take, List.length_drop]; omega))) ?_))) | walk1) | (dsimp only; (first | ((with_reducible show wpAny _ _ (execs (_ :: _) _) _ _ _); (k_here; (with_reducible refine gen_toks ?_); intro zztk)) | ((with_reducible show wpAny _ _ (execs [] _) _ _ _); (k_here; (with_reducible refine gen_toks ?_); intro zztk)) | ((with_reducible show wpAny _ _ (execs (_ :: _) _) _ _ _); (k_here; (with_reducible refine wpAny_execs_cons ?_); (try dsimp only); k_fold)) | ((with_reducible show wpAny _ _ (call (Value.builtin "len") [_]) _ _ _); ((rename News _ _ _ _ => zzlN'); k_dflt (refine' call_len_list (by exact led_list zzlN' (by (repeat (first | assumption | refine List.Mem.tail _ ?_)))) (by (first | decide | (simp only [List.size_toArray]; omega) | (simp only [List.size_toArray, List.length_cons, List.length_append, List.length_map, List.length_nil, List.length_take, List.length_drop]; omega))) ?_))) | walk1))) | fail "no step"))
    refine stCN (own := [(I, oI)]) F₂ N (by rfl) eM1 (fun p hp => by rw [List.mem_singleton.mp hp]; exact (off _ (.head _)).symm) (List.forall_mem_cons.mpr ⟨(Nat.ne_of_lt (Nat.lt_succ_self _)).symm, fun p hp => (hoff p hp).1⟩) ?_
    intro h2 oM2 F2 N2 eM2
    simp only [List.cons_append, List.nil_append] at N2
    have ga' := ga
    have gb' := gb
    have en : (vn.toArray.size : Int) = nd.length := by rw [List.size_toArray, StrsAre.length hvn]
    have eo : (vo.toArray.size : Int) = op.length := by rw [List.size_toArray, StrsAre.length hvo]
    have vl1 := StrsAre.length hvn
    have vl2 := StrsAre.length hvo
    have vl3 := hn.length
    have vl4 := ho.length
    clear F₂ N
    have off2 : ∀ (o o' : Obj), ∀ p ∈ (L + 1 + 1, o) :: (L + 1 + 1 + 1, o') :: fx, p.1 ≠ I := fun o o' => List.forall_mem_cons.mpr ⟨off (L + 1 + 1, oM1) (.head _), List.forall_mem_cons.mpr ⟨off (L + 1 + 1 + 1, oA1) (.tail _ (.head _)), fun p hp => off p (.tail _ (.tail _ hp))⟩⟩
    rcases id hdr with ⟨rfl, rfl⟩ | ⟨rx, rt, rfl, rfl⟩
    · (repeat' (first | (k_unfold; (try dsimp only)) | ((( (fail_if_success (with_reducible show wpAny _ _ (pyIter _) _ _ _)); (fail_if_success (with_reducible show wpAny _ _ (exec (Stmt.While _ _ _ _) _) _ _ _)))); (( (fail_if_success (with_reducible show wpAny _ _ (eval (Expr.ListComp _ _ _ _) _) _ _ _)); (fail_if_success (with_reducible show wpAny _ _ (exec (Stmt.Assign _ (Expr.ListComp _ _ _ _) _) _) _ _ _)); (fail_if_success (with_reducible show LCg.CompSrc _ _ _ _ _ _ _ _ _ _ _ _ _ _)))); (fail_if_success (with_reducible show wpAny _ _ (call (Prod.fst _) _) _ _ _)); (fail_if_success (with_reducible show wpAny _ _ (call (Value.ref 122) _) _ _ _)); (fail_if_success (with_reducible show wpAny _ _ (call (Value.type "range") _) _ _ _)); (fail_if_success (with_reducible show wpAny _ _ (execs (Stmt.Assign [Expr.Name (Str.ofString "arguments") _] _ _ :: _) _) _ _ _)); (fail_if_success (with_reducible show wpAny _ _ (exec (Stmt.For _ _ _ _ _) _) _ _ _)); (fail_if_success (with_reducible show wpAny _ _ (execs (Stmt.Assign _ (Expr.ListComp _ _ _ _) _ :: _) _) _ _ _)); first | (first | ((with_reducible show wpAny _ _ (execs (_ :: _) _) _ _ _); (k_here; (with_reducible refine gen_toks ?_); intro zztk)) | ((with_reducible show wpAny _ _ (execs [] _) _ _ _); (k_here; (with_reducible refine gen_toks ?_); intro zztk)) | ((with_reducible show wpAny _ _ (execs (_ :: _) _) _ _ _); (k_here; (with_reducible refine wpAny_execs_cons ?_); (try dsimp only); k_fold)) | ((with_reducible show wpAny _ _ (call (Value.builtin "len") [_]) _ _ _); ((rename News _ _ _ _ => zzlN'); k_dflt (refine' call_len_list (by exact led_list zzlN' (by (repeat (first | assumption | refine List.Mem.tail _ ?_)))) (by (first | decide | (simp only [List.size_toArray]; omega) | (simp only [List.size_toArray, List.length_cons, List.length_append, List.length_map, List.length_nil, List.length_take, List.length_drop]; omega))) ?_))) | walk1) | (dsimp only; (first | ((with_reducible show wpAny _ _ (execs (_ :: _) _) _ _ _); (k_here; (with_reducible refine gen_toks ?_); intro zztk)) | ((with_reducible show wpAny _ _ (execs [] _) _ _ _); (k_here; (with_reducible refine gen_toks ?_); intro zztk)) | ((with_reducible show wpAny _ _ (execs (_ :: _) _) _ _ _); (k_here; (with_reducible refine wpAny_execs_cons ?_); (try dsimp only); k_fold)) | ((with_reducible show wpAny _ _ (call (Value.builtin "len") [_]) _ _ _); ((rename News _ _ _ _ => zzlN'); k_dflt (refine' call_len_list (by exact led_list zzlN' (by (repeat (first | assumption | refine List.Mem.tail _ ?_)))) (by (first | decide | (simp only [List.size_toArray]; omega) | (simp only [List.size_toArray, List.length_cons, List.length_append, List.length_map, List.length_nil, List.length_take, List.length_drop]; omega))) ?_))) | walk1))) | fail "no step"))
      · (rename Fr _ _ _ _ => F6); (rename News _ _ _ _ => N6)
        by_cases hP : nd.length ≤ i ∧ ((none : Option Str) ≠ none ∨ i ≤ nd.length + op.length)
        · have F7 := fits_fix true F6 (decide_eq_true (by obtain ⟨_, q | q⟩ := hP; exact absurd rfl q; omega))
          refine takes_spec (P := fun a o => (a, o) ∈ fx) (many := i) (rs := (none : Option Str)) (B.keeps F7.keep) ?td ?tu (N6 (x, _) (.tail _ (.tail _ (.tail _ gx)))).1 (N6 (dx, _) (.tail _ (.tail _ (.tail _ gd')))).1 (N6 (nl, _) (.tail _ (.tail _ (.tail _ gn)))).1 (N6 (ol, _) (.tail _ (.tail _ (.tail _ go)))).1 hn ho hr zn1 zo1 ?_
          case td => k_room
          case tu => ((have hcL := cLine_is; (try simp only [units_under_make, units_in1, units_deeper, Around.mark_units, units_caller]); (try dsimp only [Ar]); omega))
          intro h7 tk7 kp7
          rw [decide_eq_true hP]
          have F8 := fr_kept F7 kp7
          have N8 := news_kept N6 kp7
          clear F7 N6 F6
          (repeat' (first | (k_unfold; (try dsimp only)) | ((( (fail_if_success (with_reducible show wpAny _ _ (pyIter _) _ _ _)); (fail_if_success (with_reducible show wpAny _ _ (exec (Stmt.While _ _ _ _) _) _ _ _)))); (( (fail_if_success (with_reducible show wpAny _ _ (eval (Expr.ListComp _ _ _ _) _) _ _ _)); (fail_if_success (with_reducible show wpAny _ _ (exec (Stmt.Assign _ (Expr.ListComp _ _ _ _) _) _) _ _ _)); (fail_if_success (with_reducible show LCg.CompSrc _ _ _ _ _ _ _ _ _ _ _ _ _ _)))); (fail_if_success (with_reducible show wpAny _ _ (call (Prod.fst _) _) _ _ _)); (fail_if_success (with_reducible show wpAny _ _ (call (Value.ref 122) _) _ _ _)); (fail_if_success (with_reducible show wpAny _ _ (call (Value.type "range") _) _ _ _)); (fail_if_success (with_reducible show wpAny _ _ (execs (Stmt.Assign [Expr.Name (Str.ofString "arguments") _] _ _ :: _) _) _ _ _)); (fail_if_success (with_reducible show wpAny _ _ (exec (Stmt.For _ _ _ _ _) _) _ _ _)); (fail_if_success (with_reducible show wpAny _ _ (execs (Stmt.Assign _ (Expr.ListComp _ _ _ _) _ :: _) _) _ _ _)); first | (first | ((with_reducible show wpAny _ _ (execs (_ :: _) _) _ _ _); (k_here; (with_reducible refine gen_toks ?_); intro zztk)) | ((with_reducible show wpAny _ _ (execs [] _) _ _ _); (k_here; (with_reducible refine gen_toks ?_); intro zztk)) | ((with_reducible show wpAny _ _ (execs (_ :: _) _) _ _ _); (k_here; (with_reducible refine wpAny_execs_cons ?_); (try dsimp only); k_fold)) | ((with_reducible show wpAny _ _ (call (Value.builtin "len") [_]) _ _ _); ((rename News _ _ _ _ => zzlN'); k_dflt (refine' call_len_list (by exact led_list zzlN' (by (repeat (first | assumption | refine List.Mem.tail _ ?_)))) (by (first | decide | (simp only [List.size_toArray]; omega) | (simp only [List.size_toArray, List.length_cons, List.length_append, List.length_map, List.length_nil, List.length_take, List.length_drop]; omega))) ?_))) | walk1) | (dsimp only; (first | ((with_reducible show wpAny _ _ (execs (_ :: _) _) _ _ _); (k_here; (with_reducible refine gen_toks ?_); intro zztk)) | ((with_reducible show wpAny _ _ (execs [] _) _ _ _); (k_here; (with_reducible refine gen_toks ?_); intro zztk)) | ((with_reducible show wpAny _ _ (execs (_ :: _) _) _ _ _); (k_here; (with_reducible refine wpAny_execs_cons ?_); (try dsimp only); k_fold)) | ((with_reducible show wpAny _ _ (call (Value.builtin "len") [_]) _ _ _); ((rename News _ _ _ _ => zzlN'); k_dflt (refine' call_len_list (by exact led_list zzlN' (by (repeat (first | assumption | refine List.Mem.tail _ ?_)))) (by (first | decide | (simp only [List.size_toArray]; omega) | (simp only [List.size_toArray, List.length_cons, List.length_append, List.length_map, List.length_nil, List.length_take, List.length_drop]; omega))) ?_))) | walk1))) | fail "no step"))
          (rename Fr _ _ _ _ => F9); (rename News _ _ _ _ => N9)
          have N10 : News h₀ L _ ((L + 1 + 1, oM2) :: (L + 1 + 1 + 1, oA1) :: (I, oI) :: fx) := news_sub N9 fun p hp => by
            simp only [List.mem_cons] at hp ⊢
            rcases hp with h | h | h | h <;> simp [h]
          refine law_fit hlaw B hd hu (n := i) F9 N10 eM2 eA1 (by omega) (List.forall_mem_cons.mpr ⟨⟨(off _ (.head _)).symm, (off _ (.tail _ (.head _))).symm⟩, hoff⟩) rfl rfl rfl rfl (.tail _ gx) (.tail _ gd') (.tail _ gn) (.tail _ go) (.tail _ ga) (.tail _ gb)
            (hn.mono fun a o q => .tail _ q) (ho.mono fun a o q => .tail _ q) (hr.mono fun a o q => .tail _ q) zn1 zo1 hvn hvo hdr n7nd n7op ?_
          intro h11 tk11 m11 oA11 vA11 f1 f2 f3 f4 F11 N11 eA11
          refine wpAny_execs_nil ?_
          refine ⟨rfl, _, _, _, (L + 1 + 1, oM2) :: (L + 1 + 1 + 1, oA11) :: fx, rfl, F11, news_sub N11 fun p hp => ?_, ?_, ⟨⟨_, _, _, _, rfl, eM2, eA11⟩, f1, f2, f3, f4⟩⟩
          · simp only [List.mem_cons] at hp ⊢
            rcases hp with h | h | h | h <;> simp [h]
          · exact off2 _ _

        · have F7 := fits_fix false F6 (decide_eq_false (fun q => hP ⟨by omega, .inr (by omega)⟩))
          refine takes_spec (P := fun a o => (a, o) ∈ fx) (many := i) (rs := (none : Option Str)) (B.keeps F7.keep) ?td ?tu (N6 (x, _) (.tail _ (.tail _ (.tail _ gx)))).1 (N6 (dx, _) (.tail _ (.tail _ (.tail _ gd')))).1 (N6 (nl, _) (.tail _ (.tail _ (.tail _ gn)))).1 (N6 (ol, _) (.tail _ (.tail _ (.tail _ go)))).1 hn ho hr zn1 zo1 ?_
          case td => k_room
          case tu => ((have hcL := cLine_is; (try simp only [units_under_make, units_in1, units_deeper, Around.mark_units, units_caller]); (try dsimp only [Ar]); omega))
          intro h7 tk7 kp7
          rw [decide_eq_false hP]
          have F8 := fr_kept F7 kp7
          have N8 := news_kept N6 kp7
          clear F7 N6 F6
          (repeat' (first | (k_unfold; (try dsimp only)) | ((( (fail_if_success (with_reducible show wpAny _ _ (pyIter _) _ _ _)); (fail_if_success (with_reducible show wpAny _ _ (exec (Stmt.While _ _ _ _) _) _ _ _)))); (( (fail_if_success (with_reducible show wpAny _ _ (eval (Expr.ListComp _ _ _ _) _) _ _ _)); (fail_if_success (with_reducible show wpAny _ _ (exec (Stmt.Assign _ (Expr.ListComp _ _ _ _) _) _) _ _ _)); (fail_if_success (with_reducible show LCg.CompSrc _ _ _ _ _ _ _ _ _ _ _ _ _ _)))); (fail_if_success (with_reducible show wpAny _ _ (call (Prod.fst _) _) _ _ _)); (fail_if_success (with_reducible show wpAny _ _ (call (Value.ref 122) _) _ _ _)); (fail_if_success (with_reducible show wpAny _ _ (call (Value.type "range") _) _ _ _)); (fail_if_success (with_reducible show wpAny _ _ (execs (Stmt.Assign [Expr.Name (Str.ofString "arguments") _] _ _ :: _) _) _ _ _)); (fail_if_success (with_reducible show wpAny _ _ (exec (Stmt.For _ _ _ _ _) _) _ _ _)); (fail_if_success (with_reducible show wpAny _ _ (execs (Stmt.Assign _ (Expr.ListComp _ _ _ _) _ :: _) _) _ _ _)); first | (first | ((with_reducible show wpAny _ _ (execs (_ :: _) _) _ _ _); (k_here; (with_reducible refine gen_toks ?_); intro zztk)) | ((with_reducible show wpAny _ _ (execs [] _) _ _ _); (k_here; (with_reducible refine gen_toks ?_); intro zztk)) | ((with_reducible show wpAny _ _ (execs (_ :: _) _) _ _ _); (k_here; (with_reducible refine wpAny_execs_cons ?_); (try dsimp only); k_fold)) | ((with_reducible show wpAny _ _ (call (Value.builtin "len") [_]) _ _ _); ((rename News _ _ _ _ => zzlN'); k_dflt (refine' call_len_list (by exact led_list zzlN' (by (repeat (first | assumption | refine List.Mem.tail _ ?_)))) (by (first | decide | (simp only [List.size_toArray]; omega) | (simp only [List.size_toArray, List.length_cons, List.length_append, List.length_map, List.length_nil, List.length_take, List.length_drop]; omega))) ?_))) | walk1) | (dsimp only; (first | ((with_reducible show wpAny _ _ (execs (_ :: _) _) _ _ _); (k_here; (with_reducible refine gen_toks ?_); intro zztk)) | ((with_reducible show wpAny _ _ (execs [] _) _ _ _); (k_here; (with_reducible refine gen_toks ?_); intro zztk)) | ((with_reducible show wpAny _ _ (execs (_ :: _) _) _ _ _); (k_here; (with_reducible refine wpAny_execs_cons ?_); (try dsimp only); k_fold)) | ((with_reducible show wpAny _ _ (call (Value.builtin "len") [_]) _ _ _); ((rename News _ _ _ _ => zzlN'); k_dflt (refine' call_len_list (by exact led_list zzlN' (by (repeat (first | assumption | refine List.Mem.tail _ ?_)))) (by (first | decide | (simp only [List.size_toArray]; omega) | (simp only [List.size_toArray, List.length_cons, List.length_append, List.length_map, List.length_nil, List.length_take, List.length_drop]; omega))) ?_))) | walk1))) | fail "no step"))
          (rename Fr _ _ _ _ => F9); (rename News _ _ _ _ => N9)
          exact ⟨rfl, _, _, _, _, rfl, F9, N9, off2 _ _, ⟨⟨_, _, _, _, rfl, eM2, eA1⟩, rfl, rfl, rfl, rfl⟩⟩

      · (rename Fr _ _ _ _ => F6); (rename News _ _ _ _ => N6)
        have hP : ¬ (nd.length ≤ i ∧ ((none : Option Str) ≠ none ∨ i ≤ nd.length + op.length)) := by omega
        have F7 := fits_fix false F6 (decide_eq_false (by omega))
        refine takes_spec (P := fun a o => (a, o) ∈ fx) (many := i) (rs := (none : Option Str)) (B.keeps F7.keep) ?td ?tu (N6 (x, _) (.tail _ (.tail _ (.tail _ gx)))).1 (N6 (dx, _) (.tail _ (.tail _ (.tail _ gd')))).1 (N6 (nl, _) (.tail _ (.tail _ (.tail _ gn)))).1 (N6 (ol, _) (.tail _ (.tail _ (.tail _ go)))).1 hn ho hr zn1 zo1 ?_
        case td => k_room
        case tu => ((have hcL := cLine_is; (try simp only [units_under_make, units_in1, units_deeper, Around.mark_units, units_caller]); (try dsimp only [Ar]); omega))
        intro h7 tk7 kp7
        rw [decide_eq_false hP]
        have F8 := fr_kept F7 kp7
        have N8 := news_kept N6 kp7
        clear F7 N6 F6
        (repeat' (first | (k_unfold; (try dsimp only)) | ((( (fail_if_success (with_reducible show wpAny _ _ (pyIter _) _ _ _)); (fail_if_success (with_reducible show wpAny _ _ (exec (Stmt.While _ _ _ _) _) _ _ _)))); (( (fail_if_success (with_reducible show wpAny _ _ (eval (Expr.ListComp _ _ _ _) _) _ _ _)); (fail_if_success (with_reducible show wpAny _ _ (exec (Stmt.Assign _ (Expr.ListComp _ _ _ _) _) _) _ _ _)); (fail_if_success (with_reducible show LCg.CompSrc _ _ _ _ _ _ _ _ _ _ _ _ _ _)))); (fail_if_success (with_reducible show wpAny _ _ (call (Prod.fst _) _) _ _ _)); (fail_if_success (with_reducible show wpAny _ _ (call (Value.ref 122) _) _ _ _)); (fail_if_success (with_reducible show wpAny _ _ (call (Value.type "range") _) _ _ _)); (fail_if_success (with_reducible show wpAny _ _ (execs (Stmt.Assign [Expr.Name (Str.ofString "arguments") _] _ _ :: _) _) _ _ _)); (fail_if_success (with_reducible show wpAny _ _ (exec (Stmt.For _ _ _ _ _) _) _ _ _)); (fail_if_success (with_reducible show wpAny _ _ (execs (Stmt.Assign _ (Expr.ListComp _ _ _ _) _ :: _) _) _ _ _)); first | (first | ((with_reducible show wpAny _ _ (execs (_ :: _) _) _ _ _); (k_here; (with_reducible refine gen_toks ?_); intro zztk)) | ((with_reducible show wpAny _ _ (execs [] _) _ _ _); (k_here; (with_reducible refine gen_toks ?_); intro zztk)) | ((with_reducible show wpAny _ _ (execs (_ :: _) _) _ _ _); (k_here; (with_reducible refine wpAny_execs_cons ?_); (try dsimp only); k_fold)) | ((with_reducible show wpAny _ _ (call (Value.builtin "len") [_]) _ _ _); ((rename News _ _ _ _ => zzlN'); k_dflt (refine' call_len_list (by exact led_list zzlN' (by (repeat (first | assumption | refine List.Mem.tail _ ?_)))) (by (first | decide | (simp only [List.size_toArray]; omega) | (simp only [List.size_toArray, List.length_cons, List.length_append, List.length_map, List.length_nil, List.length_take, List.length_drop]; omega))) ?_))) | walk1) | (dsimp only; (first | ((with_reducible show wpAny _ _ (execs (_ :: _) _) _ _ _); (k_here; (with_reducible refine gen_toks ?_); intro zztk)) | ((with_reducible show wpAny _ _ (execs [] _) _ _ _); (k_here; (with_reducible refine gen_toks ?_); intro zztk)) | ((with_reducible show wpAny _ _ (execs (_ :: _) _) _ _ _); (k_here; (with_reducible refine wpAny_execs_cons ?_); (try dsimp only); k_fold)) | ((with_reducible show wpAny _ _ (call (Value.builtin "len") [_]) _ _ _); ((rename News _ _ _ _ => zzlN'); k_dflt (refine' call_len_list (by exact led_list zzlN' (by (repeat (first | assumption | refine List.Mem.tail _ ?_)))) (by (first | decide | (simp only [List.size_toArray]; omega) | (simp only [List.size_toArray, List.length_cons, List.length_append, List.length_map, List.length_nil, List.length_take, List.length_drop]; omega))) ?_))) | walk1))) | fail "no step"))
        (rename Fr _ _ _ _ => F9); (rename News _ _ _ _ => N9)
        exact ⟨rfl, _, _, _, _, rfl, F9, N9, off2 _ _, ⟨⟨_, _, _, _, rfl, eM2, eA1⟩, rfl, rfl, rfl, rfl⟩⟩

    · (repeat' (first | (k_unfold; (try dsimp only)) | ((( (fail_if_success (with_reducible show wpAny _ _ (pyIter _) _ _ _)); (fail_if_success (with_reducible show wpAny _ _ (exec (Stmt.While _ _ _ _) _) _ _ _)))); (( (fail_if_success (with_reducible show wpAny _ _ (eval (Expr.ListComp _ _ _ _) _) _ _ _)); (fail_if_success (with_reducible show wpAny _ _ (exec (Stmt.Assign _ (Expr.ListComp _ _ _ _) _) _) _ _ _)); (fail_if_success (with_reducible show LCg.CompSrc _ _ _ _ _ _ _ _ _ _ _ _ _ _)))); (fail_if_success (with_reducible show wpAny _ _ (call (Prod.fst _) _) _ _ _)); (fail_if_success (with_reducible show wpAny _ _ (call (Value.ref 122) _) _ _ _)); (fail_if_success (with_reducible show wpAny _ _ (call (Value.type "range") _) _ _ _)); (fail_if_success (with_reducible show wpAny _ _ (execs (Stmt.Assign [Expr.Name (Str.ofString "arguments") _] _ _ :: _) _) _ _ _)); (fail_if_success (with_reducible show wpAny _ _ (exec (Stmt.For _ _ _ _ _) _) _ _ _)); (fail_if_success (with_reducible show wpAny _ _ (execs (Stmt.Assign _ (Expr.ListComp _ _ _ _) _ :: _) _) _ _ _)); first | (first | ((with_reducible show wpAny _ _ (execs (_ :: _) _) _ _ _); (k_here; (with_reducible refine gen_toks ?_); intro zztk)) | ((with_reducible show wpAny _ _ (execs [] _) _ _ _); (k_here; (with_reducible refine gen_toks ?_); intro zztk)) | ((with_reducible show wpAny _ _ (execs (_ :: _) _) _ _ _); (k_here; (with_reducible refine wpAny_execs_cons ?_); (try dsimp only); k_fold)) | ((with_reducible show wpAny _ _ (call (Value.builtin "len") [_]) _ _ _); ((rename News _ _ _ _ => zzlN'); k_dflt (refine' call_len_list (by exact led_list zzlN' (by (repeat (first | assumption | refine List.Mem.tail _ ?_)))) (by (first | decide | (simp only [List.size_toArray]; omega) | (simp only [List.size_toArray, List.length_cons, List.length_append, List.length_map, List.length_nil, List.length_take, List.length_drop]; omega))) ?_))) | walk1) | (dsimp only; (first | ((with_reducible show wpAny _ _ (execs (_ :: _) _) _ _ _); (k_here; (with_reducible refine gen_toks ?_); intro zztk)) | ((with_reducible show wpAny _ _ (execs [] _) _ _ _); (k_here; (with_reducible refine gen_toks ?_); intro zztk)) | ((with_reducible show wpAny _ _ (execs (_ :: _) _) _ _ _); (k_here; (with_reducible refine wpAny_execs_cons ?_); (try dsimp only); k_fold)) | ((with_reducible show wpAny _ _ (call (Value.builtin "len") [_]) _ _ _); ((rename News _ _ _ _ => zzlN'); k_dflt (refine' call_len_list (by exact led_list zzlN' (by (repeat (first | assumption | refine List.Mem.tail _ ?_)))) (by (first | decide | (simp only [List.size_toArray]; omega) | (simp only [List.size_toArray, List.length_cons, List.length_append, List.length_map, List.length_nil, List.length_take, List.length_drop]; omega))) ?_))) | walk1))) | fail "no step"))
      · (rename Fr _ _ _ _ => F6); (rename News _ _ _ _ => N6)
        have hP : nd.length ≤ i ∧ ((some rx) ≠ none ∨ i ≤ nd.length + op.length) := ⟨by omega, .inl (by intro q; cases q)⟩
        have F7 := fits_fix true F6 rfl
        refine takes_spec (P := fun a o => (a, o) ∈ fx) (many := i) (rs := (some rx)) (B.keeps F7.keep) ?td ?tu (N6 (x, _) (.tail _ (.tail _ (.tail _ gx)))).1 (N6 (dx, _) (.tail _ (.tail _ (.tail _ gd')))).1 (N6 (nl, _) (.tail _ (.tail _ (.tail _ gn)))).1 (N6 (ol, _) (.tail _ (.tail _ (.tail _ go)))).1 hn ho hr zn1 zo1 ?_
        case td => k_room
        case tu => ((have hcL := cLine_is; (try simp only [units_under_make, units_in1, units_deeper, Around.mark_units, units_caller]); (try dsimp only [Ar]); omega))
        intro h7 tk7 kp7
        rw [decide_eq_true hP]
        have F8 := fr_kept F7 kp7
        have N8 := news_kept N6 kp7
        clear F7 N6 F6
        (repeat' (first | (k_unfold; (try dsimp only)) | ((( (fail_if_success (with_reducible show wpAny _ _ (pyIter _) _ _ _)); (fail_if_success (with_reducible show wpAny _ _ (exec (Stmt.While _ _ _ _) _) _ _ _)))); (( (fail_if_success (with_reducible show wpAny _ _ (eval (Expr.ListComp _ _ _ _) _) _ _ _)); (fail_if_success (with_reducible show wpAny _ _ (exec (Stmt.Assign _ (Expr.ListComp _ _ _ _) _) _) _ _ _)); (fail_if_success (with_reducible show LCg.CompSrc _ _ _ _ _ _ _ _ _ _ _ _ _ _)))); (fail_if_success (with_reducible show wpAny _ _ (call (Prod.fst _) _) _ _ _)); (fail_if_success (with_reducible show wpAny _ _ (call (Value.ref 122) _) _ _ _)); (fail_if_success (with_reducible show wpAny _ _ (call (Value.type "range") _) _ _ _)); (fail_if_success (with_reducible show wpAny _ _ (execs (Stmt.Assign [Expr.Name (Str.ofString "arguments") _] _ _ :: _) _) _ _ _)); (fail_if_success (with_reducible show wpAny _ _ (exec (Stmt.For _ _ _ _ _) _) _ _ _)); (fail_if_success (with_reducible show wpAny _ _ (execs (Stmt.Assign _ (Expr.ListComp _ _ _ _) _ :: _) _) _ _ _)); first | (first | ((with_reducible show wpAny _ _ (execs (_ :: _) _) _ _ _); (k_here; (with_reducible refine gen_toks ?_); intro zztk)) | ((with_reducible show wpAny _ _ (execs [] _) _ _ _); (k_here; (with_reducible refine gen_toks ?_); intro zztk)) | ((with_reducible show wpAny _ _ (execs (_ :: _) _) _ _ _); (k_here; (with_reducible refine wpAny_execs_cons ?_); (try dsimp only); k_fold)) | ((with_reducible show wpAny _ _ (call (Value.builtin "len") [_]) _ _ _); ((rename News _ _ _ _ => zzlN'); k_dflt (refine' call_len_list (by exact led_list zzlN' (by (repeat (first | assumption | refine List.Mem.tail _ ?_)))) (by (first | decide | (simp only [List.size_toArray]; omega) | (simp only [List.size_toArray, List.length_cons, List.length_append, List.length_map, List.length_nil, List.length_take, List.length_drop]; omega))) ?_))) | walk1) | (dsimp only; (first | ((with_reducible show wpAny _ _ (execs (_ :: _) _) _ _ _); (k_here; (with_reducible refine gen_toks ?_); intro zztk)) | ((with_reducible show wpAny _ _ (execs [] _) _ _ _); (k_here; (with_reducible refine gen_toks ?_); intro zztk)) | ((with_reducible show wpAny _ _ (execs (_ :: _) _) _ _ _); (k_here; (with_reducible refine wpAny_execs_cons ?_); (try dsimp only); k_fold)) | ((with_reducible show wpAny _ _ (call (Value.builtin "len") [_]) _ _ _); ((rename News _ _ _ _ => zzlN'); k_dflt (refine' call_len_list (by exact led_list zzlN' (by (repeat (first | assumption | refine List.Mem.tail _ ?_)))) (by (first | decide | (simp only [List.size_toArray]; omega) | (simp only [List.size_toArray, List.length_cons, List.length_append, List.length_map, List.length_nil, List.length_take, List.length_drop]; omega))) ?_))) | walk1))) | fail "no step"))
        (rename Fr _ _ _ _ => F9); (rename News _ _ _ _ => N9)
        have N10 : News h₀ L _ ((L + 1 + 1, oM2) :: (L + 1 + 1 + 1, oA1) :: (I, oI) :: fx) := news_sub N9 fun p hp => by
          simp only [List.mem_cons] at hp ⊢
          rcases hp with h | h | h | h <;> simp [h]
        refine law_fit hlaw B hd hu (n := i) F9 N10 eM2 eA1 (by omega) (List.forall_mem_cons.mpr ⟨⟨(off _ (.head _)).symm, (off _ (.tail _ (.head _))).symm⟩, hoff⟩) rfl rfl rfl rfl (.tail _ gx) (.tail _ gd') (.tail _ gn) (.tail _ go) (.tail _ ga) (.tail _ gb)
          (hn.mono fun a o q => .tail _ q) (ho.mono fun a o q => .tail _ q) (hr.mono fun a o q => .tail _ q) zn1 zo1 hvn hvo hdr n7nd n7op ?_
        intro h11 tk11 m11 oA11 vA11 f1 f2 f3 f4 F11 N11 eA11
        refine wpAny_execs_nil ?_
        refine ⟨rfl, _, _, _, (L + 1 + 1, oM2) :: (L + 1 + 1 + 1, oA11) :: fx, rfl, F11, news_sub N11 fun p hp => ?_, ?_, ⟨⟨_, _, _, _, rfl, eM2, eA11⟩, f1, f2, f3, f4⟩⟩
        · simp only [List.mem_cons] at hp ⊢
          rcases hp with h | h | h | h <;> simp [h]
        · exact off2 _ _
      · (rename Fr _ _ _ _ => F6); (rename News _ _ _ _ => N6)
        have hP : ¬ (nd.length ≤ i ∧ ((some rx) ≠ none ∨ i ≤ nd.length + op.length)) := by omega
        have F7 := fits_fix false F6 (decide_eq_false (by omega))
        refine takes_spec (P := fun a o => (a, o) ∈ fx) (many := i) (rs := (some rx)) (B.keeps F7.keep) ?td ?tu (N6 (x, _) (.tail _ (.tail _ (.tail _ gx)))).1 (N6 (dx, _) (.tail _ (.tail _ (.tail _ gd')))).1 (N6 (nl, _) (.tail _ (.tail _ (.tail _ gn)))).1 (N6 (ol, _) (.tail _ (.tail _ (.tail _ go)))).1 hn ho hr zn1 zo1 ?_
        case td => k_room
        case tu => ((have hcL := cLine_is; (try simp only [units_under_make, units_in1, units_deeper, Around.mark_units, units_caller]); (try dsimp only [Ar]); omega))
        intro h7 tk7 kp7
        rw [decide_eq_false hP]
        have F8 := fr_kept F7 kp7
        have N8 := news_kept N6 kp7
        clear F7 N6 F6
        (repeat' (first | (k_unfold; (try dsimp only)) | ((( (fail_if_success (with_reducible show wpAny _ _ (pyIter _) _ _ _)); (fail_if_success (with_reducible show wpAny _ _ (exec (Stmt.While _ _ _ _) _) _ _ _)))); (( (fail_if_success (with_reducible show wpAny _ _ (eval (Expr.ListComp _ _ _ _) _) _ _ _)); (fail_if_success (with_reducible show wpAny _ _ (exec (Stmt.Assign _ (Expr.ListComp _ _ _ _) _) _) _ _ _)); (fail_if_success (with_reducible show LCg.CompSrc _ _ _ _ _ _ _ _ _ _ _ _ _ _)))); (fail_if_success (with_reducible show wpAny _ _ (call (Prod.fst _) _) _ _ _)); (fail_if_success (with_reducible show wpAny _ _ (call (Value.ref 122) _) _ _ _)); (fail_if_success (with_reducible show wpAny _ _ (call (Value.type "range") _) _ _ _)); (fail_if_success (with_reducible show wpAny _ _ (execs (Stmt.Assign [Expr.Name (Str.ofString "arguments") _] _ _ :: _) _) _ _ _)); (fail_if_success (with_reducible show wpAny _ _ (exec (Stmt.For _ _ _ _ _) _) _ _ _)); (fail_if_success (with_reducible show wpAny _ _ (execs (Stmt.Assign _ (Expr.ListComp _ _ _ _) _ :: _) _) _ _ _)); first | (first | ((with_reducible show wpAny _ _ (execs (_ :: _) _) _ _ _); (k_here; (with_reducible refine gen_toks ?_); intro zztk)) | ((with_reducible show wpAny _ _ (execs [] _) _ _ _); (k_here; (with_reducible refine gen_toks ?_); intro zztk)) | ((with_reducible show wpAny _ _ (execs (_ :: _) _) _ _ _); (k_here; (with_reducible refine wpAny_execs_cons ?_); (try dsimp only); k_fold)) | ((with_reducible show wpAny _ _ (call (Value.builtin "len") [_]) _ _ _); ((rename News _ _ _ _ => zzlN'); k_dflt (refine' call_len_list (by exact led_list zzlN' (by (repeat (first | assumption | refine List.Mem.tail _ ?_)))) (by (first | decide | (simp only [List.size_toArray]; omega) | (simp only [List.size_toArray, List.length_cons, List.length_append, List.length_map, List.length_nil, List.length_take, List.length_drop]; omega))) ?_))) | walk1) | (dsimp only; (first | ((with_reducible show wpAny _ _ (execs (_ :: _) _) _ _ _); (k_here; (with_reducible refine gen_toks ?_); intro zztk)) | ((with_reducible show wpAny _ _ (execs [] _) _ _ _); (k_here; (with_reducible refine gen_toks ?_); intro zztk)) | ((with_reducible show wpAny _ _ (execs (_ :: _) _) _ _ _); (k_here; (with_reducible refine wpAny_execs_cons ?_); (try dsimp only); k_fold)) | ((with_reducible show wpAny _ _ (call (Value.builtin "len") [_]) _ _ _); ((rename News _ _ _ _ => zzlN'); k_dflt (refine' call_len_list (by exact led_list zzlN' (by (repeat (first | assumption | refine List.Mem.tail _ ?_)))) (by (first | decide | (simp only [List.size_toArray]; omega) | (simp only [List.size_toArray, List.length_cons, List.length_append, List.length_map, List.length_nil, List.length_take, List.length_drop]; omega))) ?_))) | walk1))) | fail "no step"))
        (rename Fr _ _ _ _ => F9); (rename News _ _ _ _ => N9)
        exact ⟨rfl, _, _, _, _, rfl, F9, N9, off2 _ _, ⟨⟨_, _, _, _, rfl, eM2, eA1⟩, rfl, rfl, rfl, rfl⟩⟩
  · intro h' tk m' nx F N hJ
    clear F3 N3
    (repeat' (first | (k_unfold; (try dsimp only)) | ((( (fail_if_success (with_reducible show wpAny _ _ (pyIter _) _ _ _)); (fail_if_success (with_reducible show wpAny _ _ (exec (Stmt.While _ _ _ _) _) _ _ _)))); (( (fail_if_success (with_reducible show wpAny _ _ (eval (Expr.ListComp _ _ _ _) _) _ _ _)); (fail_if_success (with_reducible show wpAny _ _ (exec (Stmt.Assign _ (Expr.ListComp _ _ _ _) _) _) _ _ _)); (fail_if_success (with_reducible show LCg.CompSrc _ _ _ _ _ _ _ _ _ _ _ _ _ _)))); first | (first | ((with_reducible show wpAny _ _ (execs (_ :: _) _) _ _ _); (k_here; (with_reducible refine gen_toks ?_); intro zztk)) | ((with_reducible show wpAny _ _ (execs [] _) _ _ _); (k_here; (with_reducible refine gen_toks ?_); intro zztk)) | ((with_reducible show wpAny _ _ (execs (_ :: _) _) _ _ _); (k_here; (with_reducible refine wpAny_execs_cons ?_); (try dsimp only); k_fold)) | ((with_reducible show wpAny _ _ (call (Value.builtin "len") [_]) _ _ _); ((rename News _ _ _ _ => zzlN'); k_dflt (refine' call_len_list (by exact led_list zzlN' (by (repeat (first | assumption | refine List.Mem.tail _ ?_)))) (by (first | decide | (simp only [List.size_toArray]; omega) | (simp only [List.size_toArray, List.length_cons, List.length_append, List.length_map, List.length_nil, List.length_take, List.length_drop]; omega))) ?_))) | walk1) | (dsimp only; (first | ((with_reducible show wpAny _ _ (execs (_ :: _) _) _ _ _); (k_here; (with_reducible refine gen_toks ?_); intro zztk)) | ((with_reducible show wpAny _ _ (execs [] _) _ _ _); (k_here; (with_reducible refine gen_toks ?_); intro zztk)) | ((with_reducible show wpAny _ _ (execs (_ :: _) _) _ _ _); (k_here; (with_reducible refine wpAny_execs_cons ?_); (try dsimp only); k_fold)) | ((with_reducible show wpAny _ _ (call (Value.builtin "len") [_]) _ _ _); ((rename News _ _ _ _ => zzlN'); k_dflt (refine' call_len_list (by exact led_list zzlN' (by (repeat (first | assumption | refine List.Mem.tail _ ?_)))) (by (first | decide | (simp only [List.size_toArray]; omega) | (simp only [List.size_toArray, List.length_cons, List.length_append, List.length_map, List.length_nil, List.length_take, List.length_drop]; omega))) ?_))) | walk1))) | fail "no step"))
    (rename Fr _ _ _ _ => F6)
    exact hQ _ _ _ F6

theorem zz_reset_NpStart : True := by
  w_top off
  exact trivial
open PySem PySem.W PyProof.Rows PySem.Calls
theorem seed_frag_start : hd.heap_39 = hd.heap_39 ∧ PySem.Challenge.rw_np0012_01 = PySem.Challenge.rw_np0012_01 := by
  k_fill
  exact ⟨rfl, rfl⟩

theorem allw_strs {us : List Value} (h : AllW us) : ∃ ws, StrsAre us ws ∧ ∀ x ∈ ws, x ∈ W8 := by
  induction us with
  | nil => exact ⟨[], .nil, fun _ h => nomatch h⟩
  | cons v r ih =>
    obtain ⟨ws, h1, h2⟩ := ih fun y hy => h y (.tail _ hy)
    obtain ⟨x, t, rfl, hx⟩ := h v (.head _)
    exact ⟨x :: ws, .cons x t h1, List.forall_mem_cons.mpr ⟨hx, h2⟩⟩
def deckL (ca sa dk : Addr) (vs : List Value) (n : Nat) (i : Int) (t n2 n0 : Nat) : List (Addr × Obj) := [(ca, listOf vs.toArray n), (sa, listOf [Value.int i t].toArray n2), (dk, listOf [Value.ref ca, Value.ref sa].toArray n0)]

set_option maxHeartbeats 4000000 in
theorem law_words {w : World} {prog : Program} {dp un : Nat} {gd : Option (List Code)} {s : Shared} {Q : Flow → Shared → Prop} {E : Value → Shared → Prop} {h₀ : Heap} {L sc : Addr} {m : Str → Option Value} {news : List (Addr × Obj)} {svs : List Value} {sns : List Int}
    {name qual : Str} {params : Arguments} {body : List Stmt} {scope : Scope} {dV kV doc pm cdv ct oc : Value} {an od : Option Addr} {osl : Array (Option Value)}
    (hlaw : (hd.heap_39 w.params).lookup 184 = some ⟨oc, od, .func (fnOf name qual params body scope dV kV doc pm an cdv ct), osl⟩)
    (B : Base w h₀) (hd : dp ≤ 500) (hu : un ≤ 500) (F : Fr h₀ L s.heap m) (N : News h₀ L s.heap news) (e1 : m (Str.ofString "script") = some (.ref sc)) (hl : h₀.IsList sc svs.toArray) (hi : IntsAre svs sns) (hz : svs.length ≤ 63)
    (hnext : ∀ wl us ws c ca sa dk vs ns n i t n2 n0 h' tk m', StrsAre us ws → (∀ x ∈ ws, x ∈ W8) → us.length ≤ 20 → @Ne Nat ca sa → @Ne Nat dk ca → @Ne Nat dk sa → (∀ p ∈ news, p.1 ≠ ca ∧ p.1 ≠ sa) → @Ne Nat wl ca → @Ne Nat wl sa → IntsAre vs ns → (∀ x ∈ ns, 0 ≤ x ∧ x < 10 ^ 24) → 0 ≤ i ∧ i < 1100000 → vs.length ≤ 10 →
      m' (Str.ofString "deck") = some (.ref dk) → m' (Str.ofString "words_own") = some (.ref wl) → Fr h₀ L h' m' → News h₀ L h' ((wl, listOf (List.toArray us) c) :: (deckL ca sa dk vs n i t n2 n0 ++ news)) →
      wpAny (model prog w) (Around.deeper (Ar dp (some []) gd un) (envOfC qual scope L 184 cdv)) (execs (body.drop 2) (envOfC qual scope L 184 cdv)) Q E { s with heap := h', toks := tk }) :
    wpAny (model prog w) (Around.deeper (Ar dp (some []) gd un) (envOfC qual scope L 184 cdv)) (execs (body.drop 0) (envOfC qual scope L 184 cdv)) Q E s := by
  k_dflt (refine' same_elim hlaw ?h' ?_; (case h' => k_is))
  intro q1 q2 q3 q4
  subst q1 q2 q3 q4
  have X := B.X
  have F₂ := fr_know F (a := Str.ofString "script") (x := .ref sc) e1
  obtain ⟨p, loose, mean, mg, mb, T⟩ := B.T
  clear F
  dsimp only [List.drop]
  (repeat' (first | (k_unfold; (try dsimp only)) | ((( (fail_if_success (with_reducible show wpAny _ _ (pyIter _) _ _ _)); (fail_if_success (with_reducible show wpAny _ _ (exec (Stmt.While _ _ _ _) _) _ _ _)))); (( (fail_if_success (with_reducible show wpAny _ _ (eval (Expr.ListComp _ _ _ _) _) _ _ _)); (fail_if_success (with_reducible show wpAny _ _ (exec (Stmt.Assign _ (Expr.ListComp _ _ _ _) _) _) _ _ _)); (fail_if_success (with_reducible show LCg.CompSrc _ _ _ _ _ _ _ _ _ _ _ _ _ _)))); (fail_if_success (with_reducible show wpAny _ _ (call (Prod.fst _) _) _ _ _)); (fail_if_success (with_reducible show wpAny _ _ (call (Value.ref _) _) _ _ _)); (fail_if_success (with_reducible show wpAny _ _ (execs (Stmt.Assign [Expr.Name (Str.ofString "symbols") _] _ _ :: _) _) _ _ _)); first | (first | ((with_reducible show wpAny _ _ (execs (_ :: _) _) _ _ _); (k_here; (with_reducible refine gen_toks ?_); intro zztk)) | ((with_reducible show wpAny _ _ (execs [] _) _ _ _); (k_here; (with_reducible refine gen_toks ?_); intro zztk)) | ((with_reducible show wpAny _ _ (execs (_ :: _) _) _ _ _); (k_here; (with_reducible refine wpAny_execs_cons ?_); (try dsimp only); k_fold)) | walk1) | (dsimp only; (first | ((with_reducible show wpAny _ _ (execs (_ :: _) _) _ _ _); (k_here; (with_reducible refine gen_toks ?_); intro zztk)) | ((with_reducible show wpAny _ _ (execs [] _) _ _ _); (k_here; (with_reducible refine gen_toks ?_); intro zztk)) | ((with_reducible show wpAny _ _ (execs (_ :: _) _) _ _ _); (k_here; (with_reducible refine wpAny_execs_cons ?_); (try dsimp only); k_fold)) | walk1))) | fail "no step"))
  (rename Fr _ _ _ _ => F3); (rename News _ _ _ _ => N3)
  refine deck_spec (B.keeps F3.keep) ?dd ?du (Kept.list F3.keep hl) hi hz ?_
  case dd => k_room
  case du => ((have hcL := cLine_is; (try simp only [units_under_make, units_in1, units_deeper, Around.mark_units, units_caller]); (try dsimp only [Ar]); omega))
  intro dk ca sa n0 n n2 us ms i t h' tk kp d1 d2 d3 n1 n2' n3 g1 g2 g3 hi1 hns1 hi0 hz1
  have F4 := fr_kept F3 kp
  have N4 := news_new F3 d2 g1 (news_new F3 d3 g2 (news_new F3 d1 g3 (news_kept N3 kp)))
  have off : ∀ p ∈ news, p.1 ≠ ca ∧ p.1 ≠ sa := fun p hp => ⟨fun q => (by have := (N3 p hp).1; rw [q, d2] at this; cases this), fun q => (by have := (N3 p hp).1; rw [q, d3] at this; cases this)⟩
  clear F3 N3
  (repeat' (first | (k_unfold; (try dsimp only)) | ((( (fail_if_success (with_reducible show wpAny _ _ (pyIter _) _ _ _)); (fail_if_success (with_reducible show wpAny _ _ (exec (Stmt.While _ _ _ _) _) _ _ _)))); (( (fail_if_success (with_reducible show wpAny _ _ (eval (Expr.ListComp _ _ _ _) _) _ _ _)); (fail_if_success (with_reducible show wpAny _ _ (exec (Stmt.Assign _ (Expr.ListComp _ _ _ _) _) _) _ _ _)); (fail_if_success (with_reducible show LCg.CompSrc _ _ _ _ _ _ _ _ _ _ _ _ _ _)))); (fail_if_success (with_reducible show wpAny _ _ (call (Prod.fst _) _) _ _ _)); (fail_if_success (with_reducible show wpAny _ _ (call (Value.ref _) _) _ _ _)); (fail_if_success (with_reducible show wpAny _ _ (execs (Stmt.Assign [Expr.Name (Str.ofString "symbols") _] _ _ :: _) _) _ _ _)); first | (first | ((with_reducible show wpAny _ _ (execs (_ :: _) _) _ _ _); (k_here; (with_reducible refine gen_toks ?_); intro zztk)) | ((with_reducible show wpAny _ _ (execs [] _) _ _ _); (k_here; (with_reducible refine gen_toks ?_); intro zztk)) | ((with_reducible show wpAny _ _ (execs (_ :: _) _) _ _ _); (k_here; (with_reducible refine wpAny_execs_cons ?_); (try dsimp only); k_fold)) | walk1) | (dsimp only; (first | ((with_reducible show wpAny _ _ (execs (_ :: _) _) _ _ _); (k_here; (with_reducible refine gen_toks ?_); intro zztk)) | ((with_reducible show wpAny _ _ (execs [] _) _ _ _); (k_here; (with_reducible refine gen_toks ?_); intro zztk)) | ((with_reducible show wpAny _ _ (execs (_ :: _) _) _ _ _); (k_here; (with_reducible refine wpAny_execs_cons ?_); (try dsimp only); k_fold)) | walk1))) | fail "no step"))
  (rename Fr _ _ _ _ => F5); (rename News _ _ _ _ => N5)
  have hnw : ∀ p ∈ news, p ∈ (ca, listOf us.toArray n) :: (sa, listOf [Value.int i t].toArray n2) :: (dk, listOf [Value.ref ca, Value.ref sa].toArray n0) :: news := fun p hp => .tail _ (.tail _ (.tail _ hp))
  refine words_spec (n0 := n0) (n := n) (n2 := n2) (t := t) B F5 (news_sub N5 fun p hp => ?_) ?wd ?wu n1 n2' n3 hi1 hns1 hi0 hz1 ?_
  case wd => k_room
  case wu => ((have hcL := cLine_is; (try simp only [units_under_make, units_in1, units_deeper, Around.mark_units, units_caller]); (try dsimp only [Ar]); omega))
  · simp only [List.mem_cons, List.not_mem_nil, or_false] at hp ⊢
    rcases hp with h | h | h <;> simp [h]
  intro wl ws' c vs' ns' n' i' ti n2'' h' tk hw0 hallw hlen hi' hns' hi0' hz' F6 kp' N6
  obtain ⟨ws, hws, h8⟩ := allw_strs hallw
  have N7 : News h₀ L h' ((wl, listOf (List.toArray ws') c) :: (deckL ca sa dk vs' n' i' ti n2'' n0 ++ news)) := fun p hp => by
    have hp' : p ∈ [(wl, listOf (List.toArray ws') c), (ca, listOf vs'.toArray n'), (sa, listOf [Value.int i' ti].toArray n2''), (dk, listOf [Value.ref ca, Value.ref sa].toArray n0)] ∨ p ∈ news := by
      simp only [deckL, List.cons_append, List.nil_append, List.mem_cons, List.not_mem_nil, or_false] at hp ⊢
      rcases hp with h | h | h | h | h <;> simp [h]
    rcases hp' with hp | hp
    · exact N6 p hp
    · exact ⟨kp' _ _ (N5 p (hnw p hp)).1 (off p hp).1 (off p hp).2, (N5 p (hnw p hp)).2⟩
  have w1 : @Ne Nat wl ca := fun q => by have := (N5 (ca, _) (.head _)).1; rw [← q, hw0] at this; cases this
  have w2 : @Ne Nat wl sa := fun q => by have := (N5 (sa, _) (.tail _ (.head _))).1; rw [← q, hw0] at this; cases this
  clear F5 N5 N6
  (repeat' (first | (k_unfold; (try dsimp only)) | ((( (fail_if_success (with_reducible show wpAny _ _ (pyIter _) _ _ _)); (fail_if_success (with_reducible show wpAny _ _ (exec (Stmt.While _ _ _ _) _) _ _ _)))); (( (fail_if_success (with_reducible show wpAny _ _ (eval (Expr.ListComp _ _ _ _) _) _ _ _)); (fail_if_success (with_reducible show wpAny _ _ (exec (Stmt.Assign _ (Expr.ListComp _ _ _ _) _) _) _ _ _)); (fail_if_success (with_reducible show LCg.CompSrc _ _ _ _ _ _ _ _ _ _ _ _ _ _)))); (fail_if_success (with_reducible show wpAny _ _ (call (Prod.fst _) _) _ _ _)); (fail_if_success (with_reducible show wpAny _ _ (call (Value.ref _) _) _ _ _)); (fail_if_success (with_reducible show wpAny _ _ (execs (Stmt.Assign [Expr.Name (Str.ofString "symbols") _] _ _ :: _) _) _ _ _)); first | (first | ((with_reducible show wpAny _ _ (execs (_ :: _) _) _ _ _); (k_here; (with_reducible refine gen_toks ?_); intro zztk)) | ((with_reducible show wpAny _ _ (execs [] _) _ _ _); (k_here; (with_reducible refine gen_toks ?_); intro zztk)) | ((with_reducible show wpAny _ _ (execs (_ :: _) _) _ _ _); (k_here; (with_reducible refine wpAny_execs_cons ?_); (try dsimp only); k_fold)) | walk1) | (dsimp only; (first | ((with_reducible show wpAny _ _ (execs (_ :: _) _) _ _ _); (k_here; (with_reducible refine gen_toks ?_); intro zztk)) | ((with_reducible show wpAny _ _ (execs [] _) _ _ _); (k_here; (with_reducible refine gen_toks ?_); intro zztk)) | ((with_reducible show wpAny _ _ (execs (_ :: _) _) _ _ _); (k_here; (with_reducible refine wpAny_execs_cons ?_); (try dsimp only); k_fold)) | walk1))) | fail "no step"))
  (rename Fr _ _ _ _ => F8); (rename News _ _ _ _ => N8)
  exact hnext wl ws' ws c ca sa dk vs' ns' n' i' ti n2'' n0 _ _ _ hws h8 hlen n1 n2' n3 off w1 w2 hi' hns' hi0' hz' rfl rfl F8 N8

theorem zz_reset_NpSyms : True := by
  w_top off
  exact trivial
open PySem PySem.W PyProof.Rows PySem.Calls
theorem seed_frag_syms : hd.heap_39 = hd.heap_39 ∧ PySem.Challenge.rw_np0012_01 = PySem.Challenge.rw_np0012_01 := by
  k_fill
  exact ⟨rfl, rfl⟩

theorem valueAt_stored {K : Type} [DecidableEq K] (kvs : List (K × Value)) (k : K) (v : Value) (y : K) : valueAt (stored kvs k v) y = if y = k then some v else valueAt kvs y := by
  have key : ∀ l : List (K × Value), valueAt (l.map fun kv => if kv.1 = k then (kv.1, v) else kv) y = if y = k ∧ l.any (fun kv => kv.1 = k) = true then some v else valueAt l y := by
    intro l
    induction l with
    | nil => simp [valueAt]
    | cons a r ih =>
      unfold valueAt at ih ⊢
      rw [List.map_cons, List.find?_cons, List.find?_cons]
      by_cases ha : a.1 = k
      · by_cases hy : y = k
        · simp [hy, ha]
        · have h1 : ¬ k = y := fun q => hy q.symm
          rw [if_pos ha]; simp only [ha, h1, decide_false, hy, false_and, if_false, ih]
      · by_cases hy : a.1 = y
        · have h1 : ¬ y = k := fun q => ha (hy.trans q)
          simp [ha, hy, h1]
        · rw [if_neg ha]; simp only [hy, decide_false, ih, List.any_cons, ha, Bool.false_or]
  unfold stored
  split
  · rename_i h; rw [key, h]; simp
  · rename_i h
    have h' : ∀ kv ∈ kvs, ¬ kv.1 = k := fun kv hkv q => h (List.any_eq_true.mpr ⟨kv, hkv, decide_eq_true q⟩)
    unfold valueAt
    rw [List.find?_append]
    by_cases hy : y = k
    · subst hy
      have : kvs.find? (fun kv => decide (kv.1 = y)) = none := List.find?_eq_none.mpr fun x hx => by simpa using h' x hx
      rw [this]; simp
    · have h1 : ¬ k = y := fun q => hy q.symm
      simp [h1, hy]
def Syms (prog : Program) (w : World) (sl : List (Addr × Obj)) (oD : Obj) : Prop :=
  ∃ kvs, oD.IsDictOf (PySem.strKind prog w) kvs ∧ ∀ x ∈ W7, ∃ v, valueAt kvs x = some v ∧ ItemIs (fun a o => (a, o) ∈ sl) v x

def SymJ (prog : Program) (w : World) (dkv wlv : Value) (sd L1 : Addr) (oS : Obj) (R : List (Addr × Obj)) (ca sa : Addr) (i : Nat) (m : Str → Option Value) (nx : List (Addr × Obj)) : Prop :=
  ∃ (oD : Obj) (kvs : List (Str × Value)) (sl tl : List (Addr × Obj)), m (Str.ofString "deck") = some dkv ∧ m (Str.ofString "words_own") = some wlv ∧ nx = (sd, oD) :: (L1, oS) :: tl ∧ tl = sl ++ R ∧ (∀ q ∈ tl, q.1 ≠ sd) ∧ (∀ p ∈ sl, p.1 ≠ ca ∧ p.1 ≠ sa) ∧
    oD.IsDictOf (PySem.strKind prog w) kvs ∧ kvs.length ≤ i ∧ ∀ x ∈ W7.take i, ∃ v, valueAt kvs x = some v ∧ ItemIs (fun a o => (a, o) ∈ sl) v x
theorem w7_at {t1 t2 t3 t4 t5 t6 t7 i : Nat} {v : Value} (h : [Value.str (Str.ofString "a") t1, Value.str (Str.ofString "b") t2, Value.str (Str.ofString "c") t3, Value.str (Str.ofString "d") t4, Value.str (Str.ofString "e") t5, Value.str (Str.ofString "&optional") t6, Value.str (Str.ofString "&rest") t7].toArray[i]? = some v) :
    ∃ y t, v = .str y t ∧ W7[i]? = some y := by
  rw [List.getElem?_toArray] at h
  match i, h with
  | 0, h | 1, h | 2, h | 3, h | 4, h | 5, h | 6, h => cases h; exact ⟨_, _, rfl, rfl⟩
  | _ + 7, h => cases h
theorem mem_syms {l0 p1 p2 p3 p4 p5 p6 p : Addr × Obj} {r : List (Addr × Obj)} (h : p ∈ l0 :: p1 :: p6 :: p2 :: p3 :: p4 :: p5 :: r) : p ∈ l0 :: p1 :: p2 :: p3 :: p4 :: p5 :: p6 :: r := by
  simp only [List.mem_cons] at h ⊢
  rcases h with h | h | h | h | h | h | h | h <;> simp only [h, true_or, or_true]
theorem led_syms {h₀ h : Heap} {L lq : Addr} {its : Array Value} {c0 : Nat} {p1 p2 p3 p4 p5 p6 : Addr × Obj} {r : List (Addr × Obj)} (N : News h₀ L h ((lq, listOf its c0) :: p1 :: p2 :: p3 :: p4 :: p5 :: p6 :: r)) : News h₀ L h ((lq, listOf its c0) :: p1 :: p6 :: p2 :: p3 :: p4 :: p5 :: r) := news_sub N fun _ hp => mem_syms hp
theorem its_syms {h₀ h : Heap} {L lq sd L1 a1 a2 a3 a4 : Addr} {oD oS o1 o2 o3 o4 : Obj} {r : List (Addr × Obj)} {c0 t1 t2 t3 t4 t5 t6 t7 : Nat} {R : List (Addr × Obj)} (eR : R = (a1, o1) :: (a2, o2) :: (a3, o3) :: (a4, o4) :: r)
    (N : News h₀ L h ((lq, listOf [Value.str (Str.ofString "a") t1, Value.str (Str.ofString "b") t2, Value.str (Str.ofString "c") t3, Value.str (Str.ofString "d") t4, Value.str (Str.ofString "e") t5, Value.str (Str.ofString "&optional") t6, Value.str (Str.ofString "&rest") t7].toArray c0) :: (sd, oD) :: (a1, o1) :: (a2, o2) :: (a3, o3) :: (a4, o4) :: (L1, oS) :: r)) :
    ∃ its : Array Value, News h₀ L h ((lq, listOf its c0) :: (sd, oD) :: (L1, oS) :: R) ∧ its.size = 7 ∧ ∀ (i : Nat) (v : Value), its[i]? = some v → ∃ (y : Str) (t : Tok), v = Value.str y t ∧ W7[i]? = some y := by
  subst eR
  exact ⟨_, led_syms N, rfl, fun i v h => w7_at h⟩
theorem off_syms {e it : Addr} {l0 p1 p2 p3 p4 p5 p6 : Addr × Obj} {r R : List (Addr × Obj)} (eR : R = p2 :: p3 :: p4 :: p5 :: r) (h : ∀ p ∈ l0 :: p1 :: p2 :: p3 :: p4 :: p5 :: p6 :: r, p.1 ≠ e ∧ p.1 ≠ it) : ∀ p ∈ p1 :: p6 :: R, p.1 ≠ e ∧ p.1 ≠ it := by
  subst eR
  exact fun p hp => h p (mem_syms (.tail _ hp))
theorem name_syms {h₀ h : Heap} {L a b c : Addr} {oa ob oc o1 o2 o3 o4 : Obj} {a1 a2 a3 a4 : Addr} {r : List (Addr × Obj)} (_N : News h₀ L h ((a, oa) :: (b, ob) :: (a1, o1) :: (a2, o2) :: (a3, o3) :: (a4, o4) :: (c, oc) :: r)) : ∃ a' b' ob' oc', a' = a ∧ b' = b ∧ ob' = ob ∧ oc' = oc := ⟨_, _, _, _, rfl, rfl, rfl, rfl⟩
theorem sym_turn {h₀ h' : Heap} {L e it lq sd L1 ca sa x dx : Addr} {oe oi ol oS oD oI oX : Obj} {prog : Program} {w : World} {dkv wlv : Value} {m' : Str → Option Value} {kvs : List (Str × Value)} {sl tl R : List (Addr × Obj)} {i tk : Nat} {y : Str} {s₁ : Shared} {Q : Flow → Shared → Prop}
    (F : Fr h₀ L h' m') (N : News h₀ L h' ((x, oX) :: (dx, oI) :: (e, oe) :: (it, oi) :: (lq, ol) :: (sd, oD) :: (L1, oS) :: tl)) (l1 : @LT.lt Nat _ e dx ∧ @LT.lt Nat _ it dx ∧ @LT.lt Nat _ lq dx ∧ @LT.lt Nat _ sd dx ∧ @LT.lt Nat _ L1 dx ∧ AllLt dx tl) (l2 : @LT.lt Nat _ dx x)
    (off : ∀ p ∈ (sd, oD) :: (L1, oS) :: tl, p.1 ≠ e ∧ p.1 ≠ it) (e1 : m' (Str.ofString "deck") = some dkv) (e2 : m' (Str.ofString "words_own") = some wlv) (etl : tl = sl ++ R) (hsd : ∀ q ∈ tl, q.1 ≠ sd) (hsl : ∀ p ∈ sl, p.1 ≠ ca ∧ p.1 ≠ sa) (hca : ∃ o, (ca, o) ∈ R) (hsa : ∃ o, (sa, o) ∈ R)
    (hD : oD.IsDictOf (PySem.strKind prog w) (stored kvs y (.ref x))) (hk : kvs.length ≤ i) (hv : ∀ z ∈ W7.take i, ∃ v, valueAt kvs z = some v ∧ ItemIs (fun a o => (a, o) ∈ sl) v z) (hy : W7[i]? = some y)
    (it' : ItemIs (fun a o => (a, o) ∈ (x, oX) :: (dx, oI) :: sl) (.ref x) y) :
    EnPost h₀ L (SymJ prog w dkv wlv sd L1 oS R ca sa (i + 1)) e it [(e, oe), (it, oi), (lq, ol)] s₁ Q .next { s₁ with heap := h', toks := tk } := by
  have lt : ∀ {a : Addr} {o : Obj}, (a, o) ∈ (e, oe) :: (it, oi) :: (lq, ol) :: (sd, oD) :: (L1, oS) :: tl → dx ≠ a ∧ x ≠ a := fun {a o} q => have l3 := allLt_mem (l := (e, oe) :: (it, oi) :: (lq, ol) :: (sd, oD) :: (L1, oS) :: tl) l1 _ q; ⟨(Nat.ne_of_lt l3).symm, (Nat.ne_of_lt (Nat.lt_trans l3 l2)).symm⟩
  have le := lt (.head _)
  have li := lt (.tail _ (.head _))
  have ls := lt (.tail _ (.tail _ (.tail _ (.head _))))
  have lm : ∀ {a : Addr}, (∃ o, (a, o) ∈ R) → dx ≠ a ∧ x ≠ a := fun {a} ⟨o, q⟩ => lt (o := o) (.tail _ (.tail _ (.tail _ (.tail _ (.tail _ (etl ▸ List.mem_append_right _ q))))))
  refine ⟨h', tk, m', (sd, oD) :: (L1, oS) :: (x, oX) :: (dx, oI) :: tl, rfl, F, news_sub N ?_, ?_, oD, stored kvs y (.ref x), (x, oX) :: (dx, oI) :: sl, (x, oX) :: (dx, oI) :: tl, e1, e2, rfl, by rw [etl]; rfl, ?_, ?_, hD, Nat.le_trans (stored_length_le _ _ _) (Nat.succ_le_succ hk), ?_⟩
  · intro p hp
    simp only [List.cons_append, List.nil_append, List.mem_cons] at hp ⊢
    rcases hp with h | h | h | h | h | h | h | h <;> simp only [h, true_or, or_true]
  · exact List.forall_mem_cons.mpr ⟨off _ (.head _), List.forall_mem_cons.mpr ⟨off _ (.tail _ (.head _)), List.forall_mem_cons.mpr ⟨⟨le.2, li.2⟩, List.forall_mem_cons.mpr ⟨⟨le.1, li.1⟩, fun p hp => off p (.tail _ (.tail _ hp))⟩⟩⟩⟩
  · exact List.forall_mem_cons.mpr ⟨ls.2, List.forall_mem_cons.mpr ⟨ls.1, hsd⟩⟩
  · exact List.forall_mem_cons.mpr ⟨⟨(lm hca).2, (lm hsa).2⟩, List.forall_mem_cons.mpr ⟨⟨(lm hca).1, (lm hsa).1⟩, hsl⟩⟩
  · intro z hz
    rw [List.take_add_one, hy] at hz
    rw [valueAt_stored]
    by_cases q : z = y
    · exact ⟨_, if_pos q, q ▸ it'⟩
    · obtain ⟨v, v1, v2⟩ := hv z ((List.mem_append.mp hz).elim id fun h => absurd (List.mem_singleton.mp h) q)
      exact ⟨v, by rw [if_neg q]; exact v1, v2.mono fun a o g => .tail _ (.tail _ g)⟩
set_option maxHeartbeats 4000000 in
theorem law_syms {w : World} {prog : Program} {dp un : Nat} {gd : Option (List Code)} {s : Shared} {Q : Flow → Shared → Prop} {h₀ : Heap} {L : Addr} {m : Str → Option Value} {oS oM oA : Obj} {vS vM vA : Option Value} {wl ca sa dk : Addr} {us vs : List Value} {c n n2 n0 t0 : Nat} {i0 : Int}
    {name qual : Str} {params : Arguments} {body : List Stmt} {scope : Scope} {dV kV doc pm cdv ct oc : Value} {an od : Option Addr} {osl : Array (Option Value)}
    (hlaw : (hd.heap_39 w.params).lookup 184 = some ⟨oc, od, .func (fnOf name qual params body scope dV kV doc pm an cdv ct), osl⟩)
    (B : Base w h₀) (hd : dp ≤ 500) (hu : un ≤ 500) (F : Fr h₀ L s.heap m) (N : News h₀ L s.heap [(wl, listOf us.toArray c), (ca, listOf vs.toArray n), (sa, listOf [Value.int i0 t0].toArray n2), (dk, listOf [Value.ref ca, Value.ref sa].toArray n0), (L + 1, oS), (L + 1 + 1, oM), (L + 1 + 1 + 1, oA)])
    (eS : oS.data = .cell vS) (h1 : @Ne Nat wl (L + 1)) (h2 : @Ne Nat ca (L + 1)) (h3 : @Ne Nat sa (L + 1)) (h4 : @Ne Nat dk (L + 1)) (h5 : @Ne Nat (L + 1 + 1) (L + 1)) (h6 : @Ne Nat (L + 1 + 1 + 1) (L + 1))
    (e1 : m (Str.ofString "deck") = some (.ref dk)) (e2 : m (Str.ofString "words_own") = some (.ref wl))
    (hnext : ∀ sd oD oS' sl h' tk m', Fr h₀ L h' m' → News h₀ L h' (sl ++ [(wl, listOf us.toArray c), (ca, listOf vs.toArray n), (sa, listOf [Value.int i0 t0].toArray n2), (dk, listOf [Value.ref ca, Value.ref sa].toArray n0), (L + 1, oS'), (L + 1 + 1, oM), (L + 1 + 1 + 1, oA)]) →
      (sd, oD) ∈ sl → oS'.data = .cell (some (.ref sd)) → (∀ p ∈ sl, p.1 ≠ ca ∧ p.1 ≠ sa) → Syms prog w sl oD → m' (Str.ofString "deck") = some (.ref dk) → m' (Str.ofString "words_own") = some (.ref wl) →
      wpAny (model prog w) (Around.deeper (Ar dp (some []) gd un) (envOfC qual scope L 184 cdv)) (execs (body.drop 4) (envOfC qual scope L 184 cdv)) Q (fun _ _ => False) { s with heap := h', toks := tk }) :
    wpAny (model prog w) (Around.deeper (Ar dp (some []) gd un) (envOfC qual scope L 184 cdv)) (execs (body.drop 2) (envOfC qual scope L 184 cdv)) Q (fun _ _ => False) s := by
  k_dflt (refine' same_elim hlaw ?h' ?_; (case h' => k_is))
  intro q1 q2 q3 q4
  subst q1 q2 q3 q4
  have X := B.X
  have F₂ := fr_know (fr_know F (a := Str.ofString "deck") (x := .ref dk) e1) (a := Str.ofString "words_own") (x := .ref wl) e2
  obtain ⟨p, loose, mean, mg, mb, T⟩ := B.T
  clear F
  dsimp only [List.drop]
  have hEnM : EnMark := trivial
  (repeat' (first | (k_unfold; (try dsimp only)) | ((( (fail_if_success (with_reducible show wpAny _ _ (pyIter _) _ _ _)); (fail_if_success (with_reducible show wpAny _ _ (exec (Stmt.While _ _ _ _) _) _ _ _)))); (( (fail_if_success (with_reducible show wpAny _ _ (eval (Expr.ListComp _ _ _ _) _) _ _ _)); (fail_if_success (with_reducible show wpAny _ _ (exec (Stmt.Assign _ (Expr.ListComp _ _ _ _) _) _) _ _ _)); (fail_if_success (with_reducible show LCg.CompSrc _ _ _ _ _ _ _ _ _ _ _ _ _ _)))); (fail_if_success (with_reducible show wpAny _ _ (execs (Stmt.Assign [Expr.Name (Str.ofString "datum") _] _ _ :: _) _) _ _ _)); first | (first | ((with_reducible show wpAny _ _ (execs [] _) _ _ _); (k_here; (with_reducible refine gen_toks ?_); intro zztk)) | ((with_reducible show wpAny _ _ (execs (_ :: _) _) _ _ _); (k_here; (with_reducible refine gen_toks ?_); intro zztk)) | ((with_reducible show wpAny _ _ (execs (_ :: _) _) _ _ _); (k_here; (with_reducible refine wpAny_execs_cons ?_); (try dsimp only); k_fold)) | (((with_reducible show wpAny _ _ (call (Value.ref 51) [_, _]) _ _ _); k_dflt (refine' mk_symbol (by assumption) (by k_asm) (by k_asm) (by k_room) ?_; k_whole); intro zzx' zzdx' zzh' zztk' zzk1' zzt1' zzk2' zzt2' zzF' zzN' zzl1' zzl2'; (have zzl3' := ltN zzl2'); clear zzl2'; (try k_lt zzl1'); (try k_sweep))) | ((with_reducible show wpAny _ _ (call (Value.type "enumerate") _) _ _ _); (k_here; (with_reducible rename EnMark => zzhEnM); k_dflt (refine enum_call (by k_asm) (by k_asm) (by k_mem) ?_); intro zze' zzit' zzh' zzhe' zzhi' zzhei' zzhoff' zzhen' zzheL' zzF' zzN')) | ((with_reducible show wpAny _ _ (exec (Stmt.For (Expr.Tuple _ _ _) (Expr.Call _ _ _ _) _ _ _) _) _ _ _); (k_here; (with_reducible rename EnMark => zzhEnM); k_dflt (refine For_enumF (by k_asm) (by rfl) (by rfl) (by rfl) (by rfl) ?_))) | walk1) | (dsimp only; (first | ((with_reducible show wpAny _ _ (execs [] _) _ _ _); (k_here; (with_reducible refine gen_toks ?_); intro zztk)) | ((with_reducible show wpAny _ _ (execs (_ :: _) _) _ _ _); (k_here; (with_reducible refine gen_toks ?_); intro zztk)) | ((with_reducible show wpAny _ _ (execs (_ :: _) _) _ _ _); (k_here; (with_reducible refine wpAny_execs_cons ?_); (try dsimp only); k_fold)) | (((with_reducible show wpAny _ _ (call (Value.ref 51) [_, _]) _ _ _); k_dflt (refine' mk_symbol (by assumption) (by k_asm) (by k_asm) (by k_room) ?_; k_whole); intro zzx' zzdx' zzh' zztk' zzk1' zzt1' zzk2' zzt2' zzF' zzN' zzl1' zzl2'; (have zzl3' := ltN zzl2'); clear zzl2'; (try k_lt zzl1'); (try k_sweep))) | ((with_reducible show wpAny _ _ (call (Value.type "enumerate") _) _ _ _); (k_here; (with_reducible rename EnMark => zzhEnM); k_dflt (refine enum_call (by k_asm) (by k_asm) (by k_mem) ?_); intro zze' zzit' zzh' zzhe' zzhi' zzhei' zzhoff' zzhen' zzheL' zzF' zzN')) | ((with_reducible show wpAny _ _ (exec (Stmt.For (Expr.Tuple _ _ _) (Expr.Call _ _ _ _) _ _ _) _) _ _ _); (k_here; (with_reducible rename EnMark => zzhEnM); k_dflt (refine For_enumF (by k_asm) (by rfl) (by rfl) (by rfl) (by rfl) ?_))) | walk1))) | fail "no step"))
  (rename Fr _ _ _ _ => F8); (rename News _ _ _ _ => N8); (rename IsEnum _ _ _ _ _ => he); (rename Heap.IsListIter _ _ _ _ => hi); (rename (∀ p ∈ _, Prod.fst p ≠ _ ∧ _) => hoff); (rename (Obj.IsDictOf (PySem.strKind _ _) _ _) => hD); (rename (_ ∧ _ ∧ _ ∧ _ ∧ _ ∧ _ ∧ _ ∧ _) => l1)
  (rename (Obj.data _ = Data.cell (some (Value.ref _))) => hcell)
  obtain ⟨lq, sd, oD, oS', rfl, rfl, rfl, rfl⟩ := name_syms N8
  have l3 : @Ne Nat wl sd ∧ @Ne Nat ca sd ∧ @Ne Nat sa sd ∧ @Ne Nat dk sd ∧ @Ne Nat (L + 1) sd ∧ @Ne Nat (L + 1 + 1) sd ∧ @Ne Nat (L + 1 + 1 + 1) sd := by
    clear l1
    (rename (_ ∧ _ ∧ _ ∧ _ ∧ _ ∧ _ ∧ _) => l2)
    omega
  obtain ⟨R, eR⟩ : ∃ R : List (Addr × Obj), R = [(wl, listOf us.toArray c), (ca, listOf vs.toArray n), (sa, listOf [Value.int i0 t0].toArray n2), (dk, listOf [Value.ref ca, Value.ref sa].toArray n0), (L + 1 + 1, oM), (L + 1 + 1 + 1, oA)] := ⟨_, rfl⟩
  obtain ⟨its, N9, hsz, hits⟩ := its_syms eR N8
  have hca : ∃ o, (ca, o) ∈ R := ⟨_, by rw [eR]; exact .tail _ (.head _)⟩
  have hsa : ∃ o, (sa, o) ∈ R := ⟨_, by rw [eR]; exact .tail _ (.tail _ (.head _))⟩
  have hoff' := off_syms eR hoff
  have hR : ∀ q ∈ R, q.1 ≠ sd := by
    rw [eR]
    exact List.forall_mem_cons.mpr ⟨l3.1, List.forall_mem_cons.mpr ⟨l3.2.1, List.forall_mem_cons.mpr ⟨l3.2.2.1, List.forall_mem_cons.mpr ⟨l3.2.2.2.1, List.forall_mem_cons.mpr ⟨l3.2.2.2.2.2.1, List.forall_mem_cons.mpr ⟨l3.2.2.2.2.2.2, List.forall_mem_nil _⟩⟩⟩⟩⟩⟩
  have lsd := l3.2.2.2.2.1
  have lca := l3.2.1
  have lsa := l3.2.2.1
  have hq1 := (hoff _ (.head _)).1
  have hq2 := (hoff _ (.head _)).2
  have hlq : @Ne Nat lq sd := (Nat.ne_of_lt l1.1).symm
  clear l1 l3 N8 hoff
  refine ⟨_, _, lq, its, _, _, (sd, oD) :: (L + 1, oS') :: R, SymJ prog w (.ref dk) (.ref wl) sd (L + 1) oS' R ca sa, rfl, ⟨by assumption, hq1, hq2⟩, he, hi, by assumption, by assumption, F8, N9, hoff', ⟨oD, _, [], _, rfl, rfl, rfl, rfl, hR, (fun _ h => nomatch h), hD, Nat.le_refl _, (fun _ h => nomatch h)⟩, ?_, ?_⟩
  · intro i t v m₁ nx h tk oe oi hv hJ off F₁ N₁
    obtain ⟨oD1, kvs, sl, tl, j1, j2, rfl, etl, hsd, hsl, hD1, hk, hvs⟩ := hJ
    obtain ⟨y, ty, rfl, hy⟩ := hits i v hv
    have hi7 : i < 7 := (List.getElem?_eq_some_iff.mp hy).1
    have F₂ := fr_know (fr_know F₁ (a := Str.ofString "deck") (x := .ref dk) j1) (a := Str.ofString "words_own") (x := .ref wl) j2
    clear F₁ F8 N9 he hi hD hoff'
    (repeat' (first | (k_unfold; (try dsimp only)) | ((( (fail_if_success (with_reducible show wpAny _ _ (pyIter _) _ _ _)); (fail_if_success (with_reducible show wpAny _ _ (exec (Stmt.While _ _ _ _) _) _ _ _)))); (( (fail_if_success (with_reducible show wpAny _ _ (eval (Expr.ListComp _ _ _ _) _) _ _ _)); (fail_if_success (with_reducible show wpAny _ _ (exec (Stmt.Assign _ (Expr.ListComp _ _ _ _) _) _) _ _ _)); (fail_if_success (with_reducible show LCg.CompSrc _ _ _ _ _ _ _ _ _ _ _ _ _ _)))); (fail_if_success (with_reducible show wpAny _ _ (execs (Stmt.Assign [Expr.Name (Str.ofString "datum") _] _ _ :: _) _) _ _ _)); first | (first | ((with_reducible show wpAny _ _ (execs [] _) _ _ _); (k_here; (with_reducible refine gen_toks ?_); intro zztk)) | ((with_reducible show wpAny _ _ (execs (_ :: _) _) _ _ _); (k_here; (with_reducible refine gen_toks ?_); intro zztk)) | ((with_reducible show wpAny _ _ (execs (_ :: _) _) _ _ _); (k_here; (with_reducible refine wpAny_execs_cons ?_); (try dsimp only); k_fold)) | (((with_reducible show wpAny _ _ (call (Value.ref 51) [_, _]) _ _ _); k_dflt (refine' mk_symbol (by assumption) (by k_asm) (by k_asm) (by k_room) ?_; k_whole); intro zzx' zzdx' zzh' zztk' zzk1' zzt1' zzk2' zzt2' zzF' zzN' zzl1' zzl2'; (have zzl3' := ltN zzl2'); clear zzl2'; (try k_lt zzl1'); (try k_sweep))) | ((with_reducible show wpAny _ _ (call (Value.type "enumerate") _) _ _ _); (k_here; (with_reducible rename EnMark => zzhEnM); k_dflt (refine enum_call (by k_asm) (by k_asm) (by k_mem) ?_); intro zze' zzit' zzh' zzhe' zzhi' zzhei' zzhoff' zzhen' zzheL' zzF' zzN')) | ((with_reducible show wpAny _ _ (exec (Stmt.For (Expr.Tuple _ _ _) (Expr.Call _ _ _ _) _ _ _) _) _ _ _); (k_here; (with_reducible rename EnMark => zzhEnM); k_dflt (refine For_enumF (by k_asm) (by rfl) (by rfl) (by rfl) (by rfl) ?_))) | walk1) | (dsimp only; (first | ((with_reducible show wpAny _ _ (execs [] _) _ _ _); (k_here; (with_reducible refine gen_toks ?_); intro zztk)) | ((with_reducible show wpAny _ _ (execs (_ :: _) _) _ _ _); (k_here; (with_reducible refine gen_toks ?_); intro zztk)) | ((with_reducible show wpAny _ _ (execs (_ :: _) _) _ _ _); (k_here; (with_reducible refine wpAny_execs_cons ?_); (try dsimp only); k_fold)) | (((with_reducible show wpAny _ _ (call (Value.ref 51) [_, _]) _ _ _); k_dflt (refine' mk_symbol (by assumption) (by k_asm) (by k_asm) (by k_room) ?_; k_whole); intro zzx' zzdx' zzh' zztk' zzk1' zzt1' zzk2' zzt2' zzF' zzN' zzl1' zzl2'; (have zzl3' := ltN zzl2'); clear zzl2'; (try k_lt zzl1'); (try k_sweep))) | ((with_reducible show wpAny _ _ (call (Value.type "enumerate") _) _ _ _); (k_here; (with_reducible rename EnMark => zzhEnM); k_dflt (refine enum_call (by k_asm) (by k_asm) (by k_mem) ?_); intro zze' zzit' zzh' zzhe' zzhi' zzhei' zzhoff' zzhen' zzheL' zzF' zzN')) | ((with_reducible show wpAny _ _ (exec (Stmt.For (Expr.Tuple _ _ _) (Expr.Call _ _ _ _) _ _ _) _) _ _ _); (k_here; (with_reducible rename EnMark => zzhEnM); k_dflt (refine For_enumF (by k_asm) (by rfl) (by rfl) (by rfl) (by rfl) ?_))) | walk1))) | fail "no step"))
    (rename Fr _ _ _ _ => F3); (rename News _ _ _ _ => N3)
    (rename (_ ∧ _ ∧ _ ∧ _ ∧ _ ∧ _) => l1)
    have o1 := neN (off _ (.head _)).1
    have o2 := neN (off _ (.head _)).2
    try dsimp only at o1 o2
    k_dflt (refine' kda_set (knd := PySem.strKind _ _) F3 N3 ?U hD1 (strKind_is _ _ _ _) ?z ?_; (case U => k_updF); (case z => rw [sizeLine_eq]; omega))
    intro h₂ o₂ F4 N4 hD2
    clear F3 N3
    try dsimp only at N4
    (repeat' (first | (k_unfold; (try dsimp only)) | ((( (fail_if_success (with_reducible show wpAny _ _ (pyIter _) _ _ _)); (fail_if_success (with_reducible show wpAny _ _ (exec (Stmt.While _ _ _ _) _) _ _ _)))); (( (fail_if_success (with_reducible show wpAny _ _ (eval (Expr.ListComp _ _ _ _) _) _ _ _)); (fail_if_success (with_reducible show wpAny _ _ (exec (Stmt.Assign _ (Expr.ListComp _ _ _ _) _) _) _ _ _)); (fail_if_success (with_reducible show LCg.CompSrc _ _ _ _ _ _ _ _ _ _ _ _ _ _)))); (fail_if_success (with_reducible show wpAny _ _ (execs (Stmt.Assign [Expr.Name (Str.ofString "datum") _] _ _ :: _) _) _ _ _)); first | (first | ((with_reducible show wpAny _ _ (execs [] _) _ _ _); (k_here; (with_reducible refine gen_toks ?_); intro zztk)) | ((with_reducible show wpAny _ _ (execs (_ :: _) _) _ _ _); (k_here; (with_reducible refine gen_toks ?_); intro zztk)) | ((with_reducible show wpAny _ _ (execs (_ :: _) _) _ _ _); (k_here; (with_reducible refine wpAny_execs_cons ?_); (try dsimp only); k_fold)) | (((with_reducible show wpAny _ _ (call (Value.ref 51) [_, _]) _ _ _); k_dflt (refine' mk_symbol (by assumption) (by k_asm) (by k_asm) (by k_room) ?_; k_whole); intro zzx' zzdx' zzh' zztk' zzk1' zzt1' zzk2' zzt2' zzF' zzN' zzl1' zzl2'; (have zzl3' := ltN zzl2'); clear zzl2'; (try k_lt zzl1'); (try k_sweep))) | ((with_reducible show wpAny _ _ (call (Value.type "enumerate") _) _ _ _); (k_here; (with_reducible rename EnMark => zzhEnM); k_dflt (refine enum_call (by k_asm) (by k_asm) (by k_mem) ?_); intro zze' zzit' zzh' zzhe' zzhi' zzhei' zzhoff' zzhen' zzheL' zzF' zzN')) | ((with_reducible show wpAny _ _ (exec (Stmt.For (Expr.Tuple _ _ _) (Expr.Call _ _ _ _) _ _ _) _) _ _ _); (k_here; (with_reducible rename EnMark => zzhEnM); k_dflt (refine For_enumF (by k_asm) (by rfl) (by rfl) (by rfl) (by rfl) ?_))) | walk1) | (dsimp only; (first | ((with_reducible show wpAny _ _ (execs [] _) _ _ _); (k_here; (with_reducible refine gen_toks ?_); intro zztk)) | ((with_reducible show wpAny _ _ (execs (_ :: _) _) _ _ _); (k_here; (with_reducible refine gen_toks ?_); intro zztk)) | ((with_reducible show wpAny _ _ (execs (_ :: _) _) _ _ _); (k_here; (with_reducible refine wpAny_execs_cons ?_); (try dsimp only); k_fold)) | (((with_reducible show wpAny _ _ (call (Value.ref 51) [_, _]) _ _ _); k_dflt (refine' mk_symbol (by assumption) (by k_asm) (by k_asm) (by k_room) ?_; k_whole); intro zzx' zzdx' zzh' zztk' zzk1' zzt1' zzk2' zzt2' zzF' zzN' zzl1' zzl2'; (have zzl3' := ltN zzl2'); clear zzl2'; (try k_lt zzl1'); (try k_sweep))) | ((with_reducible show wpAny _ _ (call (Value.type "enumerate") _) _ _ _); (k_here; (with_reducible rename EnMark => zzhEnM); k_dflt (refine enum_call (by k_asm) (by k_asm) (by k_mem) ?_); intro zze' zzit' zzh' zzhe' zzhi' zzhei' zzhoff' zzhen' zzheL' zzF' zzN')) | ((with_reducible show wpAny _ _ (exec (Stmt.For (Expr.Tuple _ _ _) (Expr.Call _ _ _ _) _ _ _) _) _ _ _); (k_here; (with_reducible rename EnMark => zzhEnM); k_dflt (refine For_enumF (by k_asm) (by rfl) (by rfl) (by rfl) (by rfl) ?_))) | walk1))) | fail "no step"))
    refine sym_turn F4 N4 l1 (by assumption) (List.forall_mem_cons.mpr ⟨off (sd, oD1) (.head _), fun p hp => off p (.tail _ hp)⟩) rfl rfl etl hsd hsl hca hsa hD2 hk hvs hy (.sym (.head _) (.tail _ (.head _)) (List.mem_of_getElem? hy))
  · intro m₁ nx h tk hJ F₁ N₁
    obtain ⟨oD1, kvs, sl, tl, j1, j2, rfl, rfl, hsd, hsl, hD1, hk, hvs⟩ := hJ
    rw [hsz] at hvs
    clear F8 N9 he hi hD hoff' hits
    (repeat' (first | (k_unfold; (try dsimp only)) | ((( (fail_if_success (with_reducible show wpAny _ _ (pyIter _) _ _ _)); (fail_if_success (with_reducible show wpAny _ _ (exec (Stmt.While _ _ _ _) _) _ _ _)))); (( (fail_if_success (with_reducible show wpAny _ _ (eval (Expr.ListComp _ _ _ _) _) _ _ _)); (fail_if_success (with_reducible show wpAny _ _ (exec (Stmt.Assign _ (Expr.ListComp _ _ _ _) _) _) _ _ _)); (fail_if_success (with_reducible show LCg.CompSrc _ _ _ _ _ _ _ _ _ _ _ _ _ _)))); (fail_if_success (with_reducible show wpAny _ _ (execs (Stmt.Assign [Expr.Name (Str.ofString "datum") _] _ _ :: _) _) _ _ _)); first | (first | ((with_reducible show wpAny _ _ (execs [] _) _ _ _); (k_here; (with_reducible refine gen_toks ?_); intro zztk)) | ((with_reducible show wpAny _ _ (execs (_ :: _) _) _ _ _); (k_here; (with_reducible refine gen_toks ?_); intro zztk)) | ((with_reducible show wpAny _ _ (execs (_ :: _) _) _ _ _); (k_here; (with_reducible refine wpAny_execs_cons ?_); (try dsimp only); k_fold)) | (((with_reducible show wpAny _ _ (call (Value.ref 51) [_, _]) _ _ _); k_dflt (refine' mk_symbol (by assumption) (by k_asm) (by k_asm) (by k_room) ?_; k_whole); intro zzx' zzdx' zzh' zztk' zzk1' zzt1' zzk2' zzt2' zzF' zzN' zzl1' zzl2'; (have zzl3' := ltN zzl2'); clear zzl2'; (try k_lt zzl1'); (try k_sweep))) | ((with_reducible show wpAny _ _ (call (Value.type "enumerate") _) _ _ _); (k_here; (with_reducible rename EnMark => zzhEnM); k_dflt (refine enum_call (by k_asm) (by k_asm) (by k_mem) ?_); intro zze' zzit' zzh' zzhe' zzhi' zzhei' zzhoff' zzhen' zzheL' zzF' zzN')) | ((with_reducible show wpAny _ _ (exec (Stmt.For (Expr.Tuple _ _ _) (Expr.Call _ _ _ _) _ _ _) _) _ _ _); (k_here; (with_reducible rename EnMark => zzhEnM); k_dflt (refine For_enumF (by k_asm) (by rfl) (by rfl) (by rfl) (by rfl) ?_))) | walk1) | (dsimp only; (first | ((with_reducible show wpAny _ _ (execs [] _) _ _ _); (k_here; (with_reducible refine gen_toks ?_); intro zztk)) | ((with_reducible show wpAny _ _ (execs (_ :: _) _) _ _ _); (k_here; (with_reducible refine gen_toks ?_); intro zztk)) | ((with_reducible show wpAny _ _ (execs (_ :: _) _) _ _ _); (k_here; (with_reducible refine wpAny_execs_cons ?_); (try dsimp only); k_fold)) | (((with_reducible show wpAny _ _ (call (Value.ref 51) [_, _]) _ _ _); k_dflt (refine' mk_symbol (by assumption) (by k_asm) (by k_asm) (by k_room) ?_; k_whole); intro zzx' zzdx' zzh' zztk' zzk1' zzt1' zzk2' zzt2' zzF' zzN' zzl1' zzl2'; (have zzl3' := ltN zzl2'); clear zzl2'; (try k_lt zzl1'); (try k_sweep))) | ((with_reducible show wpAny _ _ (call (Value.type "enumerate") _) _ _ _); (k_here; (with_reducible rename EnMark => zzhEnM); k_dflt (refine enum_call (by k_asm) (by k_asm) (by k_mem) ?_); intro zze' zzit' zzh' zzhe' zzhi' zzhei' zzhoff' zzhen' zzheL' zzF' zzN')) | ((with_reducible show wpAny _ _ (exec (Stmt.For (Expr.Tuple _ _ _) (Expr.Call _ _ _ _) _ _ _) _) _ _ _); (k_here; (with_reducible rename EnMark => zzhEnM); k_dflt (refine For_enumF (by k_asm) (by rfl) (by rfl) (by rfl) (by rfl) ?_))) | walk1))) | fail "no step"))
    subst eR
    refine hnext sd oD1 oS' ((sd, oD1) :: sl) _ _ _ F₁ (news_sub N₁ fun p hp => ?_) (.head _) hcell (List.forall_mem_cons.mpr ⟨⟨Ne.symm lca, Ne.symm lsa⟩, hsl⟩) ⟨kvs, hD1, fun x hx => ?_⟩ j1 j2
    · simp only [List.cons_append, List.nil_append, List.mem_append, List.mem_cons, List.not_mem_nil, or_false] at hp ⊢
      rcases hp with h | h | h | h | h | h | h | h | h <;> simp only [h, true_or, or_true]
    · obtain ⟨v, v1, v2⟩ := hvs x hx
      exact ⟨v, v1, v2.mono fun a o g => .tail _ g⟩

theorem zz_reset_NpDatum : True := by
  w_top off
  exact trivial
open PySem PySem.W PyProof.Rows PySem.Calls
theorem seed_frag_datum : hd.heap_39 = hd.heap_39 ∧ PySem.Challenge.rw_np0012_01 = PySem.Challenge.rw_np0012_01 := by
  k_fill
  exact ⟨rfl, rfl⟩

structure DatJ (base : List (Addr × Obj)) (P : Addr → Obj → Prop) (ws : List Str) (i : Nat) (ys : List Value) (nx : List (Addr × Obj)) : Prop where
  n : ItemsAre P ys (ws.take i)
  led : nx = base

set_option maxHeartbeats 4000000 in
theorem law_datum {w : World} {prog : Program} {dp un : Nat} {gd : Option (List Code)} {s : Shared} {Q : Flow → Shared → Prop} {E : Value → Shared → Prop} {h₀ : Heap} {L : Addr} {m : Str → Option Value} {oS oD : Obj} {wl sd : Addr} {us : List Value} {ws : List Str} {c : Nat} {bs sl : List (Addr × Obj)} {dkv : Value}
    {name qual : Str} {params : Arguments} {body : List Stmt} {scope : Scope} {dV kV doc pm cdv ct oc : Value} {an od : Option Addr} {osl : Array (Option Value)}
    (hlaw : (hd.heap_39 w.params).lookup 184 = some ⟨oc, od, .func (fnOf name qual params body scope dV kV doc pm an cdv ct), osl⟩)
    (B : Base w h₀) (hd : dp ≤ 500) (hu : un ≤ 500) (F : Fr h₀ L s.heap m) (N : News h₀ L s.heap bs) (gS : (L + 1, oS) ∈ bs) (gW : (wl, listOf us.toArray c) ∈ bs) (gD : (sd, oD) ∈ bs) (eS : oS.data = .cell (some (.ref sd))) (hS : Syms prog w sl oD) (hsl : ∀ p ∈ sl, p ∈ bs)
    (hws : StrsAre us ws) (h8 : ∀ x ∈ ws, x ∈ W8) (hz : us.length ≤ 20)
    (e1 : m (Str.ofString "deck") = some dkv) (e2 : m (Str.ofString "words_own") = some (.ref wl))
    (hnext : ∀ zs nx dv h' tk m', Fr h₀ L h' m' → News h₀ L h' (nx ++ bs) → LstAt (fun a o => (a, o) ∈ nx) (.ref 57) dv zs → ItemsAre (fun a o => (a, o) ∈ sl) zs ws → (∀ p ∈ nx, ∀ q ∈ bs, p.1 ≠ q.1) →
      m' (Str.ofString "deck") = some dkv → m' (Str.ofString "words_own") = some (.ref wl) → m' (Str.ofString "datum") = some dv →
      wpAny (model prog w) (Around.deeper (Ar dp (some []) gd un) (envOfC qual scope L 184 cdv)) (execs (body.drop 5) (envOfC qual scope L 184 cdv)) Q E { s with heap := h', toks := tk }) :
    wpAny (model prog w) (Around.deeper (Ar dp (some []) gd un) (envOfC qual scope L 184 cdv)) (execs (body.drop 4) (envOfC qual scope L 184 cdv)) Q E s := by
  k_dflt (refine' same_elim hlaw ?h' ?_; (case h' => k_is))
  intro q1 q2 q3 q4
  subst q1 q2 q3 q4
  have X := B.X
  have F₂ := fr_know (fr_know F (a := Str.ofString "deck") (x := dkv) e1) (a := Str.ofString "words_own") (x := .ref wl) e2
  obtain ⟨p, loose, mean, mg, mb, T⟩ := B.T
  clear F
  obtain ⟨kvs, hD, hsym⟩ := hS
  have N2 : News h₀ L s.heap ((L + 1, oS) :: bs) := List.forall_mem_cons.mpr ⟨N _ gS, N⟩
  clear N
  dsimp only [List.drop]
  (repeat' (first | (k_unfold; (try dsimp only)) | ((( (fail_if_success (with_reducible show wpAny _ _ (pyIter _) _ _ _)); (fail_if_success (with_reducible show wpAny _ _ (exec (Stmt.While _ _ _ _) _) _ _ _)))); (( (fail_if_success (with_reducible show wpAny _ _ (eval (Expr.ListComp _ _ _ _) _) _ _ _)); (fail_if_success (with_reducible show wpAny _ _ (exec (Stmt.Assign _ (Expr.ListComp _ _ _ _) _) _) _ _ _)); (fail_if_success (with_reducible show LCg.CompSrc _ _ _ _ _ _ _ _ _ _ _ _ _ _)))); (fail_if_success (with_reducible show wpAny _ _ (call (Prod.fst _) _) _ _ _)); (fail_if_success (with_reducible show wpAny _ _ (call (Value.ref _) _) _ _ _)); (fail_if_success (with_reducible show wpAny _ _ (subscriptTail _ _ _ _) _ _ _)); (fail_if_success (with_reducible show wpAny _ _ (execs (Stmt.If _ _ _ _ :: _) _) _ _ _)); first | (first | ((with_reducible show wpAny _ _ (execs (_ :: _) _) _ _ _); (k_here; (with_reducible refine gen_toks ?_); intro zztk)) | ((with_reducible show wpAny _ _ (execs [] _) _ _ _); (k_here; (with_reducible refine gen_toks ?_); intro zztk)) | ((with_reducible show wpAny _ _ (execs (_ :: _) _) _ _ _); (k_here; (with_reducible refine wpAny_execs_cons ?_); (try dsimp only); k_fold)) | walk1) | (dsimp only; (first | ((with_reducible show wpAny _ _ (execs (_ :: _) _) _ _ _); (k_here; (with_reducible refine gen_toks ?_); intro zztk)) | ((with_reducible show wpAny _ _ (execs [] _) _ _ _); (k_here; (with_reducible refine gen_toks ?_); intro zztk)) | ((with_reducible show wpAny _ _ (execs (_ :: _) _) _ _ _); (k_here; (with_reducible refine wpAny_execs_cons ?_); (try dsimp only); k_fold)) | walk1))) | fail "no step"))
  ((k_dflt (refine LCg.ListComp_U (F₀ := by k_asm) (by with_unfolding_all rfl) (by decide) (by rfl) (by decide) (by rfl) ?_)))
  (repeat' (first | (k_unfold; (try dsimp only)) | ((( (fail_if_success (with_reducible show wpAny _ _ (pyIter _) _ _ _)); (fail_if_success (with_reducible show wpAny _ _ (exec (Stmt.While _ _ _ _) _) _ _ _)))); (( (fail_if_success (with_reducible show wpAny _ _ (eval (Expr.ListComp _ _ _ _) _) _ _ _)); (fail_if_success (with_reducible show wpAny _ _ (exec (Stmt.Assign _ (Expr.ListComp _ _ _ _) _) _) _ _ _)); (fail_if_success (with_reducible show LCg.CompSrc _ _ _ _ _ _ _ _ _ _ _ _ _ _)))); (fail_if_success (with_reducible show wpAny _ _ (call (Prod.fst _) _) _ _ _)); (fail_if_success (with_reducible show wpAny _ _ (call (Value.ref _) _) _ _ _)); (fail_if_success (with_reducible show wpAny _ _ (subscriptTail _ _ _ _) _ _ _)); (fail_if_success (with_reducible show wpAny _ _ (execs (Stmt.If _ _ _ _ :: _) _) _ _ _)); first | (first | ((with_reducible show wpAny _ _ (execs (_ :: _) _) _ _ _); (k_here; (with_reducible refine gen_toks ?_); intro zztk)) | ((with_reducible show wpAny _ _ (execs [] _) _ _ _); (k_here; (with_reducible refine gen_toks ?_); intro zztk)) | ((with_reducible show wpAny _ _ (execs (_ :: _) _) _ _ _); (k_here; (with_reducible refine wpAny_execs_cons ?_); (try dsimp only); k_fold)) | walk1) | (dsimp only; (first | ((with_reducible show wpAny _ _ (execs (_ :: _) _) _ _ _); (k_here; (with_reducible refine gen_toks ?_); intro zztk)) | ((with_reducible show wpAny _ _ (execs [] _) _ _ _); (k_here; (with_reducible refine gen_toks ?_); intro zztk)) | ((with_reducible show wpAny _ _ (execs (_ :: _) _) _ _ _); (k_here; (with_reducible refine wpAny_execs_cons ?_); (try dsimp only); k_fold)) | walk1))) | fail "no step"))
  (rename Fr _ _ _ _ => F3); (rename News _ _ _ _ => N3)
  refine LCg.CompSrc.ledger rfl F3 N3 (ax := wl) (.tail _ gW) (by rw [sizeLine_eq, List.size_toArray]; omega) ?_
  intro g'
  refine rest_of (DatJ ((L + 1, oS) :: bs) (fun a o => (a, o) ∈ sl) ws) ⟨.nil, rfl⟩ ?_ ?_
  · rintro i ys nx v1 I oI C oC' D m₂ h tk E' hin ⟨hb, rfl⟩ hv hC hx F N off ne
    obtain ⟨y, k, rfl, hy⟩ := strs_get hws i v1 (by rw [List.getElem?_toArray] at hv; exact hv)
    have htk : ws.take (i + 1) = ws.take i ++ [y] := by rw [List.take_add_one, hy]; rfl
    have hy8 := h8 y (List.mem_of_getElem? hy)
    clear F3 N3
    by_cases h7 : y = Str.ofString "7"
    · subst h7
      (repeat' (first | (k_unfold; (try dsimp only)) | ((( (fail_if_success (with_reducible show wpAny _ _ (pyIter _) _ _ _)); (fail_if_success (with_reducible show wpAny _ _ (exec (Stmt.While _ _ _ _) _) _ _ _)))); (( (fail_if_success (with_reducible show wpAny _ _ (eval (Expr.ListComp _ _ _ _) _) _ _ _)); (fail_if_success (with_reducible show wpAny _ _ (exec (Stmt.Assign _ (Expr.ListComp _ _ _ _) _) _) _ _ _)); (fail_if_success (with_reducible show LCg.CompSrc _ _ _ _ _ _ _ _ _ _ _ _ _ _)))); (fail_if_success (with_reducible show wpAny _ _ (call (Prod.fst _) _) _ _ _)); (fail_if_success (with_reducible show wpAny _ _ (call (Value.ref _) _) _ _ _)); (fail_if_success (with_reducible show wpAny _ _ (subscriptTail _ _ _ _) _ _ _)); (fail_if_success (with_reducible show wpAny _ _ (execs (Stmt.If _ _ _ _ :: _) _) _ _ _)); first | (first | ((with_reducible show wpAny _ _ (execs (_ :: _) _) _ _ _); (k_here; (with_reducible refine gen_toks ?_); intro zztk)) | ((with_reducible show wpAny _ _ (execs [] _) _ _ _); (k_here; (with_reducible refine gen_toks ?_); intro zztk)) | ((with_reducible show wpAny _ _ (execs (_ :: _) _) _ _ _); (k_here; (with_reducible refine wpAny_execs_cons ?_); (try dsimp only); k_fold)) | walk1) | (dsimp only; (first | ((with_reducible show wpAny _ _ (execs (_ :: _) _) _ _ _); (k_here; (with_reducible refine gen_toks ?_); intro zztk)) | ((with_reducible show wpAny _ _ (execs [] _) _ _ _); (k_here; (with_reducible refine gen_toks ?_); intro zztk)) | ((with_reducible show wpAny _ _ (execs (_ :: _) _) _ _ _); (k_here; (with_reducible refine wpAny_execs_cons ?_); (try dsimp only); k_fold)) | walk1))) | fail "no step"))
      (rename Fr _ _ _ _ => F6); (rename News _ _ _ _ => N6)
      exact LCg.CompEnd.intro F6 N6 _ (fun p hp => hp) off (.inr ⟨_, .tail _ gW, rfl, _, rfl⟩) ⟨by rw [htk]; exact hb.snoc .seven, rfl⟩
    · have hy7 : y ∈ W7 := by
        simp only [W8, W7, List.mem_cons, List.not_mem_nil, or_false] at hy8 ⊢
        rcases hy8 with h | h | h | h | h | h | h | h <;> first | exact absurd h h7 | simp [h]
      obtain ⟨v, hv1, hv2⟩ := hsym y hy7
      (repeat' (first | (k_unfold; (try dsimp only)) | ((( (fail_if_success (with_reducible show wpAny _ _ (pyIter _) _ _ _)); (fail_if_success (with_reducible show wpAny _ _ (exec (Stmt.While _ _ _ _) _) _ _ _)))); (( (fail_if_success (with_reducible show wpAny _ _ (eval (Expr.ListComp _ _ _ _) _) _ _ _)); (fail_if_success (with_reducible show wpAny _ _ (exec (Stmt.Assign _ (Expr.ListComp _ _ _ _) _) _) _ _ _)); (fail_if_success (with_reducible show LCg.CompSrc _ _ _ _ _ _ _ _ _ _ _ _ _ _)))); (fail_if_success (with_reducible show wpAny _ _ (call (Prod.fst _) _) _ _ _)); (fail_if_success (with_reducible show wpAny _ _ (call (Value.ref _) _) _ _ _)); (fail_if_success (with_reducible show wpAny _ _ (subscriptTail _ _ _ _) _ _ _)); (fail_if_success (with_reducible show wpAny _ _ (execs (Stmt.If _ _ _ _ :: _) _) _ _ _)); first | (first | ((with_reducible show wpAny _ _ (execs (_ :: _) _) _ _ _); (k_here; (with_reducible refine gen_toks ?_); intro zztk)) | ((with_reducible show wpAny _ _ (execs [] _) _ _ _); (k_here; (with_reducible refine gen_toks ?_); intro zztk)) | ((with_reducible show wpAny _ _ (execs (_ :: _) _) _ _ _); (k_here; (with_reducible refine wpAny_execs_cons ?_); (try dsimp only); k_fold)) | walk1) | (dsimp only; (first | ((with_reducible show wpAny _ _ (execs (_ :: _) _) _ _ _); (k_here; (with_reducible refine gen_toks ?_); intro zztk)) | ((with_reducible show wpAny _ _ (execs [] _) _ _ _); (k_here; (with_reducible refine gen_toks ?_); intro zztk)) | ((with_reducible show wpAny _ _ (execs (_ :: _) _) _ _ _); (k_here; (with_reducible refine wpAny_execs_cons ?_); (try dsimp only); k_fold)) | walk1))) | fail "no step"))
      · exfalso; (rename _ = true => ha); exact h7 (by simpa using ha)
      · (rename Fr _ _ _ _ => F6); (rename News _ _ _ _ => N6)
        refine kda_item (knd := PySem.strKind prog w) N6 (.tail _ (.tail _ (.tail _ (.tail _ gD)))) hD (strKind_is _ _ _ _) hv1 ?_
        exact LCg.CompEnd.intro F6 N6 _ (fun p hp => hp) off (.inr ⟨_, .tail _ gW, rfl, _, rfl⟩) ⟨by rw [htk]; exact hb.snoc hv2, rfl⟩
  rintro zs nx ⟨hzs, rfl⟩ D h tk F N off
  rw [List.size_toArray, StrsAre.length hws, List.take_length] at hzs
  clear F3 N3
  (repeat' (first | (k_unfold; (try dsimp only)) | ((( (fail_if_success (with_reducible show wpAny _ _ (pyIter _) _ _ _)); (fail_if_success (with_reducible show wpAny _ _ (exec (Stmt.While _ _ _ _) _) _ _ _)))); (( (fail_if_success (with_reducible show wpAny _ _ (eval (Expr.ListComp _ _ _ _) _) _ _ _)); (fail_if_success (with_reducible show wpAny _ _ (exec (Stmt.Assign _ (Expr.ListComp _ _ _ _) _) _) _ _ _)); (fail_if_success (with_reducible show LCg.CompSrc _ _ _ _ _ _ _ _ _ _ _ _ _ _)))); (fail_if_success (with_reducible show wpAny _ _ (call (Prod.fst _) _) _ _ _)); (fail_if_success (with_reducible show wpAny _ _ (call (Value.ref _) _) _ _ _)); (fail_if_success (with_reducible show wpAny _ _ (subscriptTail _ _ _ _) _ _ _)); (fail_if_success (with_reducible show wpAny _ _ (execs (Stmt.If _ _ _ _ :: _) _) _ _ _)); first | (first | ((with_reducible show wpAny _ _ (execs (_ :: _) _) _ _ _); (k_here; (with_reducible refine gen_toks ?_); intro zztk)) | ((with_reducible show wpAny _ _ (execs [] _) _ _ _); (k_here; (with_reducible refine gen_toks ?_); intro zztk)) | ((with_reducible show wpAny _ _ (execs (_ :: _) _) _ _ _); (k_here; (with_reducible refine wpAny_execs_cons ?_); (try dsimp only); k_fold)) | walk1) | (dsimp only; (first | ((with_reducible show wpAny _ _ (execs (_ :: _) _) _ _ _); (k_here; (with_reducible refine gen_toks ?_); intro zztk)) | ((with_reducible show wpAny _ _ (execs [] _) _ _ _); (k_here; (with_reducible refine gen_toks ?_); intro zztk)) | ((with_reducible show wpAny _ _ (execs (_ :: _) _) _ _ _); (k_here; (with_reducible refine wpAny_execs_cons ?_); (try dsimp only); k_fold)) | walk1))) | fail "no step"))
  (rename Fr _ _ _ _ => F6); (rename News _ _ _ _ => N6)
  have zl := hzs.length
  have wl9 := StrsAre.length hws
  k_dflt (refine list_of_call B F6 N6 ?ld ⟨_, (N6 _ (.head _)).1, rfl, _, rfl⟩ (by omega) ?_)
  case ld => k_room
  intro r nx h7 tk7 F7 N7 R7 fr7
  have hfr : ∀ p ∈ nx, ∀ q ∈ bs, p.1 ≠ q.1 := fun p hp q hq e => by
    have h1 := fr7 p hp; have h2 := (N6 q (.tail _ (.tail _ hq))).1; rw [e, h2] at h1; cases h1
  have N8 : News h₀ L h7 (nx ++ bs) := news_sub N7 fun p hp => (List.mem_append.mp hp).elim (fun h => List.mem_append_left _ h) fun h => List.mem_append_right _ (.tail _ (.tail _ h))
  have hrh : handedIn r = true := R7.handed (.inl rfl)
  clear F6 N6 N7
  (repeat' (first | (k_unfold; (try dsimp only)) | ((( (fail_if_success (with_reducible show wpAny _ _ (pyIter _) _ _ _)); (fail_if_success (with_reducible show wpAny _ _ (exec (Stmt.While _ _ _ _) _) _ _ _)))); (( (fail_if_success (with_reducible show wpAny _ _ (eval (Expr.ListComp _ _ _ _) _) _ _ _)); (fail_if_success (with_reducible show wpAny _ _ (exec (Stmt.Assign _ (Expr.ListComp _ _ _ _) _) _) _ _ _)); (fail_if_success (with_reducible show LCg.CompSrc _ _ _ _ _ _ _ _ _ _ _ _ _ _)))); (fail_if_success (with_reducible show wpAny _ _ (call (Prod.fst _) _) _ _ _)); (fail_if_success (with_reducible show wpAny _ _ (call (Value.ref _) _) _ _ _)); (fail_if_success (with_reducible show wpAny _ _ (subscriptTail _ _ _ _) _ _ _)); (fail_if_success (with_reducible show wpAny _ _ (execs (Stmt.If _ _ _ _ :: _) _) _ _ _)); first | (first | ((with_reducible show wpAny _ _ (execs (_ :: _) _) _ _ _); (k_here; (with_reducible refine gen_toks ?_); intro zztk)) | ((with_reducible show wpAny _ _ (execs [] _) _ _ _); (k_here; (with_reducible refine gen_toks ?_); intro zztk)) | ((with_reducible show wpAny _ _ (execs (_ :: _) _) _ _ _); (k_here; (with_reducible refine wpAny_execs_cons ?_); (try dsimp only); k_fold)) | walk1) | (dsimp only; (first | ((with_reducible show wpAny _ _ (execs (_ :: _) _) _ _ _); (k_here; (with_reducible refine gen_toks ?_); intro zztk)) | ((with_reducible show wpAny _ _ (execs [] _) _ _ _); (k_here; (with_reducible refine gen_toks ?_); intro zztk)) | ((with_reducible show wpAny _ _ (execs (_ :: _) _) _ _ _); (k_here; (with_reducible refine wpAny_execs_cons ?_); (try dsimp only); k_fold)) | walk1))) | fail "no step"))
  (rename Fr _ _ _ _ => F9); (rename News _ _ _ _ => N9)
  exact hnext zs nx r _ _ _ F9 N9 R7 hzs hfr rfl rfl rfl

theorem zz_reset_NpSpec : True := by
  w_top off
  exact trivial
open PySem PySem.W PyProof.Rows PySem.Calls
theorem seed_frag_spec : hd.heap_39 = hd.heap_39 ∧ PySem.Challenge.rw_np0012_01 = PySem.Challenge.rw_np0012_01 := by
  k_fill
  exact ⟨rfl, rfl⟩

theorem draw_callT {w : World} {prog : Program} {dp un : Nat} {fr : Option (List Env)} {gd : Option (List Code)} {s : Shared} {Q : Value → Shared → Prop} {E : Value → Shared → Prop} {h₀ : Heap} {L : Addr} {m : Str → Option Value} {tl : List (Addr × Obj)} {dk ca sa : Addr} {n0 n n2 : Nat} {vs : List Value} {ns : List Int} {i k : Int} {t tk : Nat}
    (B : Base w h₀) (F : Fr h₀ L s.heap m) (N : News h₀ L s.heap ((ca, listOf vs.toArray n) :: (sa, listOf [Value.int i t].toArray n2) :: (dk, listOf [Value.ref ca, Value.ref sa].toArray n0) :: tl)) (hd : dp ≤ 800) (hu : un ≤ 5000)
    (hi : IntsAre vs ns) (hns : ∀ x ∈ ns, 0 ≤ x ∧ x < 10 ^ 24) (hi0 : 0 ≤ i ∧ i < 1100000) (hz : vs.length ≤ 10) (off : ∀ p ∈ tl, p.1 ≠ ca ∧ p.1 ≠ sa)
    (hcs : @Ne Nat ca sa) (hdc : @Ne Nat dk ca) (hds : @Ne Nat dk sa) (hk : 0 < k ∧ k ≤ 10)
    (hQ : ∀ r t' vs' ns' n' i' ti n2' h' tk, 0 ≤ r → r < k → IntsAre vs' ns' → (∀ x ∈ ns', 0 ≤ x ∧ x < 10 ^ 24) → 0 ≤ i' ∧ i' < 1100000 → vs'.length ≤ 10 → Fr h₀ L h' m → News h₀ L h' ((ca, listOf (List.toArray vs') n') :: (sa, listOf [Value.int i' ti].toArray n2') :: (dk, listOf [Value.ref ca, Value.ref sa].toArray n0) :: tl) → Q (.int r t') { s with heap := h', toks := tk }) :
    wpAny (model prog w) (Ar dp fr gd un) (call (.ref 167) [.ref dk, .int k tk]) Q E s := by
  have N3 : News h₀ L s.heap [(ca, listOf vs.toArray n), (sa, listOf [Value.int i t].toArray n2), (dk, listOf [Value.ref ca, Value.ref sa].toArray n0)] := news_sub N (by
    intro p hp
    simp only [List.mem_cons, List.not_mem_nil, or_false] at hp
    rcases hp with rfl | rfl | rfl <;> simp)
  refine draw_spec B F N3 hd hu hcs hdc hds hi hns hi0 hz hk fun r t' vs' ns' n' i' ti n2' h' tk a1 a2 a3 a4 a5 a6 F' kp N' => hQ r t' vs' ns' n' i' ti n2' h' tk a1 a2 a3 a4 a5 a6 F' ?_
  refine List.forall_mem_cons.mpr ⟨N' _ (.head _), List.forall_mem_cons.mpr ⟨N' _ (.tail _ (.head _)), List.forall_mem_cons.mpr ⟨N' _ (.tail _ (.tail _ (.head _))), fun p hp => ?_⟩⟩⟩
  have z := N p (.tail _ (.tail _ (.tail _ hp)))
  exact ⟨kp _ _ z.1 (off p hp).1 (off p hp).2, z.2⟩

theorem reorder4 {h₀ h : Heap} {L : Addr} {q1 q2 q3 q4 a1 a2 a3 : Addr × Obj} {tl : List (Addr × Obj)} (N : News h₀ L h (q1 :: q2 :: q3 :: q4 :: a1 :: a2 :: a3 :: tl)) : News h₀ L h (a1 :: a2 :: a3 :: q1 :: q2 :: q3 :: q4 :: tl) := news_sub N fun p hp => by
  simp only [List.mem_cons] at hp ⊢
  rcases hp with h | h | h | h | h | h | h | h <;> simp [h]

set_option maxHeartbeats 4000000 in
theorem law_special {w : World} {prog : Program} {dp un : Nat} {gd : Option (List Code)} {s : Shared} {Q : Flow → Shared → Prop} {E : Value → Shared → Prop} {h₀ : Heap} {L : Addr} {m : Str → Option Value} {oS oD : Obj} {wl sd ca sa dk : Addr} {us vs zs : List Value} {ns : List Int} {ws : List Str} {c n n2 n0 t : Nat} {i : Int} {tl sl : List (Addr × Obj)} {dv : Value}
    {name qual : Str} {params : Arguments} {body : List Stmt} {scope : Scope} {dV kV doc pm cdv ct oc : Value} {an od : Option Addr} {osl : Array (Option Value)}
    (hlaw : (hd.heap_39 w.params).lookup 184 = some ⟨oc, od, .func (fnOf name qual params body scope dV kV doc pm an cdv ct), osl⟩)
    (B : Base w h₀) (hd : dp ≤ 500) (hu : un ≤ 500) (F : Fr h₀ L s.heap m) (N : News h₀ L s.heap ((ca, listOf vs.toArray n) :: (sa, listOf [Value.int i t].toArray n2) :: (dk, listOf [Value.ref ca, Value.ref sa].toArray n0) :: (L + 1, oS) :: tl))
    (hi : IntsAre vs ns) (hns : ∀ x ∈ ns, 0 ≤ x ∧ x < 10 ^ 24) (hi0 : 0 ≤ i ∧ i < 1100000) (hz : vs.length ≤ 10) (off : ∀ p ∈ (L + 1, oS) :: tl, p.1 ≠ ca ∧ p.1 ≠ sa) (hcs : @Ne Nat ca sa) (hdc : @Ne Nat dk ca) (hds : @Ne Nat dk sa)
    (gD : (sd, oD) ∈ tl) (eS : oS.data = .cell (some (.ref sd))) (hS : Syms prog w sl oD) (hsl : ∀ p ∈ sl, p ∈ tl) (gW : (wl, listOf us.toArray c) ∈ tl)
    (hws : StrsAre us ws) (h8 : ∀ x ∈ ws, x ∈ W8) (hz2 : us.length ≤ 20) (hl : LstAt (fun a o => (a, o) ∈ tl) (.ref 57) dv zs) (hit : ItemsAre (fun a o => (a, o) ∈ tl) zs ws)
    (e1 : m (Str.ofString "deck") = some (.ref dk)) (e2 : m (Str.ofString "words_own") = some (.ref wl)) (e3 : m (Str.ofString "datum") = some dv)
    (hnext : ∀ wl' us' ws' wz c' dv' zs' tail tl' h' tk m', Fr h₀ L h' m' → News h₀ L h' tl' → (∀ p ∈ tl, p ∈ tl') → (wl', listOf (List.toArray us') c') ∈ tl' → StrsAre us' ws' → (∀ x ∈ ws', x ∈ W8) → us'.length ≤ 20 → LstAt (fun a o => (a, o) ∈ tl') tail dv' zs' → ItemsAre (fun a o => (a, o) ∈ tl') zs' wz →
      ((tail = .ref 57 ∧ wz = ws') ∨ ((∃ t, tail = .int 7 t) ∧ ws' = [Str.ofString "7"] ∧ zs'.length ≤ 1)) → m' (Str.ofString "words_own") = some (.ref wl') → m' (Str.ofString "datum") = some dv' →
      wpAny (model prog w) (Around.deeper (Ar dp (some []) gd un) (envOfC qual scope L 184 cdv)) (execs (body.drop 6) (envOfC qual scope L 184 cdv)) Q E { s with heap := h', toks := tk }) :
    wpAny (model prog w) (Around.deeper (Ar dp (some []) gd un) (envOfC qual scope L 184 cdv)) (execs (body.drop 5) (envOfC qual scope L 184 cdv)) Q E s := by
  k_dflt (refine' same_elim hlaw ?h' ?_; (case h' => k_is))
  intro q1 q2 q3 q4
  subst q1 q2 q3 q4
  have X := B.X
  have F₂ := fr_know (fr_know (fr_know F (a := Str.ofString "datum") (x := dv) e3) (a := Str.ofString "words_own") (x := .ref wl) e2) (a := Str.ofString "deck") (x := .ref dk) e1
  obtain ⟨p, loose, mean, mg, mb, T⟩ := B.T
  clear F
  obtain ⟨kvs, hD, hsym⟩ := hS
  have hdvh : handedIn dv = true := hl.handed (.inl rfl)
  dsimp only [List.drop]
  (repeat' (first | (k_unfold; (try dsimp only)) | ((( (fail_if_success (with_reducible show wpAny _ _ (pyIter _) _ _ _)); (fail_if_success (with_reducible show wpAny _ _ (exec (Stmt.While _ _ _ _) _) _ _ _)))); (( (fail_if_success (with_reducible show wpAny _ _ (eval (Expr.ListComp _ _ _ _) _) _ _ _)); (fail_if_success (with_reducible show wpAny _ _ (exec (Stmt.Assign _ (Expr.ListComp _ _ _ _) _) _) _ _ _)); (fail_if_success (with_reducible show LCg.CompSrc _ _ _ _ _ _ _ _ _ _ _ _ _ _)))); (fail_if_success (with_reducible show wpAny _ _ (call (Prod.fst _) _) _ _ _)); (fail_if_success (with_reducible show wpAny _ _ (call (Value.ref _) _) _ _ _)); (fail_if_success (with_reducible show wpAny _ _ (subscriptTail _ _ _ (Value.str _ _)) _ _ _)); (fail_if_success (with_reducible show wpAny _ _ (execs (Stmt.Assign [Expr.Name (Str.ofString "due") _] _ _ :: _) _) _ _ _)); first | (first | ((with_reducible show wpAny _ _ (execs [] _) _ _ _); (k_here; (with_reducible refine gen_toks ?_); intro zztk)) | ((with_reducible show wpAny _ _ (execs (_ :: _) _) _ _ _); (k_here; (with_reducible refine gen_toks ?_); intro zztk)) | ((with_reducible show wpAny _ _ (execs (_ :: _) _) _ _ _); (k_here; (with_reducible refine wpAny_execs_cons ?_); (try dsimp only); k_fold)) | walk1) | (dsimp only; (first | ((with_reducible show wpAny _ _ (execs [] _) _ _ _); (k_here; (with_reducible refine gen_toks ?_); intro zztk)) | ((with_reducible show wpAny _ _ (execs (_ :: _) _) _ _ _); (k_here; (with_reducible refine gen_toks ?_); intro zztk)) | ((with_reducible show wpAny _ _ (execs (_ :: _) _) _ _ _); (k_here; (with_reducible refine wpAny_execs_cons ?_); (try dsimp only); k_fold)) | walk1))) | fail "no step"))
  (rename Fr _ _ _ _ => F3); (rename News _ _ _ _ => N3)
  k_dflt (refine draw_callT B F3 N3 ?d1 ?d2 hi hns hi0 hz off hcs hdc hds (by decide) ?_)
  case d1 => k_room
  case d2 => ((have hcL := cLine_is; (try simp only [units_under_make, units_in1, units_deeper, Around.mark_units, units_caller]); (try dsimp only [Ar]); omega))
  intro r t' vs' ns' n' i' ti n2' h' tk' r0 r1 hi' hns' hi0' hz' F4 N4
  clear F3 N3
  by_cases hr : r = 0
  · subst hr
    obtain ⟨va, hva1, hva2⟩ := hsym (Str.ofString "a") (by decide +kernel)
    (repeat' (first | (k_unfold; (try dsimp only)) | ((( (fail_if_success (with_reducible show wpAny _ _ (pyIter _) _ _ _)); (fail_if_success (with_reducible show wpAny _ _ (exec (Stmt.While _ _ _ _) _) _ _ _)))); (( (fail_if_success (with_reducible show wpAny _ _ (eval (Expr.ListComp _ _ _ _) _) _ _ _)); (fail_if_success (with_reducible show wpAny _ _ (exec (Stmt.Assign _ (Expr.ListComp _ _ _ _) _) _) _ _ _)); (fail_if_success (with_reducible show LCg.CompSrc _ _ _ _ _ _ _ _ _ _ _ _ _ _)))); (fail_if_success (with_reducible show wpAny _ _ (call (Prod.fst _) _) _ _ _)); (fail_if_success (with_reducible show wpAny _ _ (call (Value.ref _) _) _ _ _)); (fail_if_success (with_reducible show wpAny _ _ (subscriptTail _ _ _ (Value.str _ _)) _ _ _)); (fail_if_success (with_reducible show wpAny _ _ (execs (Stmt.Assign [Expr.Name (Str.ofString "due") _] _ _ :: _) _) _ _ _)); first | (first | ((with_reducible show wpAny _ _ (execs [] _) _ _ _); (k_here; (with_reducible refine gen_toks ?_); intro zztk)) | ((with_reducible show wpAny _ _ (execs (_ :: _) _) _ _ _); (k_here; (with_reducible refine gen_toks ?_); intro zztk)) | ((with_reducible show wpAny _ _ (execs (_ :: _) _) _ _ _); (k_here; (with_reducible refine wpAny_execs_cons ?_); (try dsimp only); k_fold)) | walk1) | (dsimp only; (first | ((with_reducible show wpAny _ _ (execs [] _) _ _ _); (k_here; (with_reducible refine gen_toks ?_); intro zztk)) | ((with_reducible show wpAny _ _ (execs (_ :: _) _) _ _ _); (k_here; (with_reducible refine gen_toks ?_); intro zztk)) | ((with_reducible show wpAny _ _ (execs (_ :: _) _) _ _ _); (k_here; (with_reducible refine wpAny_execs_cons ?_); (try dsimp only); k_fold)) | walk1))) | fail "no step"))
    (rename Fr _ _ _ _ => F6); (rename News _ _ _ _ => N6)
    refine kda_item (knd := PySem.strKind prog w) N6 (.tail _ (.tail _ (.tail _ (.tail _ (.tail _ gD))))) hD (strKind_is _ _ _ _) hva1 ?_
    have hvah : handedIn va = true := by cases hva2 <;> rfl
    (repeat' (first | (k_unfold; (try dsimp only)) | ((( (fail_if_success (with_reducible show wpAny _ _ (pyIter _) _ _ _)); (fail_if_success (with_reducible show wpAny _ _ (exec (Stmt.While _ _ _ _) _) _ _ _)))); (( (fail_if_success (with_reducible show wpAny _ _ (eval (Expr.ListComp _ _ _ _) _) _ _ _)); (fail_if_success (with_reducible show wpAny _ _ (exec (Stmt.Assign _ (Expr.ListComp _ _ _ _) _) _) _ _ _)); (fail_if_success (with_reducible show LCg.CompSrc _ _ _ _ _ _ _ _ _ _ _ _ _ _)))); (fail_if_success (with_reducible show wpAny _ _ (call (Prod.fst _) _) _ _ _)); (fail_if_success (with_reducible show wpAny _ _ (call (Value.ref _) _) _ _ _)); (fail_if_success (with_reducible show wpAny _ _ (subscriptTail _ _ _ (Value.str _ _)) _ _ _)); (fail_if_success (with_reducible show wpAny _ _ (execs (Stmt.Assign [Expr.Name (Str.ofString "due") _] _ _ :: _) _) _ _ _)); first | (first | ((with_reducible show wpAny _ _ (execs [] _) _ _ _); (k_here; (with_reducible refine gen_toks ?_); intro zztk)) | ((with_reducible show wpAny _ _ (execs (_ :: _) _) _ _ _); (k_here; (with_reducible refine gen_toks ?_); intro zztk)) | ((with_reducible show wpAny _ _ (execs (_ :: _) _) _ _ _); (k_here; (with_reducible refine wpAny_execs_cons ?_); (try dsimp only); k_fold)) | walk1) | (dsimp only; (first | ((with_reducible show wpAny _ _ (execs [] _) _ _ _); (k_here; (with_reducible refine gen_toks ?_); intro zztk)) | ((with_reducible show wpAny _ _ (execs (_ :: _) _) _ _ _); (k_here; (with_reducible refine gen_toks ?_); intro zztk)) | ((with_reducible show wpAny _ _ (execs (_ :: _) _) _ _ _); (k_here; (with_reducible refine wpAny_execs_cons ?_); (try dsimp only); k_fold)) | walk1))) | fail "no step"))
    k_dflt (refine mk_cons B F6 N6 ?d3 ?_)
    case d3 => k_room
    intro xc dxc h7 tk7 k1 t1 k2 t2 F7 N7 l7 l8
    have l9 := ltN l8
    clear l8 F6 N6
    (try k_lt l7)
    (repeat' (first | (k_unfold; (try dsimp only)) | ((( (fail_if_success (with_reducible show wpAny _ _ (pyIter _) _ _ _)); (fail_if_success (with_reducible show wpAny _ _ (exec (Stmt.While _ _ _ _) _) _ _ _)))); (( (fail_if_success (with_reducible show wpAny _ _ (eval (Expr.ListComp _ _ _ _) _) _ _ _)); (fail_if_success (with_reducible show wpAny _ _ (exec (Stmt.Assign _ (Expr.ListComp _ _ _ _) _) _) _ _ _)); (fail_if_success (with_reducible show LCg.CompSrc _ _ _ _ _ _ _ _ _ _ _ _ _ _)))); (fail_if_success (with_reducible show wpAny _ _ (call (Prod.fst _) _) _ _ _)); (fail_if_success (with_reducible show wpAny _ _ (call (Value.ref _) _) _ _ _)); (fail_if_success (with_reducible show wpAny _ _ (subscriptTail _ _ _ (Value.str _ _)) _ _ _)); (fail_if_success (with_reducible show wpAny _ _ (execs (Stmt.Assign [Expr.Name (Str.ofString "due") _] _ _ :: _) _) _ _ _)); first | (first | ((with_reducible show wpAny _ _ (execs [] _) _ _ _); (k_here; (with_reducible refine gen_toks ?_); intro zztk)) | ((with_reducible show wpAny _ _ (execs (_ :: _) _) _ _ _); (k_here; (with_reducible refine gen_toks ?_); intro zztk)) | ((with_reducible show wpAny _ _ (execs (_ :: _) _) _ _ _); (k_here; (with_reducible refine wpAny_execs_cons ?_); (try dsimp only); k_fold)) | walk1) | (dsimp only; (first | ((with_reducible show wpAny _ _ (execs [] _) _ _ _); (k_here; (with_reducible refine gen_toks ?_); intro zztk)) | ((with_reducible show wpAny _ _ (execs (_ :: _) _) _ _ _); (k_here; (with_reducible refine gen_toks ?_); intro zztk)) | ((with_reducible show wpAny _ _ (execs (_ :: _) _) _ _ _); (k_here; (with_reducible refine wpAny_execs_cons ?_); (try dsimp only); k_fold)) | walk1))) | fail "no step"))
    (rename Fr _ _ _ _ => F9); (rename News _ _ _ _ => N9)
    k_dflt (refine draw_callT B F9 (reorder4 N9) ?d4 ?d5 hi' hns' hi0' hz' ?off2 hcs hdc hds (by decide) ?_)
    case d4 => k_room
    case d5 => ((have hcL := cLine_is; (try simp only [units_under_make, units_in1, units_deeper, Around.mark_units, units_caller]); (try dsimp only [Ar]); omega))
    case off2 => exact List.forall_mem_cons.mpr ⟨⟨fun q => by have q' : @Eq Nat _ _ := q; omega, fun q => by have q' : @Eq Nat _ _ := q; omega⟩, List.forall_mem_cons.mpr ⟨⟨fun q => by have q' : @Eq Nat _ _ := q; omega, fun q => by have q' : @Eq Nat _ _ := q; omega⟩, List.forall_mem_cons.mpr ⟨⟨fun q => by have q' : @Eq Nat _ _ := q; omega, fun q => by have q' : @Eq Nat _ _ := q; omega⟩, List.forall_mem_cons.mpr ⟨⟨fun q => by have q' : @Eq Nat _ _ := q; omega, fun q => by have q' : @Eq Nat _ _ := q; omega⟩, off⟩⟩⟩⟩
    intro r2 t2' vs2 ns2 n2' i2 ti2 n22 h9 tk9 s0 s1 hi2 hns2 hi02 hz2' F10 N10
    clear F9 N9
    by_cases hr2 : r2 = 0
    · subst hr2
      (repeat' (first | (k_unfold; (try dsimp only)) | ((( (fail_if_success (with_reducible show wpAny _ _ (pyIter _) _ _ _)); (fail_if_success (with_reducible show wpAny _ _ (exec (Stmt.While _ _ _ _) _) _ _ _)))); (( (fail_if_success (with_reducible show wpAny _ _ (eval (Expr.ListComp _ _ _ _) _) _ _ _)); (fail_if_success (with_reducible show wpAny _ _ (exec (Stmt.Assign _ (Expr.ListComp _ _ _ _) _) _) _ _ _)); (fail_if_success (with_reducible show LCg.CompSrc _ _ _ _ _ _ _ _ _ _ _ _ _ _)))); (fail_if_success (with_reducible show wpAny _ _ (call (Prod.fst _) _) _ _ _)); (fail_if_success (with_reducible show wpAny _ _ (call (Value.ref _) _) _ _ _)); (fail_if_success (with_reducible show wpAny _ _ (subscriptTail _ _ _ (Value.str _ _)) _ _ _)); (fail_if_success (with_reducible show wpAny _ _ (execs (Stmt.Assign [Expr.Name (Str.ofString "due") _] _ _ :: _) _) _ _ _)); first | (first | ((with_reducible show wpAny _ _ (execs [] _) _ _ _); (k_here; (with_reducible refine gen_toks ?_); intro zztk)) | ((with_reducible show wpAny _ _ (execs (_ :: _) _) _ _ _); (k_here; (with_reducible refine gen_toks ?_); intro zztk)) | ((with_reducible show wpAny _ _ (execs (_ :: _) _) _ _ _); (k_here; (with_reducible refine wpAny_execs_cons ?_); (try dsimp only); k_fold)) | walk1) | (dsimp only; (first | ((with_reducible show wpAny _ _ (execs [] _) _ _ _); (k_here; (with_reducible refine gen_toks ?_); intro zztk)) | ((with_reducible show wpAny _ _ (execs (_ :: _) _) _ _ _); (k_here; (with_reducible refine gen_toks ?_); intro zztk)) | ((with_reducible show wpAny _ _ (execs (_ :: _) _) _ _ _); (k_here; (with_reducible refine wpAny_execs_cons ?_); (try dsimp only); k_fold)) | walk1))) | fail "no step"))
      try dsimp only
      (rename Fr _ _ _ _ => F8); (rename News _ _ _ _ => N8)
      exact hnext _ [.str (Str.ofString "7") _] [Str.ofString "7"] [Str.ofString "a"] _ _ [va] (.int 7 _) _ _ _ _ F8 N8 (fun p hp => (.tail _ (.tail _ (.tail _ (.tail _ (.tail _ (.tail _ (.tail _ (.tail _ (.tail _ hp)))))))))) (.tail _ (.tail _ (.tail _ (.tail _ (.tail _ (.tail _ (.tail _ (.head _)))))))) (.cons _ _ .nil) (List.forall_mem_cons.mpr ⟨by decide +kernel, fun _ h => nomatch h⟩) (by simp) (.cons (.tail _ (.tail _ (.tail _ (.tail _ (.tail _ (.head _)))))) (.tail _ (.tail _ (.tail _ (.tail _ (.tail _ (.tail _ (.head _))))))) .nil) (.cons (hva2.mono fun a o q => (.tail _ (.tail _ (.tail _ (.tail _ (.tail _ (.tail _ (.tail _ (.tail _ (.tail _ (hsl _ q))))))))))) .nil) (.inr ⟨⟨_, rfl⟩, rfl, by simp⟩) rfl rfl
    · obtain rfl : r2 = 1 := by omega
      (repeat' (first | (k_unfold; (try dsimp only)) | ((( (fail_if_success (with_reducible show wpAny _ _ (pyIter _) _ _ _)); (fail_if_success (with_reducible show wpAny _ _ (exec (Stmt.While _ _ _ _) _) _ _ _)))); (( (fail_if_success (with_reducible show wpAny _ _ (eval (Expr.ListComp _ _ _ _) _) _ _ _)); (fail_if_success (with_reducible show wpAny _ _ (exec (Stmt.Assign _ (Expr.ListComp _ _ _ _) _) _) _ _ _)); (fail_if_success (with_reducible show LCg.CompSrc _ _ _ _ _ _ _ _ _ _ _ _ _ _)))); (fail_if_success (with_reducible show wpAny _ _ (call (Prod.fst _) _) _ _ _)); (fail_if_success (with_reducible show wpAny _ _ (call (Value.ref _) _) _ _ _)); (fail_if_success (with_reducible show wpAny _ _ (subscriptTail _ _ _ (Value.str _ _)) _ _ _)); (fail_if_success (with_reducible show wpAny _ _ (execs (Stmt.Assign [Expr.Name (Str.ofString "due") _] _ _ :: _) _) _ _ _)); first | (first | ((with_reducible show wpAny _ _ (execs [] _) _ _ _); (k_here; (with_reducible refine gen_toks ?_); intro zztk)) | ((with_reducible show wpAny _ _ (execs (_ :: _) _) _ _ _); (k_here; (with_reducible refine gen_toks ?_); intro zztk)) | ((with_reducible show wpAny _ _ (execs (_ :: _) _) _ _ _); (k_here; (with_reducible refine wpAny_execs_cons ?_); (try dsimp only); k_fold)) | walk1) | (dsimp only; (first | ((with_reducible show wpAny _ _ (execs [] _) _ _ _); (k_here; (with_reducible refine gen_toks ?_); intro zztk)) | ((with_reducible show wpAny _ _ (execs (_ :: _) _) _ _ _); (k_here; (with_reducible refine gen_toks ?_); intro zztk)) | ((with_reducible show wpAny _ _ (execs (_ :: _) _) _ _ _); (k_here; (with_reducible refine wpAny_execs_cons ?_); (try dsimp only); k_fold)) | walk1))) | fail "no step"))
      try dsimp only
      (rename Fr _ _ _ _ => F8); (rename News _ _ _ _ => N8)
      exact hnext _ [.str (Str.ofString "7") _] [Str.ofString "7"] [] _ _ [] (.int 7 _) _ _ _ _ F8 N8 (fun p hp => (.tail _ (.tail _ (.tail _ (.tail _ (.tail _ (.tail _ (.tail _ (.tail _ (.tail _ hp)))))))))) (.tail _ (.tail _ (.tail _ (.tail _ (.tail _ (.tail _ (.tail _ (.head _)))))))) (.cons _ _ .nil) (List.forall_mem_cons.mpr ⟨by decide +kernel, fun _ h => nomatch h⟩) (by simp) .nil .nil (.inr ⟨⟨_, rfl⟩, rfl, by simp⟩) rfl rfl
  · (repeat' (first | (k_unfold; (try dsimp only)) | ((( (fail_if_success (with_reducible show wpAny _ _ (pyIter _) _ _ _)); (fail_if_success (with_reducible show wpAny _ _ (exec (Stmt.While _ _ _ _) _) _ _ _)))); (( (fail_if_success (with_reducible show wpAny _ _ (eval (Expr.ListComp _ _ _ _) _) _ _ _)); (fail_if_success (with_reducible show wpAny _ _ (exec (Stmt.Assign _ (Expr.ListComp _ _ _ _) _) _) _ _ _)); (fail_if_success (with_reducible show LCg.CompSrc _ _ _ _ _ _ _ _ _ _ _ _ _ _)))); (fail_if_success (with_reducible show wpAny _ _ (call (Prod.fst _) _) _ _ _)); (fail_if_success (with_reducible show wpAny _ _ (call (Value.ref _) _) _ _ _)); (fail_if_success (with_reducible show wpAny _ _ (subscriptTail _ _ _ (Value.str _ _)) _ _ _)); (fail_if_success (with_reducible show wpAny _ _ (execs (Stmt.Assign [Expr.Name (Str.ofString "due") _] _ _ :: _) _) _ _ _)); first | (first | ((with_reducible show wpAny _ _ (execs [] _) _ _ _); (k_here; (with_reducible refine gen_toks ?_); intro zztk)) | ((with_reducible show wpAny _ _ (execs (_ :: _) _) _ _ _); (k_here; (with_reducible refine gen_toks ?_); intro zztk)) | ((with_reducible show wpAny _ _ (execs (_ :: _) _) _ _ _); (k_here; (with_reducible refine wpAny_execs_cons ?_); (try dsimp only); k_fold)) | walk1) | (dsimp only; (first | ((with_reducible show wpAny _ _ (execs [] _) _ _ _); (k_here; (with_reducible refine gen_toks ?_); intro zztk)) | ((with_reducible show wpAny _ _ (execs (_ :: _) _) _ _ _); (k_here; (with_reducible refine gen_toks ?_); intro zztk)) | ((with_reducible show wpAny _ _ (execs (_ :: _) _) _ _ _); (k_here; (with_reducible refine wpAny_execs_cons ?_); (try dsimp only); k_fold)) | walk1))) | fail "no step"))
    · exfalso; first | contradiction | omega
    · try dsimp only
      (rename Fr _ _ _ _ => F8); (rename News _ _ _ _ => N8)
      exact hnext wl us ws ws c dv zs (.ref 57) _ _ _ _ F8 N8 (fun p hp => .tail _ (.tail _ (.tail _ (.tail _ hp)))) (.tail _ (.tail _ (.tail _ (.tail _ gW)))) hws h8 hz2 (hl.mono fun a o q => .tail _ (.tail _ (.tail _ (.tail _ q)))) (hit.mono fun a o q => .tail _ (.tail _ (.tail _ (.tail _ q)))) (.inl ⟨rfl, rfl⟩) rfl rfl

theorem zz_reset_NpDue : True := by
  w_top off
  exact trivial
open PySem PySem.W PyProof.Rows PySem.Calls
theorem seed_frag_due : hd.heap_39 = hd.heap_39 ∧ PySem.Challenge.rw_np0012_01 = PySem.Challenge.rw_np0012_01 := by
  k_fill
  exact ⟨rfl, rfl⟩

inductive DueIs (tl : List (Addr × Obj)) (ws : List Str) : Value → Prop where
  | none : lrd ws = none → DueIs tl ws .none
  | some {nd op : List Str} {rs : Option Str} {vn vo : List Value} {rv : Value} {tp a b : Addr} {c1 c2 ct : Nat} : lrd ws = some (nd, op, rs) → StrsAre vn nd → StrsAre vo op → DueR rv rs → (tp, ({ cls := .type "tuple", data := .seq #[.ref a, .ref b, rv] ct } : Obj)) ∈ tl → (a, listOf vn.toArray c1) ∈ tl → (b, listOf vo.toArray c2) ∈ tl → DueIs tl ws (.ref tp)
theorem DueIs.mono {tl tl' : List (Addr × Obj)} {ws : List Str} {v : Value} (h : DueIs tl ws v) (k : ∀ p ∈ tl, p ∈ tl') : DueIs tl' ws v := by
  cases h with
  | none h => exact .none h
  | some h1 h2 h3 h4 h5 h6 h7 => exact .some h1 h2 h3 h4 (k _ h5) (k _ h6) (k _ h7)

set_option maxHeartbeats 4000000 in
theorem law_due {w : World} {prog : Program} {dp un : Nat} {gd : Option (List Code)} {s : Shared} {Q : Flow → Shared → Prop} {E : Value → Shared → Prop} {h₀ : Heap} {L : Addr} {m : Str → Option Value} {wl : Addr} {us : List Value} {ws : List Str} {c : Nat} {tl : List (Addr × Obj)} {dv : Value}
    {name qual : Str} {params : Arguments} {body : List Stmt} {scope : Scope} {dV kV doc pm cdv ct oc : Value} {an od : Option Addr} {osl : Array (Option Value)}
    (hlaw : (hd.heap_39 w.params).lookup 184 = some ⟨oc, od, .func (fnOf name qual params body scope dV kV doc pm an cdv ct), osl⟩)
    (B : Base w h₀) (hd : dp ≤ 500) (hu : un ≤ 500) (F : Fr h₀ L s.heap m) (N : News h₀ L s.heap tl) (gW : (wl, listOf us.toArray c) ∈ tl) (hws : StrsAre us ws) (h8 : ∀ x ∈ ws, x ∈ W8) (hz : us.length ≤ 20)
    (e1 : m (Str.ofString "words_own") = some (.ref wl)) (e2 : m (Str.ofString "datum") = some dv)
    (hnext : ∀ duev fv h' tk m' tl', Fr h₀ L h' m' → News h₀ L h' tl' → (∀ p ∈ tl, p ∈ tl') → DueIs tl' ws duev → handedIn fv = true → m' (Str.ofString "datum") = some dv → m' (Str.ofString "function") = some fv → m' (Str.ofString "due") = some duev →
      wpAny (model prog w) (Around.deeper (Ar dp (some []) gd un) (envOfC qual scope L 184 cdv)) (execs (body.drop 8) (envOfC qual scope L 184 cdv)) Q E { s with heap := h', toks := tk }) :
    wpAny (model prog w) (Around.deeper (Ar dp (some []) gd un) (envOfC qual scope L 184 cdv)) (execs (body.drop 6) (envOfC qual scope L 184 cdv)) Q E s := by
  k_dflt (refine' same_elim hlaw ?h' ?_; (case h' => k_is))
  intro q1 q2 q3 q4
  subst q1 q2 q3 q4
  have X := B.X
  have F₂ := fr_know (fr_know F (a := Str.ofString "datum") (x := dv) e2) (a := Str.ofString "words_own") (x := .ref wl) e1
  obtain ⟨p, loose, mean, mg, mb, T⟩ := B.T
  clear F
  dsimp only [List.drop]
  (repeat' (first | (k_unfold; (try dsimp only)) | ((( (fail_if_success (with_reducible show wpAny _ _ (pyIter _) _ _ _)); (fail_if_success (with_reducible show wpAny _ _ (exec (Stmt.While _ _ _ _) _) _ _ _)))); (( (fail_if_success (with_reducible show wpAny _ _ (eval (Expr.ListComp _ _ _ _) _) _ _ _)); (fail_if_success (with_reducible show wpAny _ _ (exec (Stmt.Assign _ (Expr.ListComp _ _ _ _) _) _) _ _ _)); (fail_if_success (with_reducible show LCg.CompSrc _ _ _ _ _ _ _ _ _ _ _ _ _ _)))); (fail_if_success (with_reducible show wpAny _ _ (call (Prod.fst _) _) _ _ _)); (fail_if_success (with_reducible show wpAny _ _ (call (Value.ref _) _) _ _ _)); (fail_if_success (with_reducible show wpAny _ _ (execs (Stmt.Try _ _ _ _ _ :: _) _) _ _ _)); first | (first | ((with_reducible show wpAny _ _ (execs (_ :: _) _) _ _ _); (k_here; (with_reducible refine gen_toks ?_); intro zztk)) | ((with_reducible show wpAny _ _ (execs [] _) _ _ _); (k_here; (with_reducible refine gen_toks ?_); intro zztk)) | ((with_reducible show wpAny _ _ (execs (_ :: _) _) _ _ _); (k_here; (with_reducible refine wpAny_execs_cons ?_); (try dsimp only); k_fold)) | walk1) | (dsimp only; (first | ((with_reducible show wpAny _ _ (execs (_ :: _) _) _ _ _); (k_here; (with_reducible refine gen_toks ?_); intro zztk)) | ((with_reducible show wpAny _ _ (execs [] _) _ _ _); (k_here; (with_reducible refine gen_toks ?_); intro zztk)) | ((with_reducible show wpAny _ _ (execs (_ :: _) _) _ _ _); (k_here; (with_reducible refine wpAny_execs_cons ?_); (try dsimp only); k_fold)) | walk1))) | fail "no step"))
  (rename Fr _ _ _ _ => F3); (rename News _ _ _ _ => N3)
  refine lrd_spec (B.keeps F3.keep) ?d1 ?d2 (N3 _ gW).1 hws hz h8 ?_ ?_
  case d1 => k_room
  case d2 => ((have hcL := cLine_is; (try simp only [units_under_make, units_in1, units_deeper, Around.mark_units, units_caller]); (try dsimp only [Ar]); omega))
  · intro hno h' tk kp
    have F4 := fr_kept F3 kp
    have N4 := news_kept N3 kp
    clear F3 N3
    (repeat' (first | (k_unfold; (try dsimp only)) | ((( (fail_if_success (with_reducible show wpAny _ _ (pyIter _) _ _ _)); (fail_if_success (with_reducible show wpAny _ _ (exec (Stmt.While _ _ _ _) _) _ _ _)))); (( (fail_if_success (with_reducible show wpAny _ _ (eval (Expr.ListComp _ _ _ _) _) _ _ _)); (fail_if_success (with_reducible show wpAny _ _ (exec (Stmt.Assign _ (Expr.ListComp _ _ _ _) _) _) _ _ _)); (fail_if_success (with_reducible show LCg.CompSrc _ _ _ _ _ _ _ _ _ _ _ _ _ _)))); (fail_if_success (with_reducible show wpAny _ _ (call (Prod.fst _) _) _ _ _)); (fail_if_success (with_reducible show wpAny _ _ (call (Value.ref _) _) _ _ _)); (fail_if_success (with_reducible show wpAny _ _ (execs (Stmt.Try _ _ _ _ _ :: _) _) _ _ _)); first | (first | ((with_reducible show wpAny _ _ (execs (_ :: _) _) _ _ _); (k_here; (with_reducible refine gen_toks ?_); intro zztk)) | ((with_reducible show wpAny _ _ (execs [] _) _ _ _); (k_here; (with_reducible refine gen_toks ?_); intro zztk)) | ((with_reducible show wpAny _ _ (execs (_ :: _) _) _ _ _); (k_here; (with_reducible refine wpAny_execs_cons ?_); (try dsimp only); k_fold)) | walk1) | (dsimp only; (first | ((with_reducible show wpAny _ _ (execs (_ :: _) _) _ _ _); (k_here; (with_reducible refine gen_toks ?_); intro zztk)) | ((with_reducible show wpAny _ _ (execs [] _) _ _ _); (k_here; (with_reducible refine gen_toks ?_); intro zztk)) | ((with_reducible show wpAny _ _ (execs (_ :: _) _) _ _ _); (k_here; (with_reducible refine wpAny_execs_cons ?_); (try dsimp only); k_fold)) | walk1))) | fail "no step"))
    (rename Fr _ _ _ _ => F5); (rename News _ _ _ _ => N5)
    k_dflt (refine mk_cons B F5 N5 ?d3 ?_)
    case d3 => k_room
    intro xc dxc h7 tk7 k1 t1 k2 t2 F7 N7 l7 l8
    clear F5 N5 l7 l8
    (repeat' (first | (k_unfold; (try dsimp only)) | ((( (fail_if_success (with_reducible show wpAny _ _ (pyIter _) _ _ _)); (fail_if_success (with_reducible show wpAny _ _ (exec (Stmt.While _ _ _ _) _) _ _ _)))); (( (fail_if_success (with_reducible show wpAny _ _ (eval (Expr.ListComp _ _ _ _) _) _ _ _)); (fail_if_success (with_reducible show wpAny _ _ (exec (Stmt.Assign _ (Expr.ListComp _ _ _ _) _) _) _ _ _)); (fail_if_success (with_reducible show LCg.CompSrc _ _ _ _ _ _ _ _ _ _ _ _ _ _)))); (fail_if_success (with_reducible show wpAny _ _ (call (Prod.fst _) _) _ _ _)); (fail_if_success (with_reducible show wpAny _ _ (call (Value.ref _) _) _ _ _)); (fail_if_success (with_reducible show wpAny _ _ (execs (Stmt.Try _ _ _ _ _ :: _) _) _ _ _)); first | (first | ((with_reducible show wpAny _ _ (execs (_ :: _) _) _ _ _); (k_here; (with_reducible refine gen_toks ?_); intro zztk)) | ((with_reducible show wpAny _ _ (execs [] _) _ _ _); (k_here; (with_reducible refine gen_toks ?_); intro zztk)) | ((with_reducible show wpAny _ _ (execs (_ :: _) _) _ _ _); (k_here; (with_reducible refine wpAny_execs_cons ?_); (try dsimp only); k_fold)) | walk1) | (dsimp only; (first | ((with_reducible show wpAny _ _ (execs (_ :: _) _) _ _ _); (k_here; (with_reducible refine gen_toks ?_); intro zztk)) | ((with_reducible show wpAny _ _ (execs [] _) _ _ _); (k_here; (with_reducible refine gen_toks ?_); intro zztk)) | ((with_reducible show wpAny _ _ (execs (_ :: _) _) _ _ _); (k_here; (with_reducible refine wpAny_execs_cons ?_); (try dsimp only); k_fold)) | walk1))) | fail "no step"))
    (rename Fr _ _ _ _ => F8); (rename News _ _ _ _ => N8)
    exact hnext _ _ _ _ _ _ F8 N8 (fun p hp => .tail _ (.tail _ hp)) (.none hno) rfl rfl rfl rfl
  · intro nd op rs vn vo rv tp a b c1 c2 ct h' tk hso hvn hvo hdr kp g1 g2 g3
    have F4 := fr_kept F3 kp
    have N4 : News h₀ L h' ((tp, _) :: (a, listOf (List.toArray vn) c1) :: (b, listOf (List.toArray vo) c2) :: tl) := news_new F3 g1.2 g1.1 (by
      rcases g2.2 with g | rfl
      · exact news_new F3 g g2.1 (news_new F3 g3.2 g3.1 (news_kept N3 kp))
      · exact List.forall_mem_cons.mpr ⟨⟨g2.1, (N3 _ gW).2⟩, news_new F3 g3.2 g3.1 (news_kept N3 kp)⟩)
    clear F3 N3
    (repeat' (first | (k_unfold; (try dsimp only)) | ((( (fail_if_success (with_reducible show wpAny _ _ (pyIter _) _ _ _)); (fail_if_success (with_reducible show wpAny _ _ (exec (Stmt.While _ _ _ _) _) _ _ _)))); (( (fail_if_success (with_reducible show wpAny _ _ (eval (Expr.ListComp _ _ _ _) _) _ _ _)); (fail_if_success (with_reducible show wpAny _ _ (exec (Stmt.Assign _ (Expr.ListComp _ _ _ _) _) _) _ _ _)); (fail_if_success (with_reducible show LCg.CompSrc _ _ _ _ _ _ _ _ _ _ _ _ _ _)))); (fail_if_success (with_reducible show wpAny _ _ (call (Prod.fst _) _) _ _ _)); (fail_if_success (with_reducible show wpAny _ _ (call (Value.ref _) _) _ _ _)); (fail_if_success (with_reducible show wpAny _ _ (execs (Stmt.Try _ _ _ _ _ :: _) _) _ _ _)); first | (first | ((with_reducible show wpAny _ _ (execs (_ :: _) _) _ _ _); (k_here; (with_reducible refine gen_toks ?_); intro zztk)) | ((with_reducible show wpAny _ _ (execs [] _) _ _ _); (k_here; (with_reducible refine gen_toks ?_); intro zztk)) | ((with_reducible show wpAny _ _ (execs (_ :: _) _) _ _ _); (k_here; (with_reducible refine wpAny_execs_cons ?_); (try dsimp only); k_fold)) | walk1) | (dsimp only; (first | ((with_reducible show wpAny _ _ (execs (_ :: _) _) _ _ _); (k_here; (with_reducible refine gen_toks ?_); intro zztk)) | ((with_reducible show wpAny _ _ (execs [] _) _ _ _); (k_here; (with_reducible refine gen_toks ?_); intro zztk)) | ((with_reducible show wpAny _ _ (execs (_ :: _) _) _ _ _); (k_here; (with_reducible refine wpAny_execs_cons ?_); (try dsimp only); k_fold)) | walk1))) | fail "no step"))
    (rename Fr _ _ _ _ => F5); (rename News _ _ _ _ => N5)
    k_dflt (refine mk_cons B F5 N5 ?d3 ?_)
    case d3 => k_room
    intro xc dxc h7 tk7 k1 t1 k2 t2 F7 N7 l7 l8
    clear F5 N5 l7 l8
    (repeat' (first | (k_unfold; (try dsimp only)) | ((( (fail_if_success (with_reducible show wpAny _ _ (pyIter _) _ _ _)); (fail_if_success (with_reducible show wpAny _ _ (exec (Stmt.While _ _ _ _) _) _ _ _)))); (( (fail_if_success (with_reducible show wpAny _ _ (eval (Expr.ListComp _ _ _ _) _) _ _ _)); (fail_if_success (with_reducible show wpAny _ _ (exec (Stmt.Assign _ (Expr.ListComp _ _ _ _) _) _) _ _ _)); (fail_if_success (with_reducible show LCg.CompSrc _ _ _ _ _ _ _ _ _ _ _ _ _ _)))); (fail_if_success (with_reducible show wpAny _ _ (call (Prod.fst _) _) _ _ _)); (fail_if_success (with_reducible show wpAny _ _ (call (Value.ref _) _) _ _ _)); (fail_if_success (with_reducible show wpAny _ _ (execs (Stmt.Try _ _ _ _ _ :: _) _) _ _ _)); first | (first | ((with_reducible show wpAny _ _ (execs (_ :: _) _) _ _ _); (k_here; (with_reducible refine gen_toks ?_); intro zztk)) | ((with_reducible show wpAny _ _ (execs [] _) _ _ _); (k_here; (with_reducible refine gen_toks ?_); intro zztk)) | ((with_reducible show wpAny _ _ (execs (_ :: _) _) _ _ _); (k_here; (with_reducible refine wpAny_execs_cons ?_); (try dsimp only); k_fold)) | walk1) | (dsimp only; (first | ((with_reducible show wpAny _ _ (execs (_ :: _) _) _ _ _); (k_here; (with_reducible refine gen_toks ?_); intro zztk)) | ((with_reducible show wpAny _ _ (execs [] _) _ _ _); (k_here; (with_reducible refine gen_toks ?_); intro zztk)) | ((with_reducible show wpAny _ _ (execs (_ :: _) _) _ _ _); (k_here; (with_reducible refine wpAny_execs_cons ?_); (try dsimp only); k_fold)) | walk1))) | fail "no step"))
    (rename Fr _ _ _ _ => F8); (rename News _ _ _ _ => N8)
    exact hnext _ _ _ _ _ _ F8 N8 (fun p hp => .tail _ (.tail _ (.tail _ (.tail _ (.tail _ hp))))) (.some hso hvn hvo hdr (.tail _ (.tail _ (.head _))) (.tail _ (.tail _ (.tail _ (.head _)))) (.tail _ (.tail _ (.tail _ (.tail _ (.head _)))))) rfl rfl rfl rfl

theorem zz_reset_NpPlain : True := by
  w_top off
  exact trivial
open PySem PySem.W PyProof.Rows PySem.Calls
abbrev sO : Str := Str.ofString "&optional"
abbrev sR : Str := Str.ofString "&rest"
theorem idx_ne {x a : Str} (r : List Str) (h : ¬ x = a) : (x :: r).idxOf a = r.idxOf a + 1 := by
  have e : (x == a) = false := by simpa using h
  simp [List.idxOf_cons, e]
theorem sO_ne : sO ≠ sR := by decide +kernel
abbrev amp (x : Str) : Prop := x = sO ∨ x = sR
def cut : List Str → Option (List Str × Option Str)
  | [] => some ([], none)
  | x :: r => if x = sR then (match r with | [y] => if amp y then none else some ([], some y) | _ => none) else (cut r).map fun p => (x :: p.1, p.2)

theorem rdl_rest {r nd op : List Str} {k : Nat} (hk : k < 2) : rdl (sR :: r) nd op none k = (match r with | [y] => if amp y then none else some (nd, op, some y) | _ => none) := by
  have h0 : ¬ (sR = sO ∧ k = 0) := fun h => sO_ne h.1.symm
  match r with
  | [] => simp [rdl, h0, hk]
  | [y] =>
    by_cases hy : amp y
    · have h1 : ¬ (y = sO ∧ (2 : Nat) = 0) := by omega
      have hy' : y = sO ∨ y = sR := hy
      simp [rdl, h0, hk, hy, hy']
    · have hy' : ¬ (y = sO ∨ y = sR) := hy
      simp [rdl, h0, hk, hy, hy']
  | y :: z :: r => simp [rdl, h0, hk]

theorem rdl_one {nd : List Str} : ∀ (ws op : List Str), rdl ws nd op none 1 = (match cut ws with | none => none | some (b, rs) => if sO ∈ b then none else some (nd, op ++ b, rs))
  | [], op => by simp [rdl, cut]
  | x :: r, op => by
    by_cases hR : x = sR
    · subst hR
      rw [rdl_rest (by omega)]
      match r with
      | [] => simp [cut]
      | [y] => by_cases hy : amp y <;> simp [cut, hy]
      | y :: z :: r => simp [cut]
    · by_cases hO : x = sO
      · subst hO
        have : rdl (sO :: r) nd op none 1 = none := by simp [rdl, sO_ne]
        rw [this]
        simp only [cut, sO_ne, if_false]
        cases cut r <;> simp
      · have e : rdl (x :: r) nd op none 1 = rdl r nd (op ++ [x]) none 1 := by simp [rdl, hR, hO]
        rw [e, rdl_one r (op ++ [x])]
        simp only [cut, hR, if_false]
        cases cut r with
        | none => rfl
        | some p =>
          have : (sO ∈ x :: p.1) ↔ sO ∈ p.1 := by simp [Ne.symm hO]
          simp only [Option.map_some, this, List.append_assoc, List.singleton_append]

theorem rdl_zero : ∀ (ws nd : List Str), rdl ws nd [] none 0 = (match cut ws with | none => none | some (b, rs) => if sO ∈ b then (if sO ∈ b.drop (b.idxOf sO + 1) then none else some (nd ++ b.take (b.idxOf sO), b.drop (b.idxOf sO + 1), rs)) else some (nd ++ b, [], rs))
  | [], nd => by simp [rdl, cut]
  | x :: r, nd => by
    by_cases hR : x = sR
    · subst hR
      rw [rdl_rest (by omega)]
      match r with
      | [] => simp [cut]
      | [y] => by_cases hy : amp y <;> simp [cut, hy]
      | y :: z :: r => simp [cut]
    · by_cases hO : x = sO
      · subst hO
        have : rdl (sO :: r) nd [] none 0 = rdl r nd [] none 1 := by simp [rdl]
        rw [this, rdl_one]
        simp only [cut, sO_ne, if_false]
        cases cut r with
        | none => rfl
        | some p => simp
      · have e : rdl (x :: r) nd [] none 0 = rdl r (nd ++ [x]) [] none 0 := by simp [rdl, hR, hO]
        rw [e, rdl_zero r (nd ++ [x])]
        simp only [cut, hR, if_false]
        cases cut r with
        | none => rfl
        | some p =>
          have h1 : (sO ∈ x :: p.1) ↔ sO ∈ p.1 := by simp [Ne.symm hO]
          have h2 : (x :: p.1).idxOf sO = p.1.idxOf sO + 1 := idx_ne _ hO
          simp only [Option.map_some, h1, h2, List.drop_succ_cons, List.take_succ_cons, List.append_assoc, List.singleton_append]

theorem cut_is : ∀ (ws : List Str), cut ws = if ws.any (· == sR) = true then (if ((ws.idxOf sR : Nat) : Int) ≠ (ws.length : Int) - 2 then none else match ws.getLast? with | some x => if amp x then none else some (ws.take (ws.length - 2), some x) | none => none) else some (ws, none)
  | [] => by simp [cut]
  | x :: r => by
    by_cases hR : x = sR
    · subst hR
      match r with
      | [] => simp [cut]
      | [y] => by_cases hy : amp y <;> simp [cut, hy]
      | y :: z :: r =>
        have : ¬ ((0 : Int) = ((sR :: y :: z :: r).length : Int) - 2) := by simp only [List.length_cons]; omega
        simp [cut]
        omega
    · simp only [cut, hR, if_false]
      rw [cut_is r]
      have hany : ((x :: r).any (· == sR)) = r.any (· == sR) := by simp [hR]
      rw [hany]
      by_cases ha : r.any (· == sR) = true
      · rw [if_pos ha, if_pos ha]
        have h2 : (x :: r).idxOf sR = r.idxOf sR + 1 := idx_ne _ hR
        rw [h2]
        by_cases hi : ((r.idxOf sR : Nat) : Int) = (r.length : Int) - 2
        · have hi' : (((r.idxOf sR + 1 : Nat)) : Int) = (((x :: r).length : Nat) : Int) - 2 := by simp only [List.length_cons]; omega
          rw [if_neg (by simpa using hi), if_neg (by simpa using hi')]
          have hne : r ≠ [] := by rintro rfl; simp at ha
          have hl : (x :: r).getLast? = r.getLast? := by
            cases r with
            | nil => exact absurd rfl hne
            | cons y r => rw [List.getLast?_cons_cons]
          rw [hl]
          have hle : r.length ≥ 2 := by omega
          cases r.getLast? with
          | none => rfl
          | some y =>
            have : (x :: r).length - 2 = (r.length - 2) + 1 := by simp only [List.length_cons]; omega
            rw [this, List.take_succ_cons]
            by_cases hy : amp y <;> simp [hy]
        · have hi' : ¬ (((r.idxOf sR + 1 : Nat)) : Int) = (((x :: r).length : Nat) : Int) - 2 := by simp only [List.length_cons]; omega
          rw [if_pos hi, if_pos hi']; rfl
      · rw [if_neg ha, if_neg ha]; rfl
theorem count_str (x : Str) : ∀ ws : List Str, Spec.countIn (PyData.str x) (ws.map PyData.str) = (ws.count x : Int)
  | [] => rfl
  | y :: r => by
    rw [List.map_cons, Spec.countIn, count_str x r, List.count_cons]
    have : Spec.same (PyData.str y) (PyData.str x) = (y == x) := by rfl
    rw [this]
    by_cases h : y = x
    · subst h; simp; omega
    · simp [h]
theorem cut_app : ∀ (ws b : List Str) (rs : Option Str), cut ws = some (b, rs) → sR ∉ b ∧ ((rs = none ∧ ws = b) ∨ ∃ y, rs = some y ∧ ¬ amp y ∧ ws = b ++ [sR, y])
  | [], b, rs, h => by cases h; exact ⟨by simp, .inl ⟨rfl, rfl⟩⟩
  | x :: r, b, rs, h => by
    by_cases hR : x = sR
    · subst hR
      match r, h with
      | [], h => simp [cut] at h
      | [y], h =>
        by_cases hy : amp y
        · simp [cut, hy] at h
        · simp [cut, hy] at h
          obtain ⟨rfl, rfl⟩ := h
          exact ⟨by simp, .inr ⟨y, rfl, hy, rfl⟩⟩
      | y :: z :: r, h => simp [cut] at h
    · simp only [cut, hR, if_false] at h
      cases hc : cut r with
      | none => rw [hc] at h; cases h
      | some p =>
        rw [hc] at h
        cases h
        obtain ⟨h1, h2⟩ := cut_app r p.1 p.2 hc
        refine ⟨by simp [h1, Ne.symm hR], ?_⟩
        rcases h2 with ⟨h2, h3⟩ | ⟨y, h2, h3, h4⟩
        · exact .inl ⟨h2, by rw [← h3]⟩
        · exact .inr ⟨y, h2, h3, by rw [List.cons_append, ← h4]⟩
theorem cut_none {ws : List Str} (h : cut ws = none) : lrd ws = none := by
  rw [cut_is] at h
  unfold lrd
  split
  · rfl
  split
  · rfl
  split
  · rfl
  split
  · rename_i ha
    rw [if_pos ha] at h
    split
    · rfl
    · rename_i hb
      rw [if_neg hb] at h
      cases hg : ws.getLast? with
      | none => rfl
      | some y =>
        rw [hg] at h
        dsimp only at h ⊢
        by_cases hy : amp y
        · exact if_pos hy
        · rw [if_neg hy] at h; cases h
  · rename_i ha
    rw [if_neg ha] at h; cases h
theorem cut_some {ws b : List Str} {rs : Option Str} (h7 : Str.ofString "7" ∉ ws) (h : cut ws = some (b, rs)) : lrd ws = if 1 < b.count sO then none else lrs b rs := by
  obtain ⟨hb, hw⟩ := cut_app ws b rs h
  rw [cut_is] at h
  have hO : ws.count sO = b.count sO := by
    rcases hw with ⟨_, rfl⟩ | ⟨y, _, hy, rfl⟩
    · rfl
    · have h1 : ¬ y = sO := fun q => hy (.inl q)
      have h2 : ¬ sR = sO := fun q => sO_ne q.symm
      simp [List.count_cons, h1, h2]
  have hR : ws.count sR ≤ 1 := by
    rcases hw with ⟨_, rfl⟩ | ⟨y, _, hy, rfl⟩
    · rw [List.count_eq_zero_of_not_mem hb]; omega
    · have h1 : ¬ y = sR := fun q => hy (.inr q)
      simp [List.count_append, List.count_eq_zero_of_not_mem hb, List.count_cons, h1]
  unfold lrd
  rw [if_neg (by simp only [List.any_eq_true, beq_iff_eq, not_exists, not_and]; intro x hx q; exact h7 (q ▸ hx)), count_str, count_str]
  have e1 : ((1 : Int) < (ws.count (Str.ofString "&optional") : Int)) ↔ 1 < b.count sO := by rw [show ws.count (Str.ofString "&optional") = b.count sO from hO]; omega
  by_cases hc : 1 < b.count sO
  · rw [if_pos (e1.mpr hc), if_pos hc]
  · rw [if_neg (fun q => hc (e1.mp q)), if_neg hc, if_neg (by have := hR; show ¬ (1 : Int) < (ws.count sR : Int); omega)]
    by_cases ha : ws.any (· == sR) = true
    · rw [if_pos ha] at h ⊢
      split at h
      · cases h
      · rename_i hi
        rw [if_neg hi]
        cases hg : ws.getLast? with
        | none => rw [hg] at h; cases h
        | some y =>
          rw [hg] at h
          dsimp only at h ⊢
          by_cases hy : amp y
          · rw [if_pos hy] at h; cases h
          · rw [if_neg hy] at h
            cases h
            exact if_neg hy
    · rw [if_neg ha] at h ⊢
      cases h; rfl
theorem lrd_rdl {ws : List Str} (h7 : Str.ofString "7" ∉ ws) : lrd ws = rdl ws [] [] none 0 := by
  rw [rdl_zero]
  cases hc : cut ws with
  | none => rw [cut_none hc]
  | some p =>
    obtain ⟨b, rs⟩ := p
    rw [cut_some h7 hc]
    try dsimp only
    unfold lrs
    have hany : (b.any (· == Str.ofString "&optional") = true) ↔ sO ∈ b := by simp
    by_cases hm : sO ∈ b
    · have hcount : 1 < b.count sO ↔ sO ∈ b.drop (b.idxOf sO + 1) := by
        have key : ∀ l : List Str, sO ∈ l → l.count sO = 1 + (l.drop (l.idxOf sO + 1)).count sO := by
          intro l
          induction l with
          | nil => intro h; cases h
          | cons x r ih =>
            intro h
            by_cases hx : x = sO
            · subst hx; simp; omega
            · have h2 : sO ∈ r := by
                rcases List.mem_cons.mp h with q | q
                · exact absurd q.symm hx
                · exact q
              rw [idx_ne _ hx, List.drop_succ_cons, List.count_cons, ih h2]
              simp [hx]
        rw [key b hm]
        rw [← List.count_pos_iff]
        omega
      rw [if_pos hm, if_pos (hany.mpr hm)]
      by_cases h2 : sO ∈ b.drop (b.idxOf sO + 1)
      · rw [if_pos (hcount.mpr h2), if_pos h2]
      · rw [if_neg (fun q => h2 (hcount.mp q)), if_neg h2]; simp
    · rw [if_neg hm, if_neg (fun q => hm (hany.mp q)), if_neg (by rw [List.count_eq_zero_of_not_mem hm]; omega)]; simp
theorem lrd_seven {ws : List Str} (h7 : Str.ofString "7" ∈ ws) : lrd ws = none := by
  unfold lrd
  rw [if_pos (by simp only [List.any_eq_true, beq_iff_eq]; exact ⟨_, h7, rfl⟩)]
theorem rdl_mem : ∀ (ws nd op : List Str) (rs : Option Str) (k : Nat) (nd' op' : List Str) (rs' : Option Str), rdl ws nd op rs k = some (nd', op', rs') →
    (∀ y ∈ nd', y ∈ nd ∨ y ∈ ws) ∧ (∀ y ∈ op', y ∈ op ∨ y ∈ ws) ∧ nd'.length ≤ nd.length + ws.length ∧ op'.length ≤ op.length + ws.length
  | [], nd, op, rs, k, nd', op', rs', h => by
    simp only [rdl, Option.some.injEq, Prod.mk.injEq] at h
    obtain ⟨rfl, rfl, rfl⟩ := h
    exact ⟨fun y h => .inl h, fun y h => .inl h, by simp, by simp⟩
  | x :: r, nd, op, rs, k, nd', op', rs', h => by
    have step : ∀ nd2 op2 rs2 k2, rdl r nd2 op2 rs2 k2 = some (nd', op', rs') → (∀ y ∈ nd2, y ∈ nd ∨ y ∈ x :: r) → (∀ y ∈ op2, y ∈ op ∨ y ∈ x :: r) → nd2.length ≤ nd.length + 1 → op2.length ≤ op.length + 1 →
        (∀ y ∈ nd', y ∈ nd ∨ y ∈ x :: r) ∧ (∀ y ∈ op', y ∈ op ∨ y ∈ x :: r) ∧ nd'.length ≤ nd.length + (x :: r).length ∧ op'.length ≤ op.length + (x :: r).length := by
      intro nd2 op2 rs2 k2 h2 a1 a2 a3 a4
      obtain ⟨b1, b2, b3, b4⟩ := rdl_mem r nd2 op2 rs2 k2 nd' op' rs' h2
      refine ⟨fun y hy => ?_, fun y hy => ?_, by simp only [List.length_cons]; omega, by simp only [List.length_cons]; omega⟩
      · rcases b1 y hy with q | q
        · exact a1 y q
        · exact .inr (.tail _ q)
      · rcases b2 y hy with q | q
        · exact a2 y q
        · exact .inr (.tail _ q)
    have sn : ∀ (l : List Str), ∀ y ∈ l ++ [x], y ∈ l ∨ y ∈ x :: r := fun l y hy => by
      rcases List.mem_append.mp hy with q | q
      · exact .inl q
      · rw [List.mem_singleton.mp q]; exact .inr (.head _)
    unfold rdl at h
    split at h
    · exact step _ _ _ _ h (fun y h => .inl h) (fun y h => .inl h) (by omega) (by omega)
    split at h
    · exact step _ _ _ _ h (fun y h => .inl h) (fun y h => .inl h) (by omega) (by omega)
    split at h
    · cases h
    split at h
    · exact step _ _ _ _ h (sn nd) (fun y h => .inl h) (by simp) (by omega)
    split at h
    · exact step _ _ _ _ h (fun y h => .inl h) (sn op) (by omega) (by simp)
    · exact step _ _ _ _ h (fun y h => .inl h) (fun y h => .inl h) (by omega) (by omega)

theorem zz_reset_NpWhole : True := by
  w_top off
  exact trivial
open PySem PySem.W PyProof.Rows PySem.Calls
def NoCell (o : Obj) : Prop := ∀ v, o.data ≠ .cell v
theorem ItemIs.nocell {P P' : Addr → Obj → Prop} {v : Value} {x : Str} (h : ItemIs P v x) (k : ∀ a o, NoCell o → P a o → P' a o) : ItemIs P' v x := by
  cases h with
  | seven => exact .seven
  | sym h1 h2 h3 => exact .sym (k _ _ (by intro v q; cases q) h1) (k _ _ (by intro v q; cases q) h2) h3
theorem ItemsAre.nocell {P P' : Addr → Obj → Prop} {vs : List Value} {xs : List Str} (h : ItemsAre P vs xs) (k : ∀ a o, NoCell o → P a o → P' a o) : ItemsAre P' vs xs := by
  induction h with
  | nil => exact .nil
  | cons h _ ih => exact .cons (h.nocell k) ih
theorem RestIs.nocell {P P' : Addr → Obj → Prop} {v : Value} {rs : Option Str} (h : RestIs P v rs) (k : ∀ a o, NoCell o → P a o → P' a o) : RestIs P' v rs := by
  cases h with
  | none => exact .none
  | some h1 h2 => exact .some (h1.nocell k) h2
theorem ne_cell {h₀ h : Heap} {L a b : Addr} {news : List (Addr × Obj)} {o o' : Obj} {v : Option Value} (N : News h₀ L h news) (h1 : (a, o') ∈ news) (hn : NoCell o') (h2 : (b, o) ∈ news) (e : o.data = .cell v) : @Ne Nat a b := fun q => by
  have g1 := (N _ h1).1
  have g2 := (N _ h2).1
  dsimp only at g1 g2
  rw [show a = b from q, g2] at g1
  cases g1
  exact hn v e

theorem law_whole {w : World} {prog : Program} {dp un : Nat} {gd : Option (List Code)} {s : Shared} {Q : Flow → Shared → Prop} {h₀ : Heap} {L sc : Addr} {m : Str → Option Value} {svs : List Value} {sns : List Int} {oS oM oA : Obj} {vS vM vA : Option Value}
    {name qual : Str} {params : Arguments} {body : List Stmt} {scope : Scope} {dV kV doc pm cdv ct oc : Value} {an od : Option Addr} {osl : Array (Option Value)}
    (hlaw : (hd.heap_39 w.params).lookup 184 = some ⟨oc, od, .func (fnOf name qual params body scope dV kV doc pm an cdv ct), osl⟩)
    (B : Base w h₀) (hd : dp ≤ 500) (hu : un ≤ 500) (F : Fr h₀ L s.heap m) (N : News h₀ L s.heap [(L + 1, oS), (L + 1 + 1, oM), (L + 1 + 1 + 1, oA)]) (eS : oS.data = .cell vS) (eM : oM.data = .cell vM) (eA : oA.data = .cell vA)
    (e1 : m (Str.ofString "script") = some (.ref sc)) (hl : h₀.IsList sc svs.toArray) (hi : IntsAre svs sns) (hz : svs.length ≤ 63)
    (hQ : ∀ h' tk m', Fr h₀ L h' m' → Q (.ret (.bool true)) { s with heap := h', toks := tk }) :
    wpAny (model prog w) (Around.deeper (Ar dp (some []) gd un) (envOfC qual scope L 184 cdv)) (execs (body.drop 0) (envOfC qual scope L 184 cdv)) Q (fun _ _ => False) s := by
  refine law_words hlaw B hd hu F N e1 hl hi hz ?_
  intro wl us ws c ca sa dk vs ns n i t n2 n0 h1 tk1 m1 hws h8 hz1 hcs hdc hds offc w1 w2 hi1 hns1 hi01 hzv d1 d2 F1 N1
  have N1' : News h₀ L h1 [(wl, listOf us.toArray c), (ca, listOf vs.toArray n), (sa, listOf [Value.int i t].toArray n2), (dk, listOf [Value.ref ca, Value.ref sa].toArray n0), (L + 1, oS), (L + 1 + 1, oM), (L + 1 + 1 + 1, oA)] := N1
  have nc : ∀ {its : Array Value} {k : Nat}, NoCell (listOf its k) := fun v q => by cases q
  have mS : (L + 1, oS) ∈ [(wl, listOf us.toArray c), (ca, listOf vs.toArray n), (sa, listOf [Value.int i t].toArray n2), (dk, listOf [Value.ref ca, Value.ref sa].toArray n0), (L + 1, oS), (L + 1 + 1, oM), (L + 1 + 1 + 1, oA)] := .tail _ (.tail _ (.tail _ (.tail _ (.head _))))
  refine law_syms (s := { s with heap := h1, toks := tk1 }) (vM := vM) (vA := vA) hlaw B hd hu F1 N1' eS (ne_cell N1' (.head _) nc mS eS) (ne_cell N1' (.tail _ (.head _)) nc mS eS) (ne_cell N1' (.tail _ (.tail _ (.head _))) nc mS eS) (ne_cell N1' (.tail _ (.tail _ (.tail _ (.head _)))) nc mS eS) (Nat.ne_of_gt (Nat.lt_succ_self _)) (Nat.ne_of_gt (Nat.lt_succ_of_lt (Nat.lt_succ_self _))) d1 d2 ?_
  intro sd oD oS' sl h2 tk2 m2 F2 N2 gD eS' offsl hS d3 d4
  obtain ⟨bs, hbs⟩ : ∃ bs, bs = sl ++ [(wl, listOf us.toArray c), (ca, listOf vs.toArray n), (sa, listOf [Value.int i t].toArray n2), (dk, listOf [Value.ref ca, Value.ref sa].toArray n0), (L + 1, oS'), (L + 1 + 1, oM), (L + 1 + 1 + 1, oA)] := ⟨_, rfl⟩
  rw [← hbs] at N2
  have bL : ∀ p ∈ sl, p ∈ bs := fun p hp => hbs ▸ List.mem_append_left _ hp
  have bR : ∀ p ∈ [(wl, listOf us.toArray c), (ca, listOf vs.toArray n), (sa, listOf [Value.int i t].toArray n2), (dk, listOf [Value.ref ca, Value.ref sa].toArray n0), (L + 1, oS'), (L + 1 + 1, oM), (L + 1 + 1 + 1, oA)], p ∈ bs := fun p hp => hbs ▸ List.mem_append_right _ hp
  refine law_datum (s := { s with heap := h2, toks := tk2 }) hlaw B hd hu F2 N2 (bR _ (.tail _ (.tail _ (.tail _ (.tail _ (.head _)))))) (bR _ (.head _)) (bL _ gD) eS' hS bL hws h8 hz1 d3 d4 ?_
  intro zs nx dv h3 tk3 m3 F3 N3 R3 hit hfr d5 d6 d7
  obtain ⟨tl, htl⟩ : ∃ tl, tl = nx ++ (sl ++ [(wl, listOf us.toArray c), (L + 1 + 1, oM), (L + 1 + 1 + 1, oA)]) := ⟨_, rfl⟩
  have tN : ∀ p ∈ nx, p ∈ tl := fun p hp => htl ▸ List.mem_append_left _ hp
  have tS : ∀ p ∈ sl, p ∈ tl := fun p hp => htl ▸ List.mem_append_right _ (List.mem_append_left _ hp)
  have tR : ∀ p ∈ [(wl, listOf us.toArray c), (L + 1 + 1, oM), (L + 1 + 1 + 1, oA)], p ∈ tl := fun p hp => htl ▸ List.mem_append_right _ (List.mem_append_right _ hp)
  have tl_of : ∀ p ∈ tl, p ∈ nx ∨ p ∈ sl ∨ p ∈ [(wl, listOf us.toArray c), (L + 1 + 1, oM), (L + 1 + 1 + 1, oA)] := fun p hp => by
    rw [htl] at hp
    rcases List.mem_append.mp hp with h | h
    · exact .inl h
    · exact .inr (List.mem_append.mp h)
  have N4 : News h₀ L h3 ((ca, listOf vs.toArray n) :: (sa, listOf [Value.int i t].toArray n2) :: (dk, listOf [Value.ref ca, Value.ref sa].toArray n0) :: (L + 1, oS') :: tl) := fun p hp => by
    rcases List.mem_cons.mp hp with rfl | hp
    · exact N3 _ (List.mem_append_right _ (bR _ (.tail _ (.head _))))
    rcases List.mem_cons.mp hp with rfl | hp
    · exact N3 _ (List.mem_append_right _ (bR _ (.tail _ (.tail _ (.head _)))))
    rcases List.mem_cons.mp hp with rfl | hp
    · exact N3 _ (List.mem_append_right _ (bR _ (.tail _ (.tail _ (.tail _ (.head _))))))
    rcases List.mem_cons.mp hp with rfl | hp
    · exact N3 _ (List.mem_append_right _ (bR _ (.tail _ (.tail _ (.tail _ (.tail _ (.head _)))))))
    rcases tl_of p hp with h | h | h
    · exact N3 _ (List.mem_append_left _ h)
    · exact N3 _ (List.mem_append_right _ (bL _ h))
    · refine N3 _ (List.mem_append_right _ (bR _ ?_))
      simp only [List.mem_cons, List.not_mem_nil, or_false] at h ⊢
      rcases h with h | h | h <;> simp [h]
  have off4 : ∀ p ∈ (L + 1, oS') :: tl, p.1 ≠ ca ∧ p.1 ≠ sa := List.forall_mem_cons.mpr ⟨offc (L + 1, oS) (.head _), fun p hp => by
    rcases tl_of p hp with h | h | h
    · exact ⟨hfr p h _ (bR _ (.tail _ (.head _))), hfr p h _ (bR _ (.tail _ (.tail _ (.head _))))⟩
    · exact offsl p h
    · simp only [List.mem_cons, List.not_mem_nil, or_false] at h
      rcases h with rfl | rfl | rfl
      · exact ⟨w1, w2⟩
      · exact offc (L + 1 + 1, oM) (.tail _ (.head _))
      · exact offc (L + 1 + 1 + 1, oA) (.tail _ (.tail _ (.head _)))⟩
  refine law_special (s := { s with heap := h3, toks := tk3 }) hlaw B hd hu F3 N4 hi1 hns1 hi01 hzv off4 hcs hdc hds (tS _ gD) eS' hS tS (tR _ (.head _)) hws h8 hz1 (R3.mono fun a o q => tN _ q) (hit.mono fun a o q => tS _ q) d5 d6 d7 ?_
  intro wl' us' ws' wz c' dv' zs' tail tl' h4 tk4 m4 F5 N5 hsub gW' hws' h8' hz' hl' hit' hcase d8 d9
  refine law_due (s := { s with heap := h4, toks := tk4 }) hlaw B hd hu F5 N5 gW' hws' h8' hz' d8 d9 ?_
  intro duev fv h5 tk5 m5 tl2 F6 N6 hsub2 hdue hfv d10 d11 d12
  have mM : (L + 1 + 1, oM) ∈ tl2 := hsub2 _ (hsub _ (tR _ (.tail _ (.head _))))
  have mA : (L + 1 + 1 + 1, oA) ∈ tl2 := hsub2 _ (hsub _ (tR _ (.tail _ (.tail _ (.head _)))))
  have ht : tail = .ref 57 ∨ ∃ t, tail = .int 7 t := hcase.elim (fun h => .inl h.1) fun h => .inr h.1
  have hlen := hit'.length
  have hwl := StrsAre.length hws'
  have zs9 : zs'.length ≤ 100 := by
    rcases hcase with ⟨_, rfl⟩ | ⟨_, _, h⟩
    · omega
    · omega
  refine law_try (s := { s with heap := h5, toks := tk5 }) hlaw B F6 N6 hd hu d10 d11 d12 ht (hl'.mono fun a o q => hsub2 _ q) (hit'.mono fun a o q => hsub2 _ q) zs9 hfv (hl'.handed ht) ?_ hQ ?_
  · intro hc
    have hno : lrd ws' = none := by
      rcases hcase with ⟨h1, rfl⟩ | ⟨_, rfl, _⟩
      · by_cases h7 : Str.ofString "7" ∈ wz
        · exact lrd_seven h7
        · rw [lrd_rdl h7]
          exact (hc h1).elim (fun q => absurd q h7) id
      · exact lrd_seven (.head _)
    cases hdue with
    | none _ => rfl
    | some q _ _ _ _ _ _ => rw [hno] at q; cases q
  · intro nd op rs zn zo rv x dx nl ol k1 t1 k2 t2 k3 t3 c1 c2 h6 tk6 m6 h57 h7 hrdl hn ho hr f1 f2 F7 N7 hne
    have hwz : wz = ws' := by
      rcases hcase with ⟨_, h⟩ | ⟨⟨t, h⟩, _⟩
      · exact h
      · rw [h57] at h; cases h
    subst hwz
    obtain ⟨r1, r2, r3, r4⟩ := rdl_mem _ _ _ _ _ _ _ _ hrdl
    have n7nd : ∀ y ∈ nd, y ≠ Str.ofString "7" := fun y hy q => (r1 y hy).elim (fun z => nomatch z) fun z => h7 (q ▸ z)
    have n7op : ∀ y ∈ op, y ≠ Str.ofString "7" := fun y hy q => (r2 y hy).elim (fun z => nomatch z) fun z => h7 (q ▸ z)
    have l1 := hn.length
    have l2 := ho.length
    simp only [List.length_nil] at r3 r4
    cases hdue with
    | none q => rw [lrd_rdl h7, hrdl] at q; cases q
    | @some nd2 op2 rs2 vn vo rv2 tp a b c3 c4 ct q g1 g2 g3 g4 g5 g6 =>
      rw [lrd_rdl h7, hrdl] at q
      cases q
      refine law_mid (s := { s with heap := h6, toks := tk6 }) hlaw B hd hu F7 N7 f1 f2 hn ho hr (by omega) (by omega) g4 g5 g6 g1 g2 g3 n7nd n7op ?_
      intro h7' tk7 m7 f3 f4 f5 f6 F8 N8
      obtain ⟨fx, hfx⟩ : ∃ fx, fx = (x, instObj 132 dx) :: (dx, dictOf [⟨k1, .str (Str.ofString "needed") t1, .ref nl⟩, ⟨k2, .str (Str.ofString "optional") t2, .ref ol⟩, ⟨k3, .str (Str.ofString "rest") t3, rv⟩] 3) :: (nl, listOf (List.toArray zn) c1) :: (ol, listOf (List.toArray zo) c2) :: tl2.filter (fun p => decide (p.1 ≠ L + 1 + 1 ∧ p.1 ≠ L + 1 + 1 + 1)) := ⟨_, rfl⟩
      have up : ∀ p ∈ tl2, p ∈ (x, instObj 132 dx) :: (dx, dictOf [⟨k1, .str (Str.ofString "needed") t1, .ref nl⟩, ⟨k2, .str (Str.ofString "optional") t2, .ref ol⟩, ⟨k3, .str (Str.ofString "rest") t3, rv⟩] 3) :: (nl, listOf (List.toArray zn) c1) :: (ol, listOf (List.toArray zo) c2) :: tl2 := fun p hp => .tail _ (.tail _ (.tail _ (.tail _ hp)))
      have inF : ∀ a o, NoCell o → (a, o) ∈ tl2 → (a, o) ∈ fx := fun a o hc hm => by
        rw [hfx]
        exact .tail _ (.tail _ (.tail _ (.tail _ (List.mem_filter.mpr ⟨hm, decide_eq_true ⟨ne_cell N8 (up _ hm) hc (up _ mM) eM, ne_cell N8 (up _ hm) hc (up _ mA) eA⟩⟩))))
      have hoff : ∀ p ∈ fx, p.1 ≠ L + 1 + 1 ∧ p.1 ≠ L + 1 + 1 + 1 := by
        rw [hfx]
        obtain ⟨a1, a2, a3, a4⟩ := hne _ mM
        obtain ⟨b1, b2, b3, b4⟩ := hne _ mA
        exact List.forall_mem_cons.mpr ⟨⟨a1.symm, b1.symm⟩, List.forall_mem_cons.mpr ⟨⟨a2.symm, b2.symm⟩, List.forall_mem_cons.mpr ⟨⟨a3.symm, b3.symm⟩, List.forall_mem_cons.mpr ⟨⟨a4.symm, b4.symm⟩, fun p hp => of_decide_eq_true (List.mem_filter.mp hp).2⟩⟩⟩⟩
      have N9 : News h₀ L h7' ((L + 1 + 1, oM) :: (L + 1 + 1 + 1, oA) :: fx) := fun p hp => by
        rcases List.mem_cons.mp hp with rfl | hp
        · exact N8 _ (up _ mM)
        rcases List.mem_cons.mp hp with rfl | hp
        · exact N8 _ (up _ mA)
        rw [hfx] at hp
        refine N8 p ?_
        simp only [List.mem_cons] at hp ⊢
        rcases hp with h | h | h | h | h
        · simp [h]
        · simp [h]
        · simp [h]
        · simp [h]
        · exact .inr (.inr (.inr (.inr (List.mem_filter.mp h).1)))
      have y1 : (x, instObj 132 dx) ∈ fx := by rw [hfx]; exact .head _
      have y2 : (dx, dictOf [⟨k1, .str (Str.ofString "needed") t1, .ref nl⟩, ⟨k2, .str (Str.ofString "optional") t2, .ref ol⟩, ⟨k3, .str (Str.ofString "rest") t3, rv⟩] 3) ∈ fx := by rw [hfx]; exact .tail _ (.head _)
      have y3 : (nl, listOf (List.toArray zn) c1) ∈ fx := by rw [hfx]; exact .tail _ (.tail _ (.head _))
      have y4 : (ol, listOf (List.toArray zo) c2) ∈ fx := by rw [hfx]; exact .tail _ (.tail _ (.tail _ (.head _)))
      exact law_loop (s := { s with heap := h7', toks := tk7 }) hlaw B hd hu F8 N9 eM eA hoff f3 f4 f5 f6 y1 y2 y3 y4 (inF _ _ nc g5) (inF _ _ nc g6) (hn.nocell inF) (ho.nocell inF) (hr.nocell inF) (by omega) (by omega) g1 g2 g3 n7nd n7op hQ

theorem zz_reset_NpEnd : True := by
  w_top off
  exact trivial
open PySem PySem.W PyProof.Rows PySem.Calls
theorem fin_join {G : Prop} {K : Frag} {h : Heap} {f : Addr} {name qual : Str} {params : Arguments} {body : List Stmt} {scope : Scope} {dV kV doc pm cdv ct oc : Value} {an od : Option Addr} {osl : Array (Option Value)} {o : Obj} {fd : FuncData}
    (X : K.In h) (hL : K.lookup f = some ⟨oc, od, .func (fnOf name qual params body scope dV kV doc pm an cdv ct), osl⟩) (ho : h.get? f = some o) (hd : o.data = .func fd)
    (k : K.lookup f = some ⟨oc, od, .func (fnOf name qual params body scope dV kV doc pm an cdv ct), osl⟩ → fd.code = cdv → G) : G := by
  refine k hL ?_
  have h1 := X _ _ hL
  rw [ho] at h1
  cases h1
  dsimp only at hd
  cases hd
  rfl
set_option maxHeartbeats 0 in
theorem the_end : PySem.Challenge.rw_np0012_01.Holds := by
  w_on
  refine holds_law well_said fun said => ?_
  refine holds_open (q := hd.view_39) (loose := [Str.ofString "NIL", Str.ofString "list_of"]) (Xt := fun s => xlAt hd.view_39 [] s && recOk (RowW.records rowW) s) (XP := XL hd.view_39 []) (Yf := Hook.obs hook) (Ya := Hook.val hook) (YP := Hook.says hook) (N := 3102) left (Hook.of hook) (Hook.keeps hook) (fun s e => xl_of s (Bool.and_eq_true_iff.mp e).1) XL.keeps (by rfl) (by rfl) (by rfl) (fun s e => recFacts_of (Bool.and_eq_true_iff.mp e).2) (by rfl) (by assumption) (by decide +kernel) ⟨rfl, rfl, rfl, rfl, rfl, by decide +kernel⟩ ?hw ?hc
  case hw => w_witness2
  delta hook rowW
  k_fill
  intro w s₀ s₁ mg mb G Y fa o pm cd doc dV kV ho hd hcd hD hmg hg args vals as hpre hlay hrd hwl hlo
  have KX := kIn_of Y
  have hmg2 := hmg
  have hd2 := hd
  have ho2 := ho
  k_behind G ho hd hcd hD hmg hpre hlay hrd hwl hlo cd
  (rename Top _ _ _ _ _ _ => TT); (rename Heap.IsList _ _ _ => hsc); (rename IntsAre _ _ => hints); (rename Fr _ _ _ _ => FF); (rename News _ _ _ _ => NN)
  have hm := mg_of KX TT.g (n := Str.ofString "law") (v := .ref 184) (by k_is)
  have e184 : some (Value.ref fa) = some (Value.ref 184) := hmg2.symm.trans hm
  injection e184 with e184
  injection e184 with e184
  subst e184
  k_dflt (refine' fin_join KX ?hL ho2 hd2 ?_; (case hL => k_is))
  intro hL hc3
  have hc4 : Value.ref _ = Value.ref 183 := hc3
  injection hc4 with hc5
  subst hc5
  have hz := IntsAre.length hints
  refine' wpAny_mono (law_whole (Q := fun f s' => f = .ret (.bool true) ∧ ∃ h' tk m', s' = { s₁ with heap := h', toks := tk } ∧ Fr s₁.heap s₁.heap.objs.size h' m') hL ⟨KX, ⟨_, _, _, _, _, TT⟩⟩ (by decide) (by decide) FF (news_sub NN ?perm) ?c1 ?c2 ?c3 ?e1 hsc hints ?hz ?hq) ?_ (fun _ _ x => x.elim)
  case perm =>
    intro p hp
    simp only [List.mem_cons, List.not_mem_nil, or_false] at hp ⊢
    rcases hp with h | h | h
    · exact .inr (.inr h)
    · exact .inr (.inl h)
    · exact .inl h
  case c1 => assumption
  case c2 => assumption
  case c3 => assumption
  case e1 => with_unfolding_all rfl
  case hz => omega
  case hq => intro h' tk m' F'; exact ⟨rfl, h', tk, m', rfl, F'⟩
  rintro f s' ⟨rfl, h', tk, m', rfl, F'⟩
  clear FF NN
  (try dsimp only)
  repeat' (first | (k_unfold; (try dsimp only)) | (k_end; wrow_close) | (first | ((with_reducible show wpAny _ _ (execs (_ :: _) _) _ _ _); (k_here; (with_reducible refine gen_toks ?_); intro zztk)) | ((with_reducible show wpAny _ _ (execs [] _) _ _ _); (k_here; (with_reducible refine gen_toks ?_); intro zztk)) | ((with_reducible show wpAny _ _ (execs (_ :: _) _) _ _ _); (k_here; (with_reducible refine wpAny_execs_cons ?_); (try dsimp only); k_fold)) | walk1) | (dsimp only; (first | ((with_reducible show wpAny _ _ (execs (_ :: _) _) _ _ _); (k_here; (with_reducible refine gen_toks ?_); intro zztk)) | ((with_reducible show wpAny _ _ (execs [] _) _ _ _); (k_here; (with_reducible refine gen_toks ?_); intro zztk)) | ((with_reducible show wpAny _ _ (execs (_ :: _) _) _ _ _); (k_here; (with_reducible refine wpAny_execs_cons ?_); (try dsimp only); k_fold)) | walk1)) | (leave1; try dsimp only) | fail "no step")
  (all_goals try k_data)

end Np

theorem PySem.Challenge.cw_np0012_01_holds : PySem.Challenge.rw_np0012_01.Holds := by
  exact Np.the_end

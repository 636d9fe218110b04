import PyProof.Rows.All
import Wide.All
import OpenK.AllK
import Wide.FinOn
import Lean
import PySem.Challenge.RW_on0295_01
open PySem PySem.W PyProof.Rows
set_option Elab.async false
set_option maxRecDepth 100000
set_option linter.unusedVariables false
namespace Mine
noncomputable abbrev pr : Program := (OpenRow.toRowW (OpenLaw.row PySem.Challenge.rw_on0295_01)).1
noncomputable def bodyL : List Stmt := PySem.Challenge.pw_on0295_01.main.body
noncomputable def pos0 : Pos := ⟨0, 0, 0, 0⟩
noncomputable def atL : List Stmt → Nat → Stmt
  | [], _ => Stmt.Pass pos0
  | s :: _, 0 => s
  | _ :: r, n + 1 => atL r n
noncomputable def clsL : Stmt → List Stmt
  | .ClassDef _ _ _ b .. => b
  | _ => []
noncomputable def fA : Stmt → Arguments
  | .FunctionDef _ a .. => a
  | _ => ⟨[], [], none, [], [], none, []⟩
noncomputable def fB : Stmt → List Stmt
  | .FunctionDef _ _ b .. => b
  | _ => []
noncomputable def fC : Stmt → Scope
  | .FunctionDef _ _ _ _ _ _ c .. => c
  | _ => PySem.Challenge.pw_on0295_01.main.scope
theorem pick {α : Type} {a b : α} (_ : a = b) : True := trivial
noncomputable def f0 : Stmt := by
  refine' (fun (x : Stmt) (_ : atL bodyL 0 = x) => x) _ ?_
  rotate_left
  · conv => lhs; whnf; (try delta PySem.Tok PySem.Addr)
noncomputable def f2m0 : Stmt := by
  refine' (fun (x : Stmt) (_ : atL (clsL (atL bodyL 2)) 0 = x) => x) _ ?_
  rotate_left
  · conv => lhs; whnf; (try delta PySem.Tok PySem.Addr)
noncomputable def f3m0 : Stmt := by
  refine' (fun (x : Stmt) (_ : atL (clsL (atL bodyL 3)) 0 = x) => x) _ ?_
  rotate_left
  · conv => lhs; whnf; (try delta PySem.Tok PySem.Addr)
noncomputable def f4m0 : Stmt := by
  refine' (fun (x : Stmt) (_ : atL (clsL (atL bodyL 4)) 0 = x) => x) _ ?_
  rotate_left
  · conv => lhs; whnf; (try delta PySem.Tok PySem.Addr)
noncomputable def f5m0 : Stmt := by
  refine' (fun (x : Stmt) (_ : atL (clsL (atL bodyL 5)) 0 = x) => x) _ ?_
  rotate_left
  · conv => lhs; whnf; (try delta PySem.Tok PySem.Addr)
noncomputable def f19 : Stmt := by
  refine' (fun (x : Stmt) (_ : atL bodyL 19 = x) => x) _ ?_
  rotate_left
  · conv => lhs; whnf; (try delta PySem.Tok PySem.Addr)
noncomputable def f20 : Stmt := by
  refine' (fun (x : Stmt) (_ : atL bodyL 20 = x) => x) _ ?_
  rotate_left
  · conv => lhs; whnf; (try delta PySem.Tok PySem.Addr)
noncomputable def f21 : Stmt := by
  refine' (fun (x : Stmt) (_ : atL bodyL 21 = x) => x) _ ?_
  rotate_left
  · conv => lhs; whnf; (try delta PySem.Tok PySem.Addr)
noncomputable def f22 : Stmt := by
  refine' (fun (x : Stmt) (_ : atL bodyL 22 = x) => x) _ ?_
  rotate_left
  · conv => lhs; whnf; (try delta PySem.Tok PySem.Addr)
noncomputable def f23 : Stmt := by
  refine' (fun (x : Stmt) (_ : atL bodyL 23 = x) => x) _ ?_
  rotate_left
  · conv => lhs; whnf; (try delta PySem.Tok PySem.Addr)
noncomputable def f24 : Stmt := by
  refine' (fun (x : Stmt) (_ : atL bodyL 24 = x) => x) _ ?_
  rotate_left
  · conv => lhs; whnf; (try delta PySem.Tok PySem.Addr)
noncomputable def f25 : Stmt := by
  refine' (fun (x : Stmt) (_ : atL bodyL 25 = x) => x) _ ?_
  rotate_left
  · conv => lhs; whnf; (try delta PySem.Tok PySem.Addr)
noncomputable def f26 : Stmt := by
  refine' (fun (x : Stmt) (_ : atL bodyL 26 = x) => x) _ ?_
  rotate_left
  · conv => lhs; whnf; (try delta PySem.Tok PySem.Addr)
noncomputable def f27 : Stmt := by
  refine' (fun (x : Stmt) (_ : atL bodyL 27 = x) => x) _ ?_
  rotate_left
  · conv => lhs; whnf; (try delta PySem.Tok PySem.Addr)
noncomputable def f28 : Stmt := by
  refine' (fun (x : Stmt) (_ : atL bodyL 28 = x) => x) _ ?_
  rotate_left
  · conv => lhs; whnf; (try delta PySem.Tok PySem.Addr)
noncomputable def f40m0 : Stmt := by
  refine' (fun (x : Stmt) (_ : atL (clsL (atL bodyL 40)) 0 = x) => x) _ ?_
  rotate_left
  · conv => lhs; whnf; (try delta PySem.Tok PySem.Addr)
noncomputable def f40m1 : Stmt := by
  refine' (fun (x : Stmt) (_ : atL (clsL (atL bodyL 40)) 1 = x) => x) _ ?_
  rotate_left
  · conv => lhs; whnf; (try delta PySem.Tok PySem.Addr)
noncomputable def f40m2 : Stmt := by
  refine' (fun (x : Stmt) (_ : atL (clsL (atL bodyL 40)) 2 = x) => x) _ ?_
  rotate_left
  · conv => lhs; whnf; (try delta PySem.Tok PySem.Addr)
noncomputable def f40m3 : Stmt := by
  refine' (fun (x : Stmt) (_ : atL (clsL (atL bodyL 40)) 3 = x) => x) _ ?_
  rotate_left
  · conv => lhs; whnf; (try delta PySem.Tok PySem.Addr)
noncomputable def f40m4 : Stmt := by
  refine' (fun (x : Stmt) (_ : atL (clsL (atL bodyL 40)) 4 = x) => x) _ ?_
  rotate_left
  · conv => lhs; whnf; (try delta PySem.Tok PySem.Addr)
noncomputable def f40m5 : Stmt := by
  refine' (fun (x : Stmt) (_ : atL (clsL (atL bodyL 40)) 5 = x) => x) _ ?_
  rotate_left
  · conv => lhs; whnf; (try delta PySem.Tok PySem.Addr)
noncomputable def f40m6 : Stmt := by
  refine' (fun (x : Stmt) (_ : atL (clsL (atL bodyL 40)) 6 = x) => x) _ ?_
  rotate_left
  · conv => lhs; whnf; (try delta PySem.Tok PySem.Addr)
noncomputable def f40m7 : Stmt := by
  refine' (fun (x : Stmt) (_ : atL (clsL (atL bodyL 40)) 7 = x) => x) _ ?_
  rotate_left
  · conv => lhs; whnf; (try delta PySem.Tok PySem.Addr)
noncomputable def f40m8 : Stmt := by
  refine' (fun (x : Stmt) (_ : atL (clsL (atL bodyL 40)) 8 = x) => x) _ ?_
  rotate_left
  · conv => lhs; whnf; (try delta PySem.Tok PySem.Addr)
noncomputable def f42m0 : Stmt := by
  refine' (fun (x : Stmt) (_ : atL (clsL (atL bodyL 42)) 0 = x) => x) _ ?_
  rotate_left
  · conv => lhs; whnf; (try delta PySem.Tok PySem.Addr)
noncomputable def f42m1 : Stmt := by
  refine' (fun (x : Stmt) (_ : atL (clsL (atL bodyL 42)) 1 = x) => x) _ ?_
  rotate_left
  · conv => lhs; whnf; (try delta PySem.Tok PySem.Addr)
noncomputable def f42m2 : Stmt := by
  refine' (fun (x : Stmt) (_ : atL (clsL (atL bodyL 42)) 2 = x) => x) _ ?_
  rotate_left
  · conv => lhs; whnf; (try delta PySem.Tok PySem.Addr)
noncomputable def f42m3 : Stmt := by
  refine' (fun (x : Stmt) (_ : atL (clsL (atL bodyL 42)) 3 = x) => x) _ ?_
  rotate_left
  · conv => lhs; whnf; (try delta PySem.Tok PySem.Addr)
noncomputable def f42m4 : Stmt := by
  refine' (fun (x : Stmt) (_ : atL (clsL (atL bodyL 42)) 4 = x) => x) _ ?_
  rotate_left
  · conv => lhs; whnf; (try delta PySem.Tok PySem.Addr)
noncomputable def f42m5 : Stmt := by
  refine' (fun (x : Stmt) (_ : atL (clsL (atL bodyL 42)) 5 = x) => x) _ ?_
  rotate_left
  · conv => lhs; whnf; (try delta PySem.Tok PySem.Addr)
noncomputable def f42m6 : Stmt := by
  refine' (fun (x : Stmt) (_ : atL (clsL (atL bodyL 42)) 6 = x) => x) _ ?_
  rotate_left
  · conv => lhs; whnf; (try delta PySem.Tok PySem.Addr)
noncomputable def f42m7 : Stmt := by
  refine' (fun (x : Stmt) (_ : atL (clsL (atL bodyL 42)) 7 = x) => x) _ ?_
  rotate_left
  · conv => lhs; whnf; (try delta PySem.Tok PySem.Addr)
noncomputable def f42m8 : Stmt := by
  refine' (fun (x : Stmt) (_ : atL (clsL (atL bodyL 42)) 8 = x) => x) _ ?_
  rotate_left
  · conv => lhs; whnf; (try delta PySem.Tok PySem.Addr)
noncomputable def f42m9 : Stmt := by
  refine' (fun (x : Stmt) (_ : atL (clsL (atL bodyL 42)) 9 = x) => x) _ ?_
  rotate_left
  · conv => lhs; whnf; (try delta PySem.Tok PySem.Addr)
noncomputable def f42m10 : Stmt := by
  refine' (fun (x : Stmt) (_ : atL (clsL (atL bodyL 42)) 10 = x) => x) _ ?_
  rotate_left
  · conv => lhs; whnf; (try delta PySem.Tok PySem.Addr)
noncomputable def f42m11 : Stmt := by
  refine' (fun (x : Stmt) (_ : atL (clsL (atL bodyL 42)) 11 = x) => x) _ ?_
  rotate_left
  · conv => lhs; whnf; (try delta PySem.Tok PySem.Addr)
noncomputable def f42m12 : Stmt := by
  refine' (fun (x : Stmt) (_ : atL (clsL (atL bodyL 42)) 12 = x) => x) _ ?_
  rotate_left
  · conv => lhs; whnf; (try delta PySem.Tok PySem.Addr)
noncomputable def f44 : Stmt := by
  refine' (fun (x : Stmt) (_ : atL bodyL 44 = x) => x) _ ?_
  rotate_left
  · conv => lhs; whnf; (try delta PySem.Tok PySem.Addr)
noncomputable def f45 : Stmt := by
  refine' (fun (x : Stmt) (_ : atL bodyL 45 = x) => x) _ ?_
  rotate_left
  · conv => lhs; whnf; (try delta PySem.Tok PySem.Addr)
noncomputable def f46 : Stmt := by
  refine' (fun (x : Stmt) (_ : atL bodyL 46 = x) => x) _ ?_
  rotate_left
  · conv => lhs; whnf; (try delta PySem.Tok PySem.Addr)
noncomputable def f47 : Stmt := by
  refine' (fun (x : Stmt) (_ : atL bodyL 47 = x) => x) _ ?_
  rotate_left
  · conv => lhs; whnf; (try delta PySem.Tok PySem.Addr)
noncomputable def f48 : Stmt := by
  refine' (fun (x : Stmt) (_ : atL bodyL 48 = x) => x) _ ?_
  rotate_left
  · conv => lhs; whnf; (try delta PySem.Tok PySem.Addr)
noncomputable def f49 : Stmt := by
  refine' (fun (x : Stmt) (_ : atL bodyL 49 = x) => x) _ ?_
  rotate_left
  · conv => lhs; whnf; (try delta PySem.Tok PySem.Addr)
noncomputable def f50 : Stmt := by
  refine' (fun (x : Stmt) (_ : atL bodyL 50 = x) => x) _ ?_
  rotate_left
  · conv => lhs; whnf; (try delta PySem.Tok PySem.Addr)
noncomputable def f51 : Stmt := by
  refine' (fun (x : Stmt) (_ : atL bodyL 51 = x) => x) _ ?_
  rotate_left
  · conv => lhs; whnf; (try delta PySem.Tok PySem.Addr)
noncomputable def f52 : Stmt := by
  refine' (fun (x : Stmt) (_ : atL bodyL 52 = x) => x) _ ?_
  rotate_left
  · conv => lhs; whnf; (try delta PySem.Tok PySem.Addr)
noncomputable def f53 : Stmt := by
  refine' (fun (x : Stmt) (_ : atL bodyL 53 = x) => x) _ ?_
  rotate_left
  · conv => lhs; whnf; (try delta PySem.Tok PySem.Addr)
noncomputable def f54 : Stmt := by
  refine' (fun (x : Stmt) (_ : atL bodyL 54 = x) => x) _ ?_
  rotate_left
  · conv => lhs; whnf; (try delta PySem.Tok PySem.Addr)
noncomputable def f55 : Stmt := by
  refine' (fun (x : Stmt) (_ : atL bodyL 55 = x) => x) _ ?_
  rotate_left
  · conv => lhs; whnf; (try delta PySem.Tok PySem.Addr)
noncomputable def o47 : Params → Obj := fun P0 => (Obj.mk Value.none (none : Option Nat) (Data.dict #[(DictEntry.mk (PyData.keyHash P0 "type.__subclasses__.Exception.0") (Value.str "type.__subclasses__.Exception.0" (223 : Nat)) (Value.int 38 (0 : Nat))), (DictEntry.mk (PyData.keyHash P0 "type.__subclasses__.Exception.n") (Value.str "type.__subclasses__.Exception.n" (224 : Nat)) (Value.int 2 (0 : Nat))), (DictEntry.mk (PyData.keyHash P0 "type.__subclasses__.Exception.1") (Value.str "type.__subclasses__.Exception.1" (308 : Nat)) (Value.int 96 (0 : Nat)))] (3 : Nat)) #[])
noncomputable def o48 : Params → Obj := fun P0 => (Obj.mk (Value.type "dict") (none : Option Nat) (Data.dict (List.toArray ((DictEntry.mk (PyData.keyHash P0 "__name__") (Value.str "__name__" (165 : Nat)) (Value.str "law_on0295_01" (704 : Nat))) :: (DictEntry.mk (PyData.keyHash P0 "__doc__") (Value.str "__doc__" (166 : Nat)) Value.none) :: (DictEntry.mk (PyData.keyHash P0 "__package__") (Value.str "__package__" (167 : Nat)) Value.none) :: (DictEntry.mk (PyData.keyHash P0 "__loader__") (Value.str "__loader__" (168 : Nat)) (Value.builtin "__main__.__loader__#opaque")) :: (DictEntry.mk (PyData.keyHash P0 "__spec__") (Value.str "__spec__" (169 : Nat)) Value.none) :: (DictEntry.mk (PyData.keyHash P0 "__annotations__") (Value.str "__annotations__" (170 : Nat)) (Value.ref (6 : Nat))) :: (DictEntry.mk (PyData.keyHash P0 "__builtins__") (Value.str "__builtins__" (171 : Nat)) (Value.ref (4 : Nat))) :: (DictEntry.mk (PyData.keyHash P0 "__file__") (Value.str "__file__" (173 : Nat)) (Value.str "/claim/cut.py" (172 : Nat))) :: (DictEntry.mk (PyData.keyHash P0 "__cached__") (Value.str "__cached__" (174 : Nat)) Value.none) :: (DictEntry.mk (PyData.keyHash P0 "_wall") (Value.str "_wall" (193 : Nat)) (Value.ref (21 : Nat))) :: (DictEntry.mk (PyData.keyHash P0 "SchemeError") (Value.str "SchemeError" (226 : Nat)) (Value.ref (38 : Nat))) :: (DictEntry.mk (PyData.keyHash P0 "WrongArity") (Value.str "WrongArity" (253 : Nat)) (Value.ref (58 : Nat))) :: (DictEntry.mk (PyData.keyHash P0 "WrongKind") (Value.str "WrongKind" (282 : Nat)) (Value.ref (77 : Nat))) :: (DictEntry.mk (PyData.keyHash P0 "MachineFault") (Value.str "MachineFault" (311 : Nat)) (Value.ref (96 : Nat))) :: (DictEntry.mk (PyData.keyHash P0 "FIX") (Value.str "FIX" (315 : Nat)) (Value.int 0 (314 : Nat))) :: (DictEntry.mk (PyData.keyHash P0 "REF") (Value.str "REF" (317 : Nat)) (Value.int 1 (316 : Nat))) :: (DictEntry.mk (PyData.keyHash P0 "CONSTANT") (Value.str "CONSTANT" (319 : Nat)) (Value.int 4 (318 : Nat))) :: (DictEntry.mk (PyData.keyHash P0 "HEADER") (Value.str "HEADER" (321 : Nat)) (Value.int 5 (320 : Nat))) :: (DictEntry.mk (PyData.keyHash P0 "TAGS") (Value.str "TAGS" (323 : Nat)) (Value.int 8 (322 : Nat))) :: (DictEntry.mk (PyData.keyHash P0 "FALSE") (Value.str "FALSE" (327 : Nat)) (Value.int 4 (326 : Nat))) :: (DictEntry.mk (PyData.keyHash P0 "TRUE") (Value.str "TRUE" (331 : Nat)) (Value.int 12 (330 : Nat))) :: (DictEntry.mk (PyData.keyHash P0 "EMPTY_LIST") (Value.str "EMPTY_LIST" (335 : Nat)) (Value.int 20 (334 : Nat))) :: (DictEntry.mk (PyData.keyHash P0 "UNSPECIFIED_WORD") (Value.str "UNSPECIFIED_WORD" (339 : Nat)) (Value.int 28 (338 : Nat))) :: (DictEntry.mk (PyData.keyHash P0 "PAIR") (Value.str "PAIR" (341 : Nat)) (Value.int 0 (340 : Nat))) :: (DictEntry.mk (PyData.keyHash P0 "BOX") (Value.str "BOX" (343 : Nat)) (Value.int 4 (342 : Nat))) :: (DictEntry.mk (PyData.keyHash P0 "KINDS") (Value.str "KINDS" (345 : Nat)) (Value.int 16 (344 : Nat))) :: (DictEntry.mk (PyData.keyHash P0 "payload_of") (Value.str "payload_of" (352 : Nat)) (Value.ref (106 : Nat))) :: (DictEntry.mk (PyData.keyHash P0 "fix") (Value.str "fix" (359 : Nat)) (Value.ref (113 : Nat))) :: (DictEntry.mk (PyData.keyHash P0 "ref") (Value.str "ref" (366 : Nat)) (Value.ref (120 : Nat))) :: (DictEntry.mk (PyData.keyHash P0 "boolean_word") (Value.str "boolean_word" (373 : Nat)) (Value.ref (127 : Nat))) :: (DictEntry.mk (PyData.keyHash P0 "header_word") (Value.str "header_word" (381 : Nat)) (Value.ref (134 : Nat))) :: (DictEntry.mk (PyData.keyHash P0 "is_fix") (Value.str "is_fix" (388 : Nat)) (Value.ref (141 : Nat))) :: (DictEntry.mk (PyData.keyHash P0 "is_ref") (Value.str "is_ref" (395 : Nat)) (Value.ref (148 : Nat))) :: (DictEntry.mk (PyData.keyHash P0 "is_header") (Value.str "is_header" (402 : Nat)) (Value.ref (155 : Nat))) :: (DictEntry.mk (PyData.keyHash P0 "header_kind") (Value.str "header_kind" (409 : Nat)) (Value.ref (162 : Nat))) :: (DictEntry.mk (PyData.keyHash P0 "header_length") (Value.str "header_length" (416 : Nat)) (Value.ref (169 : Nat))) :: (DictEntry.mk (PyData.keyHash P0 "ADD") (Value.str "ADD" (420 : Nat)) (Value.int 0 (419 : Nat))) :: (DictEntry.mk (PyData.keyHash P0 "LESS") (Value.str "LESS" (422 : Nat)) (Value.int 2 (421 : Nat))) :: (DictEntry.mk (PyData.keyHash P0 "SAME") (Value.str "SAME" (424 : Nat)) (Value.int 3 (423 : Nat))) :: (DictEntry.mk (PyData.keyHash P0 "CONS") (Value.str "CONS" (426 : Nat)) (Value.int 4 (425 : Nat))) :: (DictEntry.mk (PyData.keyHash P0 "CAR") (Value.str "CAR" (428 : Nat)) (Value.int 5 (427 : Nat))) :: (DictEntry.mk (PyData.keyHash P0 "CDR") (Value.str "CDR" (430 : Nat)) (Value.int 6 (429 : Nat))) :: (DictEntry.mk (PyData.keyHash P0 "SET_CDR") (Value.str "SET_CDR" (432 : Nat)) (Value.int 8 (431 : Nat))) :: (DictEntry.mk (PyData.keyHash P0 "MAKE_BOX") (Value.str "MAKE_BOX" (434 : Nat)) (Value.int 9 (433 : Nat))) :: (DictEntry.mk (PyData.keyHash P0 "OPEN_BOX") (Value.str "OPEN_BOX" (436 : Nat)) (Value.int 10 (435 : Nat))) :: (DictEntry.mk (PyData.keyHash P0 "SMALL_ROWS") (Value.str "SMALL_ROWS" (461 : Nat)) (Value.ref (182 : Nat))) :: (DictEntry.mk (PyData.keyHash P0 "SmallLibrary") (Value.str "SmallLibrary" (567 : Nat)) (Value.ref (255 : Nat))) :: (DictEntry.mk (PyData.keyHash P0 "Heap") (Value.str "Heap" (703 : Nat)) (Value.ref (360 : Nat))) :: (DictEntry.mk (PyData.keyHash P0 "_law_deck") (Value.str "_law_deck" (711 : Nat)) (Value.ref (369 : Nat))) :: (DictEntry.mk (PyData.keyHash P0 "_law_draw") (Value.str "_law_draw" (720 : Nat)) (Value.ref (376 : Nat))) :: (DictEntry.mk (PyData.keyHash P0 "_law_one") (Value.str "_law_one" (728 : Nat)) (Value.ref (383 : Nat))) :: (DictEntry.mk (PyData.keyHash P0 "_law_word") (Value.str "_law_word" (734 : Nat)) (Value.ref (388 : Nat))) :: (DictEntry.mk (PyData.keyHash P0 "_law_kind") (Value.str "_law_kind" (741 : Nat)) (Value.ref (395 : Nat))) :: (DictEntry.mk (PyData.keyHash P0 "_law_reckoned") (Value.str "_law_reckoned" (752 : Nat)) (Value.ref (402 : Nat))) :: (DictEntry.mk (PyData.keyHash P0 "_law_due") (Value.str "_law_due" (764 : Nat)) (Value.ref (409 : Nat))) :: (DictEntry.mk (PyData.keyHash P0 "_law_called") (Value.str "_law_called" (774 : Nat)) (Value.ref (416 : Nat))) :: (DictEntry.mk (PyData.keyHash P0 "_law_spread") (Value.str "_law_spread" (783 : Nat)) (Value.ref (423 : Nat))) :: (DictEntry.mk (PyData.keyHash P0 "_law_items") (Value.str "_law_items" (789 : Nat)) (Value.ref (428 : Nat))) :: (DictEntry.mk (PyData.keyHash P0 "_law_is_whole") (Value.str "_law_is_whole" (795 : Nat)) (Value.ref (433 : Nat))) :: (DictEntry.mk (PyData.keyHash P0 "law") (Value.str "law" (801 : Nat)) (Value.ref (438 : Nat))) :: [])) (60 : Nat)) #[])
noncomputable def o43 : Params → Obj := fun P0 => (Obj.mk (Value.type "tuple") (none : Option Nat) (Data.seq #[] (0 : Nat)) #[])
noncomputable def o49 : Params → Obj := fun P0 => (Obj.mk Value.none (none : Option Nat) (Data.fields (List.toArray ((Value.int 1 (0 : Nat)) :: (Value.int 0 (0 : Nat)) :: (Value.ref (20 : Nat)) :: (Value.int 5 (0 : Nat)) :: (Value.int 0 (0 : Nat)) :: (Value.ref (27 : Nat)) :: (Value.int 10 (0 : Nat)) :: (Value.int 0 (0 : Nat)) :: (Value.ref (47 : Nat)) :: (Value.int 16 (0 : Nat)) :: (Value.int 0 (0 : Nat)) :: (Value.ref (66 : Nat)) :: (Value.int 23 (0 : Nat)) :: (Value.int 0 (0 : Nat)) :: (Value.ref (85 : Nat)) :: (Value.int 40 (0 : Nat)) :: (Value.int 0 (0 : Nat)) :: (Value.ref (105 : Nat)) :: (Value.int 42 (0 : Nat)) :: (Value.int 0 (0 : Nat)) :: (Value.ref (112 : Nat)) :: (Value.int 44 (0 : Nat)) :: (Value.int 0 (0 : Nat)) :: (Value.ref (119 : Nat)) :: (Value.int 46 (0 : Nat)) :: (Value.int 0 (0 : Nat)) :: (Value.ref (126 : Nat)) :: (Value.int 48 (0 : Nat)) :: (Value.int 0 (0 : Nat)) :: (Value.ref (133 : Nat)) :: (Value.int 50 (0 : Nat)) :: (Value.int 0 (0 : Nat)) :: (Value.ref (140 : Nat)) :: (Value.int 52 (0 : Nat)) :: (Value.int 0 (0 : Nat)) :: (Value.ref (147 : Nat)) :: (Value.int 54 (0 : Nat)) :: (Value.int 0 (0 : Nat)) :: (Value.ref (154 : Nat)) :: (Value.int 56 (0 : Nat)) :: (Value.int 0 (0 : Nat)) :: (Value.ref (161 : Nat)) :: (Value.int 58 (0 : Nat)) :: (Value.int 0 (0 : Nat)) :: (Value.ref (168 : Nat)) :: (Value.int 71 (0 : Nat)) :: (Value.int 0 (0 : Nat)) :: (Value.ref (188 : Nat)) :: (Value.int 134 (0 : Nat)) :: (Value.int 0 (0 : Nat)) :: (Value.ref (265 : Nat)) :: (Value.int 187 (0 : Nat)) :: (Value.int 0 (0 : Nat)) :: (Value.ref (368 : Nat)) :: (Value.int 192 (0 : Nat)) :: (Value.int 0 (0 : Nat)) :: (Value.ref (375 : Nat)) :: (Value.int 201 (0 : Nat)) :: (Value.int 0 (0 : Nat)) :: (Value.ref (382 : Nat)) :: (Value.int 203 (0 : Nat)) :: (Value.int 0 (0 : Nat)) :: (Value.ref (387 : Nat)) :: (Value.int 211 (0 : Nat)) :: (Value.int 0 (0 : Nat)) :: (Value.ref (394 : Nat)) :: (Value.int 215 (0 : Nat)) :: (Value.int 0 (0 : Nat)) :: (Value.ref (401 : Nat)) :: (Value.int 221 (0 : Nat)) :: (Value.int 0 (0 : Nat)) :: (Value.ref (408 : Nat)) :: (Value.int 239 (0 : Nat)) :: (Value.int 0 (0 : Nat)) :: (Value.ref (415 : Nat)) :: (Value.int 248 (0 : Nat)) :: (Value.int 0 (0 : Nat)) :: (Value.ref (422 : Nat)) :: (Value.int 253 (0 : Nat)) :: (Value.int 0 (0 : Nat)) :: (Value.ref (427 : Nat)) :: (Value.int 262 (0 : Nat)) :: (Value.int 0 (0 : Nat)) :: (Value.ref (432 : Nat)) :: (Value.int 268 (0 : Nat)) :: (Value.int 0 (0 : Nat)) :: (Value.ref (437 : Nat)) :: []))) #[])
noncomputable def o45 : Params → Obj := fun P0 => (Obj.mk (Value.type "code") (none : Option Nat) (Data.fields #[(Value.str "<module>" (182 : Nat)), (Value.str "<module>" (183 : Nat)), (Value.str "/claim/cut.py" (184 : Nat)), (Value.int 1 (0 : Nat)), (Value.int 0 (0 : Nat)), (Value.int 0 (0 : Nat)), (Value.int 0 (0 : Nat)), (Value.int 0 (0 : Nat)), (Value.ref (11 : Nat)), (Value.bool Bool.false), (Value.int 181 (0 : Nat)), (Value.ref (12 : Nat)), Value.none, Value.none, Value.none, Value.none, (Value.int 185 (0 : Nat)), (Value.int 1 (0 : Nat)), (Value.str "/claim/cut.py" (186 : Nat))]) #[])
noncomputable def o46 : Params → Obj := fun P0 => (Obj.mk (Value.type "frame") (none : Option Nat) Data.plain #[(some (Value.ref (13 : Nat))), (some (Value.ref (3 : Nat))), (some (Value.ref (3 : Nat))), none, (some (Value.str "__main__" (164 : Nat))), none, (some (Value.ref (0 : Nat)))])
noncomputable def o50 : Params → Obj := fun P0 => (Obj.mk (Value.type "tuple") (none : Option Nat) (Data.seq #[] (0 : Nat)) #[])
noncomputable def o51 : Params → Obj := fun P0 => (Obj.mk Value.none (none : Option Nat) (Data.fields #[]) #[])
noncomputable def o52 : Params → Obj := fun P0 => (Obj.mk (Value.type "tuple") (none : Option Nat) (Data.seq #[(Value.str "k" (190 : Nat))] (0 : Nat)) #[])
noncomputable def o53 : Params → Obj := fun P0 => (Obj.mk (Value.type "tuple") (none : Option Nat) (Data.seq #[] (0 : Nat)) #[])
noncomputable def o54 : Params → Obj := by
  intro P0
  refine' (fun (x : Obj) (_ : (Obj.mk Value.none (none : Option Nat) (Data.func (FuncData.mk "_wall" "_wall" (fA f0) (FuncBody.stmts (fB f0)) (fC f0) (0 : Nat) (@List.nil (Prod Str Nat)) Value.none Value.none Value.none Value.none (none : Option Nat) Value.none Value.none (0 : Nat))) #[]) = x) => x) _ ?_
  rotate_left
  · exact (rfl : (Obj.mk Value.none (none : Option Nat) (Data.func (FuncData.mk "_wall" "_wall" (Arguments.mk _ _ _ _ _ _ _) (FuncBody.stmts (_ :: _)) (Scope.mk _ _ _ _ _) (0 : Nat) (@List.nil (Prod Str Nat)) Value.none Value.none Value.none Value.none (none : Option Nat) Value.none Value.none (0 : Nat))) #[]) = _)
noncomputable def o55 : Params → Obj := fun P0 => (Obj.mk (Value.type "code") (none : Option Nat) (Data.fields #[(Value.str "_wall" (187 : Nat)), (Value.str "_wall" (188 : Nat)), (Value.str "/claim/cut.py" (189 : Nat)), (Value.int 1 (0 : Nat)), (Value.int 1 (0 : Nat)), (Value.int 0 (0 : Nat)), (Value.int 0 (0 : Nat)), (Value.int 3 (0 : Nat)), (Value.ref (15 : Nat)), (Value.bool Bool.true), (Value.int 181 (0 : Nat)), (Value.ref (16 : Nat)), Value.none, (Value.ref (17 : Nat)), (Value.ref (18 : Nat)), (Value.ref (19 : Nat)), (Value.int 191 (0 : Nat)), (Value.int 1 (0 : Nat)), (Value.str "/claim/cut.py" (192 : Nat))]) #[])
noncomputable def o56 : Params → Obj := by
  intro P0
  refine' (fun (x : Obj) (_ : (Obj.mk (Value.type "function") (none : Option Nat) (Data.func (FuncData.mk "_wall" "_wall" (fA f0) (FuncBody.stmts (fB f0)) (fC f0) (3 : Nat) (@List.nil (Prod Str Nat)) Value.none Value.none Value.none (Value.str "__main__" (164 : Nat)) (none : Option Nat) (Value.ref (20 : Nat)) Value.none (0 : Nat))) #[]) = x) => x) _ ?_
  rotate_left
  · exact (rfl : (Obj.mk (Value.type "function") (none : Option Nat) (Data.func (FuncData.mk "_wall" "_wall" (Arguments.mk _ _ _ _ _ _ _) (FuncBody.stmts (_ :: _)) (Scope.mk _ _ _ _ _) (3 : Nat) (@List.nil (Prod Str Nat)) Value.none Value.none Value.none (Value.str "__main__" (164 : Nat)) (none : Option Nat) (Value.ref (20 : Nat)) Value.none (0 : Nat))) #[]) = _)
noncomputable def o57 : Params → Obj := fun P0 => (Obj.mk (Value.type "tuple") (none : Option Nat) (Data.seq #[(Value.type "Exception")] (0 : Nat)) #[])
noncomputable def o58 : Params → Obj := fun P0 => (Obj.mk (Value.type "builtin_function_or_method") (none : Option Nat) (Data.fields #[(Value.builtin "type.__prepare__"), (Value.type "type")]) #[])
noncomputable def o59 : Params → Obj := fun P0 => (Obj.mk (Value.type "dict") (none : Option Nat) (Data.dict #[(DictEntry.mk (PyData.keyHash P0 "__module__") (Value.str "__module__" (203 : Nat)) (Value.str "scheme.errors" (194 : Nat))), (DictEntry.mk (PyData.keyHash P0 "__qualname__") (Value.str "__qualname__" (205 : Nat)) (Value.str "SchemeError" (204 : Nat))), (DictEntry.mk (PyData.keyHash P0 "__firstlineno__") (Value.str "__firstlineno__" (207 : Nat)) (Value.int 5 (206 : Nat))), (DictEntry.mk (PyData.keyHash P0 "__init__") (Value.str "__init__" (216 : Nat)) (Value.ref (35 : Nat))), (DictEntry.mk (PyData.keyHash P0 "__static_attributes__") (Value.str "__static_attributes__" (219 : Nat)) (Value.ref (36 : Nat)))] (5 : Nat)) #[])
noncomputable def o60 : Params → Obj := fun P0 => (Obj.mk (Value.type "tuple") (none : Option Nat) (Data.seq #[] (0 : Nat)) #[])
noncomputable def o61 : Params → Obj := fun P0 => (Obj.mk Value.none (none : Option Nat) (Data.fields #[(Value.int 7 (0 : Nat)), (Value.int 4 (0 : Nat)), (Value.ref (34 : Nat))]) #[])
noncomputable def o62 : Params → Obj := fun P0 => (Obj.mk (Value.type "code") (none : Option Nat) (Data.fields #[(Value.str "SchemeError" (198 : Nat)), (Value.str "SchemeError" (199 : Nat)), (Value.str "/claim/cut.py" (200 : Nat)), (Value.int 5 (0 : Nat)), (Value.int 0 (0 : Nat)), (Value.int 0 (0 : Nat)), (Value.int 0 (0 : Nat)), (Value.int 0 (0 : Nat)), (Value.ref (25 : Nat)), (Value.bool Bool.false), (Value.int 181 (0 : Nat)), (Value.ref (26 : Nat)), Value.none, Value.none, Value.none, Value.none, (Value.int 201 (0 : Nat)), (Value.int 5 (0 : Nat)), (Value.str "/claim/cut.py" (202 : Nat))]) #[])
noncomputable def o63 : Params → Obj := fun P0 => (Obj.mk (Value.type "frame") (none : Option Nat) Data.plain #[(some (Value.ref (27 : Nat))), (some (Value.ref (3 : Nat))), (some (Value.ref (24 : Nat))), none, (some (Value.str "scheme.errors" (194 : Nat))), none, (some (Value.ref (0 : Nat)))])
noncomputable def o64 : Params → Obj := fun P0 => (Obj.mk (Value.type "tuple") (none : Option Nat) (Data.seq #[] (0 : Nat)) #[])
noncomputable def o65 : Params → Obj := fun P0 => (Obj.mk Value.none (none : Option Nat) (Data.fields #[]) #[])
noncomputable def o66 : Params → Obj := fun P0 => (Obj.mk (Value.type "tuple") (none : Option Nat) (Data.seq #[(Value.str "self" (211 : Nat)), (Value.str "word" (212 : Nat)), (Value.str "irritants" (213 : Nat))] (0 : Nat)) #[])
noncomputable def o67 : Params → Obj := fun P0 => (Obj.mk (Value.type "tuple") (none : Option Nat) (Data.seq #[] (0 : Nat)) #[])
noncomputable def o68 : Params → Obj := by
  intro P0
  refine' (fun (x : Obj) (_ : (Obj.mk Value.none (none : Option Nat) (Data.func (FuncData.mk "__init__" "SchemeError.__init__" (fA f2m0) (FuncBody.stmts (fB f2m0)) (fC f2m0) (0 : Nat) (@List.nil (Prod Str Nat)) Value.none Value.none Value.none Value.none (none : Option Nat) Value.none Value.none (0 : Nat))) #[]) = x) => x) _ ?_
  rotate_left
  · exact (rfl : (Obj.mk Value.none (none : Option Nat) (Data.func (FuncData.mk "__init__" "SchemeError.__init__" (Arguments.mk _ _ _ _ _ _ _) (FuncBody.stmts (_ :: _)) (Scope.mk _ _ _ _ _) (0 : Nat) (@List.nil (Prod Str Nat)) Value.none Value.none Value.none Value.none (none : Option Nat) Value.none Value.none (0 : Nat))) #[]) = _)
noncomputable def o69 : Params → Obj := fun P0 => (Obj.mk (Value.type "code") (none : Option Nat) (Data.fields #[(Value.str "__init__" (208 : Nat)), (Value.str "SchemeError.__init__" (209 : Nat)), (Value.str "/claim/cut.py" (210 : Nat)), (Value.int 7 (0 : Nat)), (Value.int 3 (0 : Nat)), (Value.int 0 (0 : Nat)), (Value.int 0 (0 : Nat)), (Value.int 3 (0 : Nat)), (Value.ref (29 : Nat)), (Value.bool Bool.true), (Value.int 181 (0 : Nat)), (Value.ref (30 : Nat)), Value.none, (Value.ref (31 : Nat)), (Value.ref (32 : Nat)), (Value.ref (33 : Nat)), (Value.int 214 (0 : Nat)), (Value.int 7 (0 : Nat)), (Value.str "/claim/cut.py" (215 : Nat))]) #[])
noncomputable def o70 : Params → Obj := by
  intro P0
  refine' (fun (x : Obj) (_ : (Obj.mk (Value.type "function") (none : Option Nat) (Data.func (FuncData.mk "__init__" "SchemeError.__init__" (fA f2m0) (FuncBody.stmts (fB f2m0)) (fC f2m0) (3 : Nat) (@List.nil (Prod Str Nat)) Value.none Value.none Value.none (Value.str "scheme.errors" (194 : Nat)) (none : Option Nat) (Value.ref (34 : Nat)) Value.none (0 : Nat))) #[]) = x) => x) _ ?_
  rotate_left
  · exact (rfl : (Obj.mk (Value.type "function") (none : Option Nat) (Data.func (FuncData.mk "__init__" "SchemeError.__init__" (Arguments.mk _ _ _ _ _ _ _) (FuncBody.stmts (_ :: _)) (Scope.mk _ _ _ _ _) (3 : Nat) (@List.nil (Prod Str Nat)) Value.none Value.none Value.none (Value.str "scheme.errors" (194 : Nat)) (none : Option Nat) (Value.ref (34 : Nat)) Value.none (0 : Nat))) #[]) = _)
noncomputable def o71 : Params → Obj := fun P0 => (Obj.mk (Value.type "tuple") (none : Option Nat) (Data.seq #[(Value.str "irritants" (217 : Nat)), (Value.str "word" (218 : Nat))] (0 : Nat)) #[])
noncomputable def o72 : Params → Obj := fun P0 => (Obj.mk (Value.type "dict") (none : Option Nat) (Data.dict #[(DictEntry.mk (PyData.keyHash P0 "__module__") (Value.str "__module__" (203 : Nat)) (Value.str "scheme.errors" (194 : Nat))), (DictEntry.mk (PyData.keyHash P0 "__firstlineno__") (Value.str "__firstlineno__" (207 : Nat)) (Value.int 5 (206 : Nat))), (DictEntry.mk (PyData.keyHash P0 "__init__") (Value.str "__init__" (216 : Nat)) (Value.ref (35 : Nat))), (DictEntry.mk (PyData.keyHash P0 "__static_attributes__") (Value.str "__static_attributes__" (219 : Nat)) (Value.ref (36 : Nat))), (DictEntry.mk (PyData.keyHash P0 "__weakref__") (Value.str "__weakref__" (221 : Nat)) (Value.ref (39 : Nat))), (DictEntry.mk (PyData.keyHash P0 "__doc__") (Value.str "__doc__" (222 : Nat)) Value.none)] (3 : Nat)) #[])
noncomputable def o73 : Params → Obj := fun P0 => (Obj.mk (Value.type "type") (none : Option Nat) (Data.cls (ClassData.mk "SchemeError" [(Value.type "Exception")] [(Value.ref (38 : Nat)), (Value.type "Exception"), (Value.type "BaseException"), (Value.type "object")] (37 : Nat) "SchemeError" Bool.true [] [(Value.ref (58 : Nat)), (Value.ref (77 : Nat))] Bool.false none Bool.false)) #[(some (Value.ref (22 : Nat))), none, (some (Value.str "SchemeError" (196 : Nat))), (some (Value.str "SchemeError" (204 : Nat))), (some (Value.builtin "Exception.__new__")), (some (Value.bool Bool.true))])
noncomputable def o74 : Params → Obj := fun P0 => (Obj.mk (Value.type "getset_descriptor") (none : Option Nat) (Data.fields #[(Value.str "__weakref__" (220 : Nat)), (Value.ref (38 : Nat)), (Value.builtin "ExceptionGroup.__weakref__"), Value.none]) #[])
noncomputable def o75 : Params → Obj := fun P0 => (Obj.mk (Value.type "super") (none : Option Nat) (Data.fields #[(Value.ref (38 : Nat)), (Value.ref (38 : Nat)), (Value.ref (38 : Nat))]) #[])
noncomputable def o76 : Params → Obj := fun P0 => (Obj.mk (Value.type "builtin_function_or_method") (none : Option Nat) (Data.fields #[(Value.builtin "object.__init_subclass__"), (Value.ref (38 : Nat))]) #[])
noncomputable def o77 : Params → Obj := fun P0 => (Obj.mk (Value.type "tuple") (none : Option Nat) (Data.seq #[(Value.ref (38 : Nat))] (0 : Nat)) #[])
noncomputable def o78 : Params → Obj := fun P0 => (Obj.mk (Value.type "builtin_function_or_method") (none : Option Nat) (Data.fields #[(Value.builtin "type.__prepare__"), (Value.type "type")]) #[])
noncomputable def o79 : Params → Obj := fun P0 => (Obj.mk (Value.type "dict") (none : Option Nat) (Data.dict #[(DictEntry.mk (PyData.keyHash P0 "__module__") (Value.str "__module__" (234 : Nat)) (Value.str "scheme.errors" (194 : Nat))), (DictEntry.mk (PyData.keyHash P0 "__qualname__") (Value.str "__qualname__" (236 : Nat)) (Value.str "WrongArity" (235 : Nat))), (DictEntry.mk (PyData.keyHash P0 "__firstlineno__") (Value.str "__firstlineno__" (238 : Nat)) (Value.int 10 (237 : Nat))), (DictEntry.mk (PyData.keyHash P0 "__init__") (Value.str "__init__" (247 : Nat)) (Value.ref (55 : Nat))), (DictEntry.mk (PyData.keyHash P0 "__static_attributes__") (Value.str "__static_attributes__" (250 : Nat)) (Value.ref (56 : Nat)))] (5 : Nat)) #[])
noncomputable def o80 : Params → Obj := fun P0 => (Obj.mk (Value.type "tuple") (none : Option Nat) (Data.seq #[] (0 : Nat)) #[])
noncomputable def o81 : Params → Obj := fun P0 => (Obj.mk Value.none (none : Option Nat) (Data.fields #[(Value.int 12 (0 : Nat)), (Value.int 4 (0 : Nat)), (Value.ref (54 : Nat))]) #[])
noncomputable def o82 : Params → Obj := fun P0 => (Obj.mk (Value.type "code") (none : Option Nat) (Data.fields #[(Value.str "WrongArity" (229 : Nat)), (Value.str "WrongArity" (230 : Nat)), (Value.str "/claim/cut.py" (231 : Nat)), (Value.int 10 (0 : Nat)), (Value.int 0 (0 : Nat)), (Value.int 0 (0 : Nat)), (Value.int 0 (0 : Nat)), (Value.int 0 (0 : Nat)), (Value.ref (45 : Nat)), (Value.bool Bool.false), (Value.int 181 (0 : Nat)), (Value.ref (46 : Nat)), Value.none, Value.none, Value.none, Value.none, (Value.int 232 (0 : Nat)), (Value.int 10 (0 : Nat)), (Value.str "/claim/cut.py" (233 : Nat))]) #[])
noncomputable def o83 : Params → Obj := fun P0 => (Obj.mk (Value.type "frame") (none : Option Nat) Data.plain #[(some (Value.ref (47 : Nat))), (some (Value.ref (3 : Nat))), (some (Value.ref (44 : Nat))), none, (some (Value.str "scheme.errors" (194 : Nat))), none, (some (Value.ref (0 : Nat)))])
noncomputable def o84 : Params → Obj := fun P0 => (Obj.mk (Value.type "tuple") (none : Option Nat) (Data.seq #[] (0 : Nat)) #[])
noncomputable def o85 : Params → Obj := fun P0 => (Obj.mk Value.none (none : Option Nat) (Data.fields #[]) #[])
noncomputable def o86 : Params → Obj := fun P0 => (Obj.mk (Value.type "tuple") (none : Option Nat) (Data.seq #[(Value.str "self" (242 : Nat)), (Value.str "title" (243 : Nat)), (Value.str "many" (244 : Nat))] (0 : Nat)) #[])
noncomputable def o87 : Params → Obj := fun P0 => (Obj.mk (Value.type "tuple") (none : Option Nat) (Data.seq #[] (0 : Nat)) #[])
noncomputable def o88 : Params → Obj := by
  intro P0
  refine' (fun (x : Obj) (_ : (Obj.mk Value.none (none : Option Nat) (Data.func (FuncData.mk "__init__" "WrongArity.__init__" (fA f3m0) (FuncBody.stmts (fB f3m0)) (fC f3m0) (0 : Nat) (@List.nil (Prod Str Nat)) Value.none Value.none Value.none Value.none (none : Option Nat) Value.none Value.none (0 : Nat))) #[]) = x) => x) _ ?_
  rotate_left
  · exact (rfl : (Obj.mk Value.none (none : Option Nat) (Data.func (FuncData.mk "__init__" "WrongArity.__init__" (Arguments.mk _ _ _ _ _ _ _) (FuncBody.stmts (_ :: _)) (Scope.mk _ _ _ _ _) (0 : Nat) (@List.nil (Prod Str Nat)) Value.none Value.none Value.none Value.none (none : Option Nat) Value.none Value.none (0 : Nat))) #[]) = _)
noncomputable def o89 : Params → Obj := fun P0 => (Obj.mk (Value.type "code") (none : Option Nat) (Data.fields #[(Value.str "__init__" (239 : Nat)), (Value.str "WrongArity.__init__" (240 : Nat)), (Value.str "/claim/cut.py" (241 : Nat)), (Value.int 12 (0 : Nat)), (Value.int 3 (0 : Nat)), (Value.int 0 (0 : Nat)), (Value.int 0 (0 : Nat)), (Value.int 3 (0 : Nat)), (Value.ref (49 : Nat)), (Value.bool Bool.true), (Value.int 181 (0 : Nat)), (Value.ref (50 : Nat)), Value.none, (Value.ref (51 : Nat)), (Value.ref (52 : Nat)), (Value.ref (53 : Nat)), (Value.int 245 (0 : Nat)), (Value.int 12 (0 : Nat)), (Value.str "/claim/cut.py" (246 : Nat))]) #[])
noncomputable def o90 : Params → Obj := by
  intro P0
  refine' (fun (x : Obj) (_ : (Obj.mk (Value.type "function") (none : Option Nat) (Data.func (FuncData.mk "__init__" "WrongArity.__init__" (fA f3m0) (FuncBody.stmts (fB f3m0)) (fC f3m0) (3 : Nat) (@List.nil (Prod Str Nat)) Value.none Value.none Value.none (Value.str "scheme.errors" (194 : Nat)) (none : Option Nat) (Value.ref (54 : Nat)) Value.none (0 : Nat))) #[]) = x) => x) _ ?_
  rotate_left
  · exact (rfl : (Obj.mk (Value.type "function") (none : Option Nat) (Data.func (FuncData.mk "__init__" "WrongArity.__init__" (Arguments.mk _ _ _ _ _ _ _) (FuncBody.stmts (_ :: _)) (Scope.mk _ _ _ _ _) (3 : Nat) (@List.nil (Prod Str Nat)) Value.none Value.none Value.none (Value.str "scheme.errors" (194 : Nat)) (none : Option Nat) (Value.ref (54 : Nat)) Value.none (0 : Nat))) #[]) = _)
noncomputable def o91 : Params → Obj := fun P0 => (Obj.mk (Value.type "tuple") (none : Option Nat) (Data.seq #[(Value.str "many" (248 : Nat)), (Value.str "title" (249 : Nat))] (0 : Nat)) #[])
noncomputable def o92 : Params → Obj := fun P0 => (Obj.mk (Value.type "dict") (none : Option Nat) (Data.dict #[(DictEntry.mk (PyData.keyHash P0 "__module__") (Value.str "__module__" (234 : Nat)) (Value.str "scheme.errors" (194 : Nat))), (DictEntry.mk (PyData.keyHash P0 "__firstlineno__") (Value.str "__firstlineno__" (238 : Nat)) (Value.int 10 (237 : Nat))), (DictEntry.mk (PyData.keyHash P0 "__init__") (Value.str "__init__" (247 : Nat)) (Value.ref (55 : Nat))), (DictEntry.mk (PyData.keyHash P0 "__static_attributes__") (Value.str "__static_attributes__" (250 : Nat)) (Value.ref (56 : Nat))), (DictEntry.mk (PyData.keyHash P0 "__doc__") (Value.str "__doc__" (251 : Nat)) Value.none)] (2 : Nat)) #[])
noncomputable def o93 : Params → Obj := fun P0 => (Obj.mk (Value.type "type") (none : Option Nat) (Data.cls (ClassData.mk "WrongArity" [(Value.ref (38 : Nat))] [(Value.ref (58 : Nat)), (Value.ref (38 : Nat)), (Value.type "Exception"), (Value.type "BaseException"), (Value.type "object")] (57 : Nat) "WrongArity" Bool.true [] [] Bool.false none Bool.false)) #[(some (Value.ref (42 : Nat))), none, (some (Value.str "WrongArity" (227 : Nat))), (some (Value.str "WrongArity" (235 : Nat))), (some (Value.builtin "Exception.__new__")), (some (Value.bool Bool.true))])
noncomputable def o94 : Params → Obj := fun P0 => (Obj.mk (Value.type "super") (none : Option Nat) (Data.fields #[(Value.ref (58 : Nat)), (Value.ref (58 : Nat)), (Value.ref (58 : Nat))]) #[])
noncomputable def o95 : Params → Obj := fun P0 => (Obj.mk (Value.type "builtin_function_or_method") (none : Option Nat) (Data.fields #[(Value.builtin "object.__init_subclass__"), (Value.ref (58 : Nat))]) #[])
noncomputable def o96 : Params → Obj := fun P0 => (Obj.mk (Value.type "tuple") (none : Option Nat) (Data.seq #[(Value.ref (38 : Nat))] (0 : Nat)) #[])
noncomputable def o97 : Params → Obj := fun P0 => (Obj.mk (Value.type "builtin_function_or_method") (none : Option Nat) (Data.fields #[(Value.builtin "type.__prepare__"), (Value.type "type")]) #[])
noncomputable def o98 : Params → Obj := fun P0 => (Obj.mk (Value.type "dict") (none : Option Nat) (Data.dict #[(DictEntry.mk (PyData.keyHash P0 "__module__") (Value.str "__module__" (261 : Nat)) (Value.str "scheme.errors" (194 : Nat))), (DictEntry.mk (PyData.keyHash P0 "__qualname__") (Value.str "__qualname__" (263 : Nat)) (Value.str "WrongKind" (262 : Nat))), (DictEntry.mk (PyData.keyHash P0 "__firstlineno__") (Value.str "__firstlineno__" (265 : Nat)) (Value.int 16 (264 : Nat))), (DictEntry.mk (PyData.keyHash P0 "__init__") (Value.str "__init__" (275 : Nat)) (Value.ref (74 : Nat))), (DictEntry.mk (PyData.keyHash P0 "__static_attributes__") (Value.str "__static_attributes__" (279 : Nat)) (Value.ref (75 : Nat)))] (5 : Nat)) #[])
noncomputable def o99 : Params → Obj := fun P0 => (Obj.mk (Value.type "tuple") (none : Option Nat) (Data.seq #[] (0 : Nat)) #[])
noncomputable def o100 : Params → Obj := fun P0 => (Obj.mk Value.none (none : Option Nat) (Data.fields #[(Value.int 18 (0 : Nat)), (Value.int 4 (0 : Nat)), (Value.ref (73 : Nat))]) #[])
noncomputable def o101 : Params → Obj := fun P0 => (Obj.mk (Value.type "code") (none : Option Nat) (Data.fields #[(Value.str "WrongKind" (256 : Nat)), (Value.str "WrongKind" (257 : Nat)), (Value.str "/claim/cut.py" (258 : Nat)), (Value.int 16 (0 : Nat)), (Value.int 0 (0 : Nat)), (Value.int 0 (0 : Nat)), (Value.int 0 (0 : Nat)), (Value.int 0 (0 : Nat)), (Value.ref (64 : Nat)), (Value.bool Bool.false), (Value.int 181 (0 : Nat)), (Value.ref (65 : Nat)), Value.none, Value.none, Value.none, Value.none, (Value.int 259 (0 : Nat)), (Value.int 16 (0 : Nat)), (Value.str "/claim/cut.py" (260 : Nat))]) #[])
noncomputable def o102 : Params → Obj := fun P0 => (Obj.mk (Value.type "frame") (none : Option Nat) Data.plain #[(some (Value.ref (66 : Nat))), (some (Value.ref (3 : Nat))), (some (Value.ref (63 : Nat))), none, (some (Value.str "scheme.errors" (194 : Nat))), none, (some (Value.ref (0 : Nat)))])
noncomputable def o103 : Params → Obj := fun P0 => (Obj.mk (Value.type "tuple") (none : Option Nat) (Data.seq #[] (0 : Nat)) #[])
noncomputable def o104 : Params → Obj := fun P0 => (Obj.mk Value.none (none : Option Nat) (Data.fields #[]) #[])
noncomputable def o105 : Params → Obj := fun P0 => (Obj.mk (Value.type "tuple") (none : Option Nat) (Data.seq #[(Value.str "self" (269 : Nat)), (Value.str "name" (270 : Nat)), (Value.str "place" (271 : Nat)), (Value.str "datum" (272 : Nat))] (0 : Nat)) #[])
noncomputable def o106 : Params → Obj := fun P0 => (Obj.mk (Value.type "tuple") (none : Option Nat) (Data.seq #[] (0 : Nat)) #[])
noncomputable def o107 : Params → Obj := by
  intro P0
  refine' (fun (x : Obj) (_ : (Obj.mk Value.none (none : Option Nat) (Data.func (FuncData.mk "__init__" "WrongKind.__init__" (fA f4m0) (FuncBody.stmts (fB f4m0)) (fC f4m0) (0 : Nat) (@List.nil (Prod Str Nat)) Value.none Value.none Value.none Value.none (none : Option Nat) Value.none Value.none (0 : Nat))) #[]) = x) => x) _ ?_
  rotate_left
  · exact (rfl : (Obj.mk Value.none (none : Option Nat) (Data.func (FuncData.mk "__init__" "WrongKind.__init__" (Arguments.mk _ _ _ _ _ _ _) (FuncBody.stmts (_ :: _)) (Scope.mk _ _ _ _ _) (0 : Nat) (@List.nil (Prod Str Nat)) Value.none Value.none Value.none Value.none (none : Option Nat) Value.none Value.none (0 : Nat))) #[]) = _)
noncomputable def o108 : Params → Obj := fun P0 => (Obj.mk (Value.type "code") (none : Option Nat) (Data.fields #[(Value.str "__init__" (266 : Nat)), (Value.str "WrongKind.__init__" (267 : Nat)), (Value.str "/claim/cut.py" (268 : Nat)), (Value.int 18 (0 : Nat)), (Value.int 4 (0 : Nat)), (Value.int 0 (0 : Nat)), (Value.int 0 (0 : Nat)), (Value.int 3 (0 : Nat)), (Value.ref (68 : Nat)), (Value.bool Bool.true), (Value.int 181 (0 : Nat)), (Value.ref (69 : Nat)), Value.none, (Value.ref (70 : Nat)), (Value.ref (71 : Nat)), (Value.ref (72 : Nat)), (Value.int 273 (0 : Nat)), (Value.int 18 (0 : Nat)), (Value.str "/claim/cut.py" (274 : Nat))]) #[])
noncomputable def o109 : Params → Obj := by
  intro P0
  refine' (fun (x : Obj) (_ : (Obj.mk (Value.type "function") (none : Option Nat) (Data.func (FuncData.mk "__init__" "WrongKind.__init__" (fA f4m0) (FuncBody.stmts (fB f4m0)) (fC f4m0) (3 : Nat) (@List.nil (Prod Str Nat)) Value.none Value.none Value.none (Value.str "scheme.errors" (194 : Nat)) (none : Option Nat) (Value.ref (73 : Nat)) Value.none (0 : Nat))) #[]) = x) => x) _ ?_
  rotate_left
  · exact (rfl : (Obj.mk (Value.type "function") (none : Option Nat) (Data.func (FuncData.mk "__init__" "WrongKind.__init__" (Arguments.mk _ _ _ _ _ _ _) (FuncBody.stmts (_ :: _)) (Scope.mk _ _ _ _ _) (3 : Nat) (@List.nil (Prod Str Nat)) Value.none Value.none Value.none (Value.str "scheme.errors" (194 : Nat)) (none : Option Nat) (Value.ref (73 : Nat)) Value.none (0 : Nat))) #[]) = _)
noncomputable def o110 : Params → Obj := fun P0 => (Obj.mk (Value.type "tuple") (none : Option Nat) (Data.seq #[(Value.str "datum" (276 : Nat)), (Value.str "name" (277 : Nat)), (Value.str "place" (278 : Nat))] (0 : Nat)) #[])
noncomputable def o111 : Params → Obj := fun P0 => (Obj.mk (Value.type "dict") (none : Option Nat) (Data.dict #[(DictEntry.mk (PyData.keyHash P0 "__module__") (Value.str "__module__" (261 : Nat)) (Value.str "scheme.errors" (194 : Nat))), (DictEntry.mk (PyData.keyHash P0 "__firstlineno__") (Value.str "__firstlineno__" (265 : Nat)) (Value.int 16 (264 : Nat))), (DictEntry.mk (PyData.keyHash P0 "__init__") (Value.str "__init__" (275 : Nat)) (Value.ref (74 : Nat))), (DictEntry.mk (PyData.keyHash P0 "__static_attributes__") (Value.str "__static_attributes__" (279 : Nat)) (Value.ref (75 : Nat))), (DictEntry.mk (PyData.keyHash P0 "__doc__") (Value.str "__doc__" (280 : Nat)) Value.none)] (2 : Nat)) #[])
noncomputable def o112 : Params → Obj := fun P0 => (Obj.mk (Value.type "type") (none : Option Nat) (Data.cls (ClassData.mk "WrongKind" [(Value.ref (38 : Nat))] [(Value.ref (77 : Nat)), (Value.ref (38 : Nat)), (Value.type "Exception"), (Value.type "BaseException"), (Value.type "object")] (76 : Nat) "WrongKind" Bool.true [] [] Bool.false none Bool.false)) #[(some (Value.ref (61 : Nat))), none, (some (Value.str "WrongKind" (254 : Nat))), (some (Value.str "WrongKind" (262 : Nat))), (some (Value.builtin "Exception.__new__")), (some (Value.bool Bool.true))])
noncomputable def o113 : Params → Obj := fun P0 => (Obj.mk (Value.type "super") (none : Option Nat) (Data.fields #[(Value.ref (77 : Nat)), (Value.ref (77 : Nat)), (Value.ref (77 : Nat))]) #[])
noncomputable def o114 : Params → Obj := fun P0 => (Obj.mk (Value.type "builtin_function_or_method") (none : Option Nat) (Data.fields #[(Value.builtin "object.__init_subclass__"), (Value.ref (77 : Nat))]) #[])
noncomputable def o115 : Params → Obj := fun P0 => (Obj.mk (Value.type "tuple") (none : Option Nat) (Data.seq #[(Value.type "Exception")] (0 : Nat)) #[])
noncomputable def o116 : Params → Obj := fun P0 => (Obj.mk (Value.type "builtin_function_or_method") (none : Option Nat) (Data.fields #[(Value.builtin "type.__prepare__"), (Value.type "type")]) #[])
noncomputable def o117 : Params → Obj := fun P0 => (Obj.mk (Value.type "dict") (none : Option Nat) (Data.dict #[(DictEntry.mk (PyData.keyHash P0 "__module__") (Value.str "__module__" (290 : Nat)) (Value.str "scheme.errors" (194 : Nat))), (DictEntry.mk (PyData.keyHash P0 "__qualname__") (Value.str "__qualname__" (292 : Nat)) (Value.str "MachineFault" (291 : Nat))), (DictEntry.mk (PyData.keyHash P0 "__firstlineno__") (Value.str "__firstlineno__" (294 : Nat)) (Value.int 23 (293 : Nat))), (DictEntry.mk (PyData.keyHash P0 "__init__") (Value.str "__init__" (302 : Nat)) (Value.ref (93 : Nat))), (DictEntry.mk (PyData.keyHash P0 "__static_attributes__") (Value.str "__static_attributes__" (304 : Nat)) (Value.ref (94 : Nat)))] (5 : Nat)) #[])
noncomputable def o118 : Params → Obj := fun P0 => (Obj.mk (Value.type "tuple") (none : Option Nat) (Data.seq #[] (0 : Nat)) #[])
noncomputable def o119 : Params → Obj := fun P0 => (Obj.mk Value.none (none : Option Nat) (Data.fields #[(Value.int 25 (0 : Nat)), (Value.int 4 (0 : Nat)), (Value.ref (92 : Nat))]) #[])
noncomputable def o120 : Params → Obj := fun P0 => (Obj.mk (Value.type "code") (none : Option Nat) (Data.fields #[(Value.str "MachineFault" (285 : Nat)), (Value.str "MachineFault" (286 : Nat)), (Value.str "/claim/cut.py" (287 : Nat)), (Value.int 23 (0 : Nat)), (Value.int 0 (0 : Nat)), (Value.int 0 (0 : Nat)), (Value.int 0 (0 : Nat)), (Value.int 0 (0 : Nat)), (Value.ref (83 : Nat)), (Value.bool Bool.false), (Value.int 181 (0 : Nat)), (Value.ref (84 : Nat)), Value.none, Value.none, Value.none, Value.none, (Value.int 288 (0 : Nat)), (Value.int 23 (0 : Nat)), (Value.str "/claim/cut.py" (289 : Nat))]) #[])
noncomputable def o121 : Params → Obj := fun P0 => (Obj.mk (Value.type "frame") (none : Option Nat) Data.plain #[(some (Value.ref (85 : Nat))), (some (Value.ref (3 : Nat))), (some (Value.ref (82 : Nat))), none, (some (Value.str "scheme.errors" (194 : Nat))), none, (some (Value.ref (0 : Nat)))])
noncomputable def o122 : Params → Obj := fun P0 => (Obj.mk (Value.type "tuple") (none : Option Nat) (Data.seq #[] (0 : Nat)) #[])
noncomputable def o123 : Params → Obj := fun P0 => (Obj.mk Value.none (none : Option Nat) (Data.fields #[]) #[])
noncomputable def o124 : Params → Obj := fun P0 => (Obj.mk (Value.type "tuple") (none : Option Nat) (Data.seq #[(Value.str "self" (298 : Nat)), (Value.str "word" (299 : Nat))] (0 : Nat)) #[])
noncomputable def o125 : Params → Obj := fun P0 => (Obj.mk (Value.type "tuple") (none : Option Nat) (Data.seq #[] (0 : Nat)) #[])
noncomputable def o126 : Params → Obj := by
  intro P0
  refine' (fun (x : Obj) (_ : (Obj.mk Value.none (none : Option Nat) (Data.func (FuncData.mk "__init__" "MachineFault.__init__" (fA f5m0) (FuncBody.stmts (fB f5m0)) (fC f40m2) (0 : Nat) (@List.nil (Prod Str Nat)) Value.none Value.none Value.none Value.none (none : Option Nat) Value.none Value.none (0 : Nat))) #[]) = x) => x) _ ?_
  rotate_left
  · exact (rfl : (Obj.mk Value.none (none : Option Nat) (Data.func (FuncData.mk "__init__" "MachineFault.__init__" (Arguments.mk _ _ _ _ _ _ _) (FuncBody.stmts (_ :: _)) (Scope.mk _ _ _ _ _) (0 : Nat) (@List.nil (Prod Str Nat)) Value.none Value.none Value.none Value.none (none : Option Nat) Value.none Value.none (0 : Nat))) #[]) = _)
noncomputable def o127 : Params → Obj := fun P0 => (Obj.mk (Value.type "code") (none : Option Nat) (Data.fields #[(Value.str "__init__" (295 : Nat)), (Value.str "MachineFault.__init__" (296 : Nat)), (Value.str "/claim/cut.py" (297 : Nat)), (Value.int 25 (0 : Nat)), (Value.int 2 (0 : Nat)), (Value.int 0 (0 : Nat)), (Value.int 0 (0 : Nat)), (Value.int 3 (0 : Nat)), (Value.ref (87 : Nat)), (Value.bool Bool.true), (Value.int 181 (0 : Nat)), (Value.ref (88 : Nat)), Value.none, (Value.ref (89 : Nat)), (Value.ref (90 : Nat)), (Value.ref (91 : Nat)), (Value.int 300 (0 : Nat)), (Value.int 25 (0 : Nat)), (Value.str "/claim/cut.py" (301 : Nat))]) #[])
noncomputable def o128 : Params → Obj := by
  intro P0
  refine' (fun (x : Obj) (_ : (Obj.mk (Value.type "function") (none : Option Nat) (Data.func (FuncData.mk "__init__" "MachineFault.__init__" (fA f5m0) (FuncBody.stmts (fB f5m0)) (fC f40m2) (3 : Nat) (@List.nil (Prod Str Nat)) Value.none Value.none Value.none (Value.str "scheme.errors" (194 : Nat)) (none : Option Nat) (Value.ref (92 : Nat)) Value.none (0 : Nat))) #[]) = x) => x) _ ?_
  rotate_left
  · exact (rfl : (Obj.mk (Value.type "function") (none : Option Nat) (Data.func (FuncData.mk "__init__" "MachineFault.__init__" (Arguments.mk _ _ _ _ _ _ _) (FuncBody.stmts (_ :: _)) (Scope.mk _ _ _ _ _) (3 : Nat) (@List.nil (Prod Str Nat)) Value.none Value.none Value.none (Value.str "scheme.errors" (194 : Nat)) (none : Option Nat) (Value.ref (92 : Nat)) Value.none (0 : Nat))) #[]) = _)
noncomputable def o129 : Params → Obj := fun P0 => (Obj.mk (Value.type "tuple") (none : Option Nat) (Data.seq #[(Value.str "word" (303 : Nat))] (0 : Nat)) #[])
noncomputable def o130 : Params → Obj := fun P0 => (Obj.mk (Value.type "dict") (none : Option Nat) (Data.dict #[(DictEntry.mk (PyData.keyHash P0 "__module__") (Value.str "__module__" (290 : Nat)) (Value.str "scheme.errors" (194 : Nat))), (DictEntry.mk (PyData.keyHash P0 "__firstlineno__") (Value.str "__firstlineno__" (294 : Nat)) (Value.int 23 (293 : Nat))), (DictEntry.mk (PyData.keyHash P0 "__init__") (Value.str "__init__" (302 : Nat)) (Value.ref (93 : Nat))), (DictEntry.mk (PyData.keyHash P0 "__static_attributes__") (Value.str "__static_attributes__" (304 : Nat)) (Value.ref (94 : Nat))), (DictEntry.mk (PyData.keyHash P0 "__weakref__") (Value.str "__weakref__" (306 : Nat)) (Value.ref (97 : Nat))), (DictEntry.mk (PyData.keyHash P0 "__doc__") (Value.str "__doc__" (307 : Nat)) Value.none)] (3 : Nat)) #[])
noncomputable def o131 : Params → Obj := fun P0 => (Obj.mk (Value.type "type") (none : Option Nat) (Data.cls (ClassData.mk "MachineFault" [(Value.type "Exception")] [(Value.ref (96 : Nat)), (Value.type "Exception"), (Value.type "BaseException"), (Value.type "object")] (95 : Nat) "MachineFault" Bool.true [] [] Bool.false none Bool.false)) #[(some (Value.ref (80 : Nat))), none, (some (Value.str "MachineFault" (283 : Nat))), (some (Value.str "MachineFault" (291 : Nat))), (some (Value.builtin "Exception.__new__")), (some (Value.bool Bool.true))])
noncomputable def o132 : Params → Obj := fun P0 => (Obj.mk (Value.type "getset_descriptor") (none : Option Nat) (Data.fields #[(Value.str "__weakref__" (305 : Nat)), (Value.ref (96 : Nat)), (Value.builtin "ExceptionGroup.__weakref__"), Value.none]) #[])
noncomputable def o133 : Params → Obj := fun P0 => (Obj.mk (Value.type "super") (none : Option Nat) (Data.fields #[(Value.ref (96 : Nat)), (Value.ref (96 : Nat)), (Value.ref (96 : Nat))]) #[])
noncomputable def o134 : Params → Obj := fun P0 => (Obj.mk (Value.type "builtin_function_or_method") (none : Option Nat) (Data.fields #[(Value.builtin "object.__init_subclass__"), (Value.ref (96 : Nat))]) #[])
noncomputable def o135 : Params → Obj := fun P0 => (Obj.mk (Value.type "tuple") (none : Option Nat) (Data.seq #[] (0 : Nat)) #[])
noncomputable def o136 : Params → Obj := fun P0 => (Obj.mk Value.none (none : Option Nat) (Data.fields #[]) #[])
noncomputable def o137 : Params → Obj := fun P0 => (Obj.mk (Value.type "tuple") (none : Option Nat) (Data.seq #[(Value.str "word" (349 : Nat))] (0 : Nat)) #[])
noncomputable def o138 : Params → Obj := fun P0 => (Obj.mk (Value.type "tuple") (none : Option Nat) (Data.seq #[] (0 : Nat)) #[])
noncomputable def o139 : Params → Obj := by
  intro P0
  refine' (fun (x : Obj) (_ : (Obj.mk Value.none (none : Option Nat) (Data.func (FuncData.mk "payload_of" "payload_of" (fA f19) (FuncBody.stmts (fB f19)) (fC f19) (0 : Nat) (@List.nil (Prod Str Nat)) Value.none Value.none Value.none Value.none (none : Option Nat) Value.none Value.none (0 : Nat))) #[]) = x) => x) _ ?_
  rotate_left
  · exact (rfl : (Obj.mk Value.none (none : Option Nat) (Data.func (FuncData.mk "payload_of" "payload_of" (Arguments.mk _ _ _ _ _ _ _) (FuncBody.stmts (_ :: _)) (Scope.mk _ _ _ _ _) (0 : Nat) (@List.nil (Prod Str Nat)) Value.none Value.none Value.none Value.none (none : Option Nat) Value.none Value.none (0 : Nat))) #[]) = _)
noncomputable def o140 : Params → Obj := fun P0 => (Obj.mk (Value.type "code") (none : Option Nat) (Data.fields #[(Value.str "payload_of" (346 : Nat)), (Value.str "payload_of" (347 : Nat)), (Value.str "/claim/cut.py" (348 : Nat)), (Value.int 40 (0 : Nat)), (Value.int 1 (0 : Nat)), (Value.int 0 (0 : Nat)), (Value.int 0 (0 : Nat)), (Value.int 3 (0 : Nat)), (Value.ref (100 : Nat)), (Value.bool Bool.true), (Value.int 181 (0 : Nat)), (Value.ref (101 : Nat)), Value.none, (Value.ref (102 : Nat)), (Value.ref (103 : Nat)), (Value.ref (104 : Nat)), (Value.int 350 (0 : Nat)), (Value.int 40 (0 : Nat)), (Value.str "/claim/cut.py" (351 : Nat))]) #[])
noncomputable def o141 : Params → Obj := by
  intro P0
  refine' (fun (x : Obj) (_ : (Obj.mk (Value.type "function") (none : Option Nat) (Data.func (FuncData.mk "payload_of" "payload_of" (fA f19) (FuncBody.stmts (fB f19)) (fC f19) (3 : Nat) (@List.nil (Prod Str Nat)) Value.none Value.none Value.none (Value.str "scheme.words" (312 : Nat)) (none : Option Nat) (Value.ref (105 : Nat)) Value.none (0 : Nat))) #[]) = x) => x) _ ?_
  rotate_left
  · exact (rfl : (Obj.mk (Value.type "function") (none : Option Nat) (Data.func (FuncData.mk "payload_of" "payload_of" (Arguments.mk _ _ _ _ _ _ _) (FuncBody.stmts (_ :: _)) (Scope.mk _ _ _ _ _) (3 : Nat) (@List.nil (Prod Str Nat)) Value.none Value.none Value.none (Value.str "scheme.words" (312 : Nat)) (none : Option Nat) (Value.ref (105 : Nat)) Value.none (0 : Nat))) #[]) = _)
noncomputable def o142 : Params → Obj := fun P0 => (Obj.mk (Value.type "tuple") (none : Option Nat) (Data.seq #[] (0 : Nat)) #[])
noncomputable def o143 : Params → Obj := fun P0 => (Obj.mk Value.none (none : Option Nat) (Data.fields #[]) #[])
noncomputable def o144 : Params → Obj := fun P0 => (Obj.mk (Value.type "tuple") (none : Option Nat) (Data.seq #[(Value.str "number" (356 : Nat))] (0 : Nat)) #[])
noncomputable def o145 : Params → Obj := fun P0 => (Obj.mk (Value.type "tuple") (none : Option Nat) (Data.seq #[] (0 : Nat)) #[])
noncomputable def o146 : Params → Obj := by
  intro P0
  refine' (fun (x : Obj) (_ : (Obj.mk Value.none (none : Option Nat) (Data.func (FuncData.mk "fix" "fix" (fA f20) (FuncBody.stmts (fB f20)) (fC f20) (0 : Nat) (@List.nil (Prod Str Nat)) Value.none Value.none Value.none Value.none (none : Option Nat) Value.none Value.none (0 : Nat))) #[]) = x) => x) _ ?_
  rotate_left
  · exact (rfl : (Obj.mk Value.none (none : Option Nat) (Data.func (FuncData.mk "fix" "fix" (Arguments.mk _ _ _ _ _ _ _) (FuncBody.stmts (_ :: _)) (Scope.mk _ _ _ _ _) (0 : Nat) (@List.nil (Prod Str Nat)) Value.none Value.none Value.none Value.none (none : Option Nat) Value.none Value.none (0 : Nat))) #[]) = _)
noncomputable def o147 : Params → Obj := fun P0 => (Obj.mk (Value.type "code") (none : Option Nat) (Data.fields #[(Value.str "fix" (353 : Nat)), (Value.str "fix" (354 : Nat)), (Value.str "/claim/cut.py" (355 : Nat)), (Value.int 42 (0 : Nat)), (Value.int 1 (0 : Nat)), (Value.int 0 (0 : Nat)), (Value.int 0 (0 : Nat)), (Value.int 3 (0 : Nat)), (Value.ref (107 : Nat)), (Value.bool Bool.true), (Value.int 181 (0 : Nat)), (Value.ref (108 : Nat)), Value.none, (Value.ref (109 : Nat)), (Value.ref (110 : Nat)), (Value.ref (111 : Nat)), (Value.int 357 (0 : Nat)), (Value.int 42 (0 : Nat)), (Value.str "/claim/cut.py" (358 : Nat))]) #[])
noncomputable def o148 : Params → Obj := by
  intro P0
  refine' (fun (x : Obj) (_ : (Obj.mk (Value.type "function") (none : Option Nat) (Data.func (FuncData.mk "fix" "fix" (fA f20) (FuncBody.stmts (fB f20)) (fC f20) (3 : Nat) (@List.nil (Prod Str Nat)) Value.none Value.none Value.none (Value.str "scheme.words" (312 : Nat)) (none : Option Nat) (Value.ref (112 : Nat)) Value.none (0 : Nat))) #[]) = x) => x) _ ?_
  rotate_left
  · exact (rfl : (Obj.mk (Value.type "function") (none : Option Nat) (Data.func (FuncData.mk "fix" "fix" (Arguments.mk _ _ _ _ _ _ _) (FuncBody.stmts (_ :: _)) (Scope.mk _ _ _ _ _) (3 : Nat) (@List.nil (Prod Str Nat)) Value.none Value.none Value.none (Value.str "scheme.words" (312 : Nat)) (none : Option Nat) (Value.ref (112 : Nat)) Value.none (0 : Nat))) #[]) = _)
noncomputable def o149 : Params → Obj := fun P0 => (Obj.mk (Value.type "tuple") (none : Option Nat) (Data.seq #[] (0 : Nat)) #[])
noncomputable def o150 : Params → Obj := fun P0 => (Obj.mk Value.none (none : Option Nat) (Data.fields #[]) #[])
noncomputable def o151 : Params → Obj := fun P0 => (Obj.mk (Value.type "tuple") (none : Option Nat) (Data.seq #[(Value.str "address" (363 : Nat))] (0 : Nat)) #[])
noncomputable def o152 : Params → Obj := fun P0 => (Obj.mk (Value.type "tuple") (none : Option Nat) (Data.seq #[] (0 : Nat)) #[])
noncomputable def o153 : Params → Obj := by
  intro P0
  refine' (fun (x : Obj) (_ : (Obj.mk Value.none (none : Option Nat) (Data.func (FuncData.mk "ref" "ref" (fA f21) (FuncBody.stmts (fB f21)) (fC f21) (0 : Nat) (@List.nil (Prod Str Nat)) Value.none Value.none Value.none Value.none (none : Option Nat) Value.none Value.none (0 : Nat))) #[]) = x) => x) _ ?_
  rotate_left
  · exact (rfl : (Obj.mk Value.none (none : Option Nat) (Data.func (FuncData.mk "ref" "ref" (Arguments.mk _ _ _ _ _ _ _) (FuncBody.stmts (_ :: _)) (Scope.mk _ _ _ _ _) (0 : Nat) (@List.nil (Prod Str Nat)) Value.none Value.none Value.none Value.none (none : Option Nat) Value.none Value.none (0 : Nat))) #[]) = _)
noncomputable def o154 : Params → Obj := fun P0 => (Obj.mk (Value.type "code") (none : Option Nat) (Data.fields #[(Value.str "ref" (360 : Nat)), (Value.str "ref" (361 : Nat)), (Value.str "/claim/cut.py" (362 : Nat)), (Value.int 44 (0 : Nat)), (Value.int 1 (0 : Nat)), (Value.int 0 (0 : Nat)), (Value.int 0 (0 : Nat)), (Value.int 3 (0 : Nat)), (Value.ref (114 : Nat)), (Value.bool Bool.true), (Value.int 181 (0 : Nat)), (Value.ref (115 : Nat)), Value.none, (Value.ref (116 : Nat)), (Value.ref (117 : Nat)), (Value.ref (118 : Nat)), (Value.int 364 (0 : Nat)), (Value.int 44 (0 : Nat)), (Value.str "/claim/cut.py" (365 : Nat))]) #[])
noncomputable def o155 : Params → Obj := by
  intro P0
  refine' (fun (x : Obj) (_ : (Obj.mk (Value.type "function") (none : Option Nat) (Data.func (FuncData.mk "ref" "ref" (fA f21) (FuncBody.stmts (fB f21)) (fC f21) (3 : Nat) (@List.nil (Prod Str Nat)) Value.none Value.none Value.none (Value.str "scheme.words" (312 : Nat)) (none : Option Nat) (Value.ref (119 : Nat)) Value.none (0 : Nat))) #[]) = x) => x) _ ?_
  rotate_left
  · exact (rfl : (Obj.mk (Value.type "function") (none : Option Nat) (Data.func (FuncData.mk "ref" "ref" (Arguments.mk _ _ _ _ _ _ _) (FuncBody.stmts (_ :: _)) (Scope.mk _ _ _ _ _) (3 : Nat) (@List.nil (Prod Str Nat)) Value.none Value.none Value.none (Value.str "scheme.words" (312 : Nat)) (none : Option Nat) (Value.ref (119 : Nat)) Value.none (0 : Nat))) #[]) = _)
noncomputable def o156 : Params → Obj := fun P0 => (Obj.mk (Value.type "tuple") (none : Option Nat) (Data.seq #[] (0 : Nat)) #[])
noncomputable def o157 : Params → Obj := fun P0 => (Obj.mk Value.none (none : Option Nat) (Data.fields #[]) #[])
noncomputable def o158 : Params → Obj := fun P0 => (Obj.mk (Value.type "tuple") (none : Option Nat) (Data.seq #[(Value.str "flag" (370 : Nat))] (0 : Nat)) #[])
noncomputable def o159 : Params → Obj := fun P0 => (Obj.mk (Value.type "tuple") (none : Option Nat) (Data.seq #[] (0 : Nat)) #[])
noncomputable def o160 : Params → Obj := by
  intro P0
  refine' (fun (x : Obj) (_ : (Obj.mk Value.none (none : Option Nat) (Data.func (FuncData.mk "boolean_word" "boolean_word" (fA f22) (FuncBody.stmts (fB f22)) (fC f22) (0 : Nat) (@List.nil (Prod Str Nat)) Value.none Value.none Value.none Value.none (none : Option Nat) Value.none Value.none (0 : Nat))) #[]) = x) => x) _ ?_
  rotate_left
  · exact (rfl : (Obj.mk Value.none (none : Option Nat) (Data.func (FuncData.mk "boolean_word" "boolean_word" (Arguments.mk _ _ _ _ _ _ _) (FuncBody.stmts (_ :: _)) (Scope.mk _ _ _ _ _) (0 : Nat) (@List.nil (Prod Str Nat)) Value.none Value.none Value.none Value.none (none : Option Nat) Value.none Value.none (0 : Nat))) #[]) = _)
noncomputable def o161 : Params → Obj := fun P0 => (Obj.mk (Value.type "code") (none : Option Nat) (Data.fields #[(Value.str "boolean_word" (367 : Nat)), (Value.str "boolean_word" (368 : Nat)), (Value.str "/claim/cut.py" (369 : Nat)), (Value.int 46 (0 : Nat)), (Value.int 1 (0 : Nat)), (Value.int 0 (0 : Nat)), (Value.int 0 (0 : Nat)), (Value.int 3 (0 : Nat)), (Value.ref (121 : Nat)), (Value.bool Bool.true), (Value.int 181 (0 : Nat)), (Value.ref (122 : Nat)), Value.none, (Value.ref (123 : Nat)), (Value.ref (124 : Nat)), (Value.ref (125 : Nat)), (Value.int 371 (0 : Nat)), (Value.int 46 (0 : Nat)), (Value.str "/claim/cut.py" (372 : Nat))]) #[])
noncomputable def o162 : Params → Obj := by
  intro P0
  refine' (fun (x : Obj) (_ : (Obj.mk (Value.type "function") (none : Option Nat) (Data.func (FuncData.mk "boolean_word" "boolean_word" (fA f22) (FuncBody.stmts (fB f22)) (fC f22) (3 : Nat) (@List.nil (Prod Str Nat)) Value.none Value.none Value.none (Value.str "scheme.words" (312 : Nat)) (none : Option Nat) (Value.ref (126 : Nat)) Value.none (0 : Nat))) #[]) = x) => x) _ ?_
  rotate_left
  · exact (rfl : (Obj.mk (Value.type "function") (none : Option Nat) (Data.func (FuncData.mk "boolean_word" "boolean_word" (Arguments.mk _ _ _ _ _ _ _) (FuncBody.stmts (_ :: _)) (Scope.mk _ _ _ _ _) (3 : Nat) (@List.nil (Prod Str Nat)) Value.none Value.none Value.none (Value.str "scheme.words" (312 : Nat)) (none : Option Nat) (Value.ref (126 : Nat)) Value.none (0 : Nat))) #[]) = _)
noncomputable def o163 : Params → Obj := fun P0 => (Obj.mk (Value.type "tuple") (none : Option Nat) (Data.seq #[] (0 : Nat)) #[])
noncomputable def o164 : Params → Obj := fun P0 => (Obj.mk Value.none (none : Option Nat) (Data.fields #[]) #[])
noncomputable def o165 : Params → Obj := fun P0 => (Obj.mk (Value.type "tuple") (none : Option Nat) (Data.seq #[(Value.str "kind" (377 : Nat)), (Value.str "length" (378 : Nat))] (0 : Nat)) #[])
noncomputable def o166 : Params → Obj := fun P0 => (Obj.mk (Value.type "tuple") (none : Option Nat) (Data.seq #[] (0 : Nat)) #[])
noncomputable def o167 : Params → Obj := by
  intro P0
  refine' (fun (x : Obj) (_ : (Obj.mk Value.none (none : Option Nat) (Data.func (FuncData.mk "header_word" "header_word" (fA f23) (FuncBody.stmts (fB f23)) (fC f23) (0 : Nat) (@List.nil (Prod Str Nat)) Value.none Value.none Value.none Value.none (none : Option Nat) Value.none Value.none (0 : Nat))) #[]) = x) => x) _ ?_
  rotate_left
  · exact (rfl : (Obj.mk Value.none (none : Option Nat) (Data.func (FuncData.mk "header_word" "header_word" (Arguments.mk _ _ _ _ _ _ _) (FuncBody.stmts (_ :: _)) (Scope.mk _ _ _ _ _) (0 : Nat) (@List.nil (Prod Str Nat)) Value.none Value.none Value.none Value.none (none : Option Nat) Value.none Value.none (0 : Nat))) #[]) = _)
noncomputable def o168 : Params → Obj := fun P0 => (Obj.mk (Value.type "code") (none : Option Nat) (Data.fields #[(Value.str "header_word" (374 : Nat)), (Value.str "header_word" (375 : Nat)), (Value.str "/claim/cut.py" (376 : Nat)), (Value.int 48 (0 : Nat)), (Value.int 2 (0 : Nat)), (Value.int 0 (0 : Nat)), (Value.int 0 (0 : Nat)), (Value.int 3 (0 : Nat)), (Value.ref (128 : Nat)), (Value.bool Bool.true), (Value.int 181 (0 : Nat)), (Value.ref (129 : Nat)), Value.none, (Value.ref (130 : Nat)), (Value.ref (131 : Nat)), (Value.ref (132 : Nat)), (Value.int 379 (0 : Nat)), (Value.int 48 (0 : Nat)), (Value.str "/claim/cut.py" (380 : Nat))]) #[])
noncomputable def o169 : Params → Obj := by
  intro P0
  refine' (fun (x : Obj) (_ : (Obj.mk (Value.type "function") (none : Option Nat) (Data.func (FuncData.mk "header_word" "header_word" (fA f23) (FuncBody.stmts (fB f23)) (fC f23) (3 : Nat) (@List.nil (Prod Str Nat)) Value.none Value.none Value.none (Value.str "scheme.words" (312 : Nat)) (none : Option Nat) (Value.ref (133 : Nat)) Value.none (0 : Nat))) #[]) = x) => x) _ ?_
  rotate_left
  · exact (rfl : (Obj.mk (Value.type "function") (none : Option Nat) (Data.func (FuncData.mk "header_word" "header_word" (Arguments.mk _ _ _ _ _ _ _) (FuncBody.stmts (_ :: _)) (Scope.mk _ _ _ _ _) (3 : Nat) (@List.nil (Prod Str Nat)) Value.none Value.none Value.none (Value.str "scheme.words" (312 : Nat)) (none : Option Nat) (Value.ref (133 : Nat)) Value.none (0 : Nat))) #[]) = _)
noncomputable def o170 : Params → Obj := fun P0 => (Obj.mk (Value.type "tuple") (none : Option Nat) (Data.seq #[] (0 : Nat)) #[])
noncomputable def o171 : Params → Obj := fun P0 => (Obj.mk Value.none (none : Option Nat) (Data.fields #[]) #[])
noncomputable def o172 : Params → Obj := fun P0 => (Obj.mk (Value.type "tuple") (none : Option Nat) (Data.seq #[(Value.str "word" (385 : Nat))] (0 : Nat)) #[])
noncomputable def o173 : Params → Obj := fun P0 => (Obj.mk (Value.type "tuple") (none : Option Nat) (Data.seq #[] (0 : Nat)) #[])
noncomputable def o174 : Params → Obj := by
  intro P0
  refine' (fun (x : Obj) (_ : (Obj.mk Value.none (none : Option Nat) (Data.func (FuncData.mk "is_fix" "is_fix" (fA f24) (FuncBody.stmts (fB f24)) (fC f24) (0 : Nat) (@List.nil (Prod Str Nat)) Value.none Value.none Value.none Value.none (none : Option Nat) Value.none Value.none (0 : Nat))) #[]) = x) => x) _ ?_
  rotate_left
  · exact (rfl : (Obj.mk Value.none (none : Option Nat) (Data.func (FuncData.mk "is_fix" "is_fix" (Arguments.mk _ _ _ _ _ _ _) (FuncBody.stmts (_ :: _)) (Scope.mk _ _ _ _ _) (0 : Nat) (@List.nil (Prod Str Nat)) Value.none Value.none Value.none Value.none (none : Option Nat) Value.none Value.none (0 : Nat))) #[]) = _)
noncomputable def o175 : Params → Obj := fun P0 => (Obj.mk (Value.type "code") (none : Option Nat) (Data.fields #[(Value.str "is_fix" (382 : Nat)), (Value.str "is_fix" (383 : Nat)), (Value.str "/claim/cut.py" (384 : Nat)), (Value.int 50 (0 : Nat)), (Value.int 1 (0 : Nat)), (Value.int 0 (0 : Nat)), (Value.int 0 (0 : Nat)), (Value.int 3 (0 : Nat)), (Value.ref (135 : Nat)), (Value.bool Bool.true), (Value.int 181 (0 : Nat)), (Value.ref (136 : Nat)), Value.none, (Value.ref (137 : Nat)), (Value.ref (138 : Nat)), (Value.ref (139 : Nat)), (Value.int 386 (0 : Nat)), (Value.int 50 (0 : Nat)), (Value.str "/claim/cut.py" (387 : Nat))]) #[])
noncomputable def o176 : Params → Obj := by
  intro P0
  refine' (fun (x : Obj) (_ : (Obj.mk (Value.type "function") (none : Option Nat) (Data.func (FuncData.mk "is_fix" "is_fix" (fA f24) (FuncBody.stmts (fB f24)) (fC f24) (3 : Nat) (@List.nil (Prod Str Nat)) Value.none Value.none Value.none (Value.str "scheme.words" (312 : Nat)) (none : Option Nat) (Value.ref (140 : Nat)) Value.none (0 : Nat))) #[]) = x) => x) _ ?_
  rotate_left
  · exact (rfl : (Obj.mk (Value.type "function") (none : Option Nat) (Data.func (FuncData.mk "is_fix" "is_fix" (Arguments.mk _ _ _ _ _ _ _) (FuncBody.stmts (_ :: _)) (Scope.mk _ _ _ _ _) (3 : Nat) (@List.nil (Prod Str Nat)) Value.none Value.none Value.none (Value.str "scheme.words" (312 : Nat)) (none : Option Nat) (Value.ref (140 : Nat)) Value.none (0 : Nat))) #[]) = _)
noncomputable def o177 : Params → Obj := fun P0 => (Obj.mk (Value.type "tuple") (none : Option Nat) (Data.seq #[] (0 : Nat)) #[])
noncomputable def o178 : Params → Obj := fun P0 => (Obj.mk Value.none (none : Option Nat) (Data.fields #[]) #[])
noncomputable def o179 : Params → Obj := fun P0 => (Obj.mk (Value.type "tuple") (none : Option Nat) (Data.seq #[(Value.str "word" (392 : Nat))] (0 : Nat)) #[])
noncomputable def o180 : Params → Obj := fun P0 => (Obj.mk (Value.type "tuple") (none : Option Nat) (Data.seq #[] (0 : Nat)) #[])
noncomputable def o181 : Params → Obj := by
  intro P0
  refine' (fun (x : Obj) (_ : (Obj.mk Value.none (none : Option Nat) (Data.func (FuncData.mk "is_ref" "is_ref" (fA f25) (FuncBody.stmts (fB f25)) (fC f25) (0 : Nat) (@List.nil (Prod Str Nat)) Value.none Value.none Value.none Value.none (none : Option Nat) Value.none Value.none (0 : Nat))) #[]) = x) => x) _ ?_
  rotate_left
  · exact (rfl : (Obj.mk Value.none (none : Option Nat) (Data.func (FuncData.mk "is_ref" "is_ref" (Arguments.mk _ _ _ _ _ _ _) (FuncBody.stmts (_ :: _)) (Scope.mk _ _ _ _ _) (0 : Nat) (@List.nil (Prod Str Nat)) Value.none Value.none Value.none Value.none (none : Option Nat) Value.none Value.none (0 : Nat))) #[]) = _)
noncomputable def o182 : Params → Obj := fun P0 => (Obj.mk (Value.type "code") (none : Option Nat) (Data.fields #[(Value.str "is_ref" (389 : Nat)), (Value.str "is_ref" (390 : Nat)), (Value.str "/claim/cut.py" (391 : Nat)), (Value.int 52 (0 : Nat)), (Value.int 1 (0 : Nat)), (Value.int 0 (0 : Nat)), (Value.int 0 (0 : Nat)), (Value.int 3 (0 : Nat)), (Value.ref (142 : Nat)), (Value.bool Bool.true), (Value.int 181 (0 : Nat)), (Value.ref (143 : Nat)), Value.none, (Value.ref (144 : Nat)), (Value.ref (145 : Nat)), (Value.ref (146 : Nat)), (Value.int 393 (0 : Nat)), (Value.int 52 (0 : Nat)), (Value.str "/claim/cut.py" (394 : Nat))]) #[])
noncomputable def o183 : Params → Obj := by
  intro P0
  refine' (fun (x : Obj) (_ : (Obj.mk (Value.type "function") (none : Option Nat) (Data.func (FuncData.mk "is_ref" "is_ref" (fA f25) (FuncBody.stmts (fB f25)) (fC f25) (3 : Nat) (@List.nil (Prod Str Nat)) Value.none Value.none Value.none (Value.str "scheme.words" (312 : Nat)) (none : Option Nat) (Value.ref (147 : Nat)) Value.none (0 : Nat))) #[]) = x) => x) _ ?_
  rotate_left
  · exact (rfl : (Obj.mk (Value.type "function") (none : Option Nat) (Data.func (FuncData.mk "is_ref" "is_ref" (Arguments.mk _ _ _ _ _ _ _) (FuncBody.stmts (_ :: _)) (Scope.mk _ _ _ _ _) (3 : Nat) (@List.nil (Prod Str Nat)) Value.none Value.none Value.none (Value.str "scheme.words" (312 : Nat)) (none : Option Nat) (Value.ref (147 : Nat)) Value.none (0 : Nat))) #[]) = _)
noncomputable def o184 : Params → Obj := fun P0 => (Obj.mk (Value.type "tuple") (none : Option Nat) (Data.seq #[] (0 : Nat)) #[])
noncomputable def o185 : Params → Obj := fun P0 => (Obj.mk Value.none (none : Option Nat) (Data.fields #[]) #[])
noncomputable def o186 : Params → Obj := fun P0 => (Obj.mk (Value.type "tuple") (none : Option Nat) (Data.seq #[(Value.str "word" (399 : Nat))] (0 : Nat)) #[])
noncomputable def o187 : Params → Obj := fun P0 => (Obj.mk (Value.type "tuple") (none : Option Nat) (Data.seq #[] (0 : Nat)) #[])
noncomputable def o188 : Params → Obj := by
  intro P0
  refine' (fun (x : Obj) (_ : (Obj.mk Value.none (none : Option Nat) (Data.func (FuncData.mk "is_header" "is_header" (fA f26) (FuncBody.stmts (fB f26)) (fC f26) (0 : Nat) (@List.nil (Prod Str Nat)) Value.none Value.none Value.none Value.none (none : Option Nat) Value.none Value.none (0 : Nat))) #[]) = x) => x) _ ?_
  rotate_left
  · exact (rfl : (Obj.mk Value.none (none : Option Nat) (Data.func (FuncData.mk "is_header" "is_header" (Arguments.mk _ _ _ _ _ _ _) (FuncBody.stmts (_ :: _)) (Scope.mk _ _ _ _ _) (0 : Nat) (@List.nil (Prod Str Nat)) Value.none Value.none Value.none Value.none (none : Option Nat) Value.none Value.none (0 : Nat))) #[]) = _)
noncomputable def o189 : Params → Obj := fun P0 => (Obj.mk (Value.type "code") (none : Option Nat) (Data.fields #[(Value.str "is_header" (396 : Nat)), (Value.str "is_header" (397 : Nat)), (Value.str "/claim/cut.py" (398 : Nat)), (Value.int 54 (0 : Nat)), (Value.int 1 (0 : Nat)), (Value.int 0 (0 : Nat)), (Value.int 0 (0 : Nat)), (Value.int 3 (0 : Nat)), (Value.ref (149 : Nat)), (Value.bool Bool.true), (Value.int 181 (0 : Nat)), (Value.ref (150 : Nat)), Value.none, (Value.ref (151 : Nat)), (Value.ref (152 : Nat)), (Value.ref (153 : Nat)), (Value.int 400 (0 : Nat)), (Value.int 54 (0 : Nat)), (Value.str "/claim/cut.py" (401 : Nat))]) #[])
noncomputable def o190 : Params → Obj := by
  intro P0
  refine' (fun (x : Obj) (_ : (Obj.mk (Value.type "function") (none : Option Nat) (Data.func (FuncData.mk "is_header" "is_header" (fA f26) (FuncBody.stmts (fB f26)) (fC f26) (3 : Nat) (@List.nil (Prod Str Nat)) Value.none Value.none Value.none (Value.str "scheme.words" (312 : Nat)) (none : Option Nat) (Value.ref (154 : Nat)) Value.none (0 : Nat))) #[]) = x) => x) _ ?_
  rotate_left
  · exact (rfl : (Obj.mk (Value.type "function") (none : Option Nat) (Data.func (FuncData.mk "is_header" "is_header" (Arguments.mk _ _ _ _ _ _ _) (FuncBody.stmts (_ :: _)) (Scope.mk _ _ _ _ _) (3 : Nat) (@List.nil (Prod Str Nat)) Value.none Value.none Value.none (Value.str "scheme.words" (312 : Nat)) (none : Option Nat) (Value.ref (154 : Nat)) Value.none (0 : Nat))) #[]) = _)
noncomputable def o191 : Params → Obj := fun P0 => (Obj.mk (Value.type "tuple") (none : Option Nat) (Data.seq #[] (0 : Nat)) #[])
noncomputable def o192 : Params → Obj := fun P0 => (Obj.mk Value.none (none : Option Nat) (Data.fields #[]) #[])
noncomputable def o193 : Params → Obj := fun P0 => (Obj.mk (Value.type "tuple") (none : Option Nat) (Data.seq #[(Value.str "header" (406 : Nat))] (0 : Nat)) #[])
noncomputable def o194 : Params → Obj := fun P0 => (Obj.mk (Value.type "tuple") (none : Option Nat) (Data.seq #[] (0 : Nat)) #[])
noncomputable def o195 : Params → Obj := by
  intro P0
  refine' (fun (x : Obj) (_ : (Obj.mk Value.none (none : Option Nat) (Data.func (FuncData.mk "header_kind" "header_kind" (fA f27) (FuncBody.stmts (fB f27)) (fC f28) (0 : Nat) (@List.nil (Prod Str Nat)) Value.none Value.none Value.none Value.none (none : Option Nat) Value.none Value.none (0 : Nat))) #[]) = x) => x) _ ?_
  rotate_left
  · exact (rfl : (Obj.mk Value.none (none : Option Nat) (Data.func (FuncData.mk "header_kind" "header_kind" (Arguments.mk _ _ _ _ _ _ _) (FuncBody.stmts (_ :: _)) (Scope.mk _ _ _ _ _) (0 : Nat) (@List.nil (Prod Str Nat)) Value.none Value.none Value.none Value.none (none : Option Nat) Value.none Value.none (0 : Nat))) #[]) = _)
noncomputable def o196 : Params → Obj := fun P0 => (Obj.mk (Value.type "code") (none : Option Nat) (Data.fields #[(Value.str "header_kind" (403 : Nat)), (Value.str "header_kind" (404 : Nat)), (Value.str "/claim/cut.py" (405 : Nat)), (Value.int 56 (0 : Nat)), (Value.int 1 (0 : Nat)), (Value.int 0 (0 : Nat)), (Value.int 0 (0 : Nat)), (Value.int 3 (0 : Nat)), (Value.ref (156 : Nat)), (Value.bool Bool.true), (Value.int 181 (0 : Nat)), (Value.ref (157 : Nat)), Value.none, (Value.ref (158 : Nat)), (Value.ref (159 : Nat)), (Value.ref (160 : Nat)), (Value.int 407 (0 : Nat)), (Value.int 56 (0 : Nat)), (Value.str "/claim/cut.py" (408 : Nat))]) #[])
noncomputable def o197 : Params → Obj := by
  intro P0
  refine' (fun (x : Obj) (_ : (Obj.mk (Value.type "function") (none : Option Nat) (Data.func (FuncData.mk "header_kind" "header_kind" (fA f27) (FuncBody.stmts (fB f27)) (fC f28) (3 : Nat) (@List.nil (Prod Str Nat)) Value.none Value.none Value.none (Value.str "scheme.words" (312 : Nat)) (none : Option Nat) (Value.ref (161 : Nat)) Value.none (0 : Nat))) #[]) = x) => x) _ ?_
  rotate_left
  · exact (rfl : (Obj.mk (Value.type "function") (none : Option Nat) (Data.func (FuncData.mk "header_kind" "header_kind" (Arguments.mk _ _ _ _ _ _ _) (FuncBody.stmts (_ :: _)) (Scope.mk _ _ _ _ _) (3 : Nat) (@List.nil (Prod Str Nat)) Value.none Value.none Value.none (Value.str "scheme.words" (312 : Nat)) (none : Option Nat) (Value.ref (161 : Nat)) Value.none (0 : Nat))) #[]) = _)
noncomputable def o198 : Params → Obj := fun P0 => (Obj.mk (Value.type "tuple") (none : Option Nat) (Data.seq #[] (0 : Nat)) #[])
noncomputable def o199 : Params → Obj := fun P0 => (Obj.mk Value.none (none : Option Nat) (Data.fields #[]) #[])
noncomputable def o200 : Params → Obj := fun P0 => (Obj.mk (Value.type "tuple") (none : Option Nat) (Data.seq #[(Value.str "header" (413 : Nat))] (0 : Nat)) #[])
noncomputable def o201 : Params → Obj := fun P0 => (Obj.mk (Value.type "tuple") (none : Option Nat) (Data.seq #[] (0 : Nat)) #[])
noncomputable def o202 : Params → Obj := by
  intro P0
  refine' (fun (x : Obj) (_ : (Obj.mk Value.none (none : Option Nat) (Data.func (FuncData.mk "header_length" "header_length" (fA f28) (FuncBody.stmts (fB f28)) (fC f28) (0 : Nat) (@List.nil (Prod Str Nat)) Value.none Value.none Value.none Value.none (none : Option Nat) Value.none Value.none (0 : Nat))) #[]) = x) => x) _ ?_
  rotate_left
  · exact (rfl : (Obj.mk Value.none (none : Option Nat) (Data.func (FuncData.mk "header_length" "header_length" (Arguments.mk _ _ _ _ _ _ _) (FuncBody.stmts (_ :: _)) (Scope.mk _ _ _ _ _) (0 : Nat) (@List.nil (Prod Str Nat)) Value.none Value.none Value.none Value.none (none : Option Nat) Value.none Value.none (0 : Nat))) #[]) = _)
noncomputable def o203 : Params → Obj := fun P0 => (Obj.mk (Value.type "code") (none : Option Nat) (Data.fields #[(Value.str "header_length" (410 : Nat)), (Value.str "header_length" (411 : Nat)), (Value.str "/claim/cut.py" (412 : Nat)), (Value.int 58 (0 : Nat)), (Value.int 1 (0 : Nat)), (Value.int 0 (0 : Nat)), (Value.int 0 (0 : Nat)), (Value.int 3 (0 : Nat)), (Value.ref (163 : Nat)), (Value.bool Bool.true), (Value.int 181 (0 : Nat)), (Value.ref (164 : Nat)), Value.none, (Value.ref (165 : Nat)), (Value.ref (166 : Nat)), (Value.ref (167 : Nat)), (Value.int 414 (0 : Nat)), (Value.int 58 (0 : Nat)), (Value.str "/claim/cut.py" (415 : Nat))]) #[])
noncomputable def o204 : Params → Obj := by
  intro P0
  refine' (fun (x : Obj) (_ : (Obj.mk (Value.type "function") (none : Option Nat) (Data.func (FuncData.mk "header_length" "header_length" (fA f28) (FuncBody.stmts (fB f28)) (fC f28) (3 : Nat) (@List.nil (Prod Str Nat)) Value.none Value.none Value.none (Value.str "scheme.words" (312 : Nat)) (none : Option Nat) (Value.ref (168 : Nat)) Value.none (0 : Nat))) #[]) = x) => x) _ ?_
  rotate_left
  · exact (rfl : (Obj.mk (Value.type "function") (none : Option Nat) (Data.func (FuncData.mk "header_length" "header_length" (Arguments.mk _ _ _ _ _ _ _) (FuncBody.stmts (_ :: _)) (Scope.mk _ _ _ _ _) (3 : Nat) (@List.nil (Prod Str Nat)) Value.none Value.none Value.none (Value.str "scheme.words" (312 : Nat)) (none : Option Nat) (Value.ref (168 : Nat)) Value.none (0 : Nat))) #[]) = _)
noncomputable def o205 : Params → Obj := fun P0 => (Obj.mk (Value.type "tuple") (none : Option Nat) (Data.seq #[(Value.str "add" (437 : Nat)), (Value.int 2 (438 : Nat))] (0 : Nat)) #[])
noncomputable def o206 : Params → Obj := fun P0 => (Obj.mk (Value.type "tuple") (none : Option Nat) (Data.seq #[(Value.str "subtract" (439 : Nat)), (Value.int 2 (440 : Nat))] (0 : Nat)) #[])
noncomputable def o207 : Params → Obj := fun P0 => (Obj.mk (Value.type "tuple") (none : Option Nat) (Data.seq #[(Value.str "less" (441 : Nat)), (Value.int 2 (442 : Nat))] (0 : Nat)) #[])
noncomputable def o208 : Params → Obj := fun P0 => (Obj.mk (Value.type "tuple") (none : Option Nat) (Data.seq #[(Value.str "same" (443 : Nat)), (Value.int 2 (444 : Nat))] (0 : Nat)) #[])
noncomputable def o209 : Params → Obj := fun P0 => (Obj.mk (Value.type "tuple") (none : Option Nat) (Data.seq #[(Value.str "cons" (445 : Nat)), (Value.int 2 (446 : Nat))] (0 : Nat)) #[])
noncomputable def o210 : Params → Obj := fun P0 => (Obj.mk (Value.type "tuple") (none : Option Nat) (Data.seq #[(Value.str "car" (447 : Nat)), (Value.int 1 (448 : Nat))] (0 : Nat)) #[])
noncomputable def o211 : Params → Obj := fun P0 => (Obj.mk (Value.type "tuple") (none : Option Nat) (Data.seq #[(Value.str "cdr" (449 : Nat)), (Value.int 1 (450 : Nat))] (0 : Nat)) #[])
noncomputable def o212 : Params → Obj := fun P0 => (Obj.mk (Value.type "tuple") (none : Option Nat) (Data.seq #[(Value.str "set-car" (451 : Nat)), (Value.int 2 (452 : Nat))] (0 : Nat)) #[])
noncomputable def o213 : Params → Obj := fun P0 => (Obj.mk (Value.type "tuple") (none : Option Nat) (Data.seq #[(Value.str "set-cdr" (453 : Nat)), (Value.int 2 (454 : Nat))] (0 : Nat)) #[])
noncomputable def o214 : Params → Obj := fun P0 => (Obj.mk (Value.type "tuple") (none : Option Nat) (Data.seq #[(Value.str "make-box" (455 : Nat)), (Value.int 1 (456 : Nat))] (0 : Nat)) #[])
noncomputable def o215 : Params → Obj := fun P0 => (Obj.mk (Value.type "tuple") (none : Option Nat) (Data.seq #[(Value.str "open-box" (457 : Nat)), (Value.int 1 (458 : Nat))] (0 : Nat)) #[])
noncomputable def o216 : Params → Obj := fun P0 => (Obj.mk (Value.type "tuple") (none : Option Nat) (Data.seq #[(Value.str "fill-box" (459 : Nat)), (Value.int 2 (460 : Nat))] (0 : Nat)) #[])
noncomputable def o217 : Params → Obj := fun P0 => (Obj.mk (Value.type "tuple") (none : Option Nat) (Data.seq #[(Value.ref (170 : Nat)), (Value.ref (171 : Nat)), (Value.ref (172 : Nat)), (Value.ref (173 : Nat)), (Value.ref (174 : Nat)), (Value.ref (175 : Nat)), (Value.ref (176 : Nat)), (Value.ref (177 : Nat)), (Value.ref (178 : Nat)), (Value.ref (179 : Nat)), (Value.ref (180 : Nat)), (Value.ref (181 : Nat))] (0 : Nat)) #[])
noncomputable def o218 : Params → Obj := fun P0 => (Obj.mk (Value.type "tuple") (none : Option Nat) (Data.seq #[] (0 : Nat)) #[])
noncomputable def o219 : Params → Obj := fun P0 => (Obj.mk (Value.type "builtin_function_or_method") (none : Option Nat) (Data.fields #[(Value.builtin "type.__prepare__"), (Value.type "type")]) #[])
noncomputable def o220 : Params → Obj := fun P0 => (Obj.mk (Value.type "dict") (none : Option Nat) (Data.dict #[(DictEntry.mk (PyData.keyHash P0 "__module__") (Value.str "__module__" (469 : Nat)) (Value.str "scheme.smalllib" (417 : Nat))), (DictEntry.mk (PyData.keyHash P0 "__qualname__") (Value.str "__qualname__" (471 : Nat)) (Value.str "SmallLibrary" (470 : Nat))), (DictEntry.mk (PyData.keyHash P0 "__firstlineno__") (Value.str "__firstlineno__" (473 : Nat)) (Value.int 71 (472 : Nat))), (DictEntry.mk (PyData.keyHash P0 "__init__") (Value.str "__init__" (480 : Nat)) (Value.ref (196 : Nat))), (DictEntry.mk (PyData.keyHash P0 "use") (Value.str "use" (488 : Nat)) (Value.ref (203 : Nat))), (DictEntry.mk (PyData.keyHash P0 "datum") (Value.str "datum" (496 : Nat)) (Value.ref (210 : Nat))), (DictEntry.mk (PyData.keyHash P0 "symbol_text") (Value.str "symbol_text" (504 : Nat)) (Value.ref (217 : Nat))), (DictEntry.mk (PyData.keyHash P0 "check_control") (Value.str "check_control" (513 : Nat)) (Value.ref (224 : Nat))), (DictEntry.mk (PyData.keyHash P0 "spread") (Value.str "spread" (524 : Nat)) (Value.ref (231 : Nat))), (DictEntry.mk (PyData.keyHash P0 "run") (Value.str "run" (535 : Nat)) (Value.ref (238 : Nat))), (DictEntry.mk (PyData.keyHash P0 "reckon") (Value.str "reckon" (547 : Nat)) (Value.ref (245 : Nat))), (DictEntry.mk (PyData.keyHash P0 "at_block") (Value.str "at_block" (558 : Nat)) (Value.ref (252 : Nat))), (DictEntry.mk (PyData.keyHash P0 "__static_attributes__") (Value.str "__static_attributes__" (560 : Nat)) (Value.ref (253 : Nat)))] (13 : Nat)) #[])
noncomputable def o221 : Params → Obj := fun P0 => (Obj.mk (Value.type "tuple") (none : Option Nat) (Data.seq #[] (0 : Nat)) #[])
noncomputable def o222 : Params → Obj := fun P0 => (Obj.mk Value.none (none : Option Nat) (Data.fields (List.toArray ((Value.int 73 (0 : Nat)) :: (Value.int 4 (0 : Nat)) :: (Value.ref (195 : Nat)) :: (Value.int 76 (0 : Nat)) :: (Value.int 4 (0 : Nat)) :: (Value.ref (202 : Nat)) :: (Value.int 79 (0 : Nat)) :: (Value.int 4 (0 : Nat)) :: (Value.ref (209 : Nat)) :: (Value.int 82 (0 : Nat)) :: (Value.int 4 (0 : Nat)) :: (Value.ref (216 : Nat)) :: (Value.int 85 (0 : Nat)) :: (Value.int 4 (0 : Nat)) :: (Value.ref (223 : Nat)) :: (Value.int 88 (0 : Nat)) :: (Value.int 4 (0 : Nat)) :: (Value.ref (230 : Nat)) :: (Value.int 99 (0 : Nat)) :: (Value.int 4 (0 : Nat)) :: (Value.ref (237 : Nat)) :: (Value.int 115 (0 : Nat)) :: (Value.int 4 (0 : Nat)) :: (Value.ref (244 : Nat)) :: (Value.int 124 (0 : Nat)) :: (Value.int 4 (0 : Nat)) :: (Value.ref (251 : Nat)) :: []))) #[])
noncomputable def o223 : Params → Obj := fun P0 => (Obj.mk (Value.type "code") (none : Option Nat) (Data.fields #[(Value.str "SmallLibrary" (464 : Nat)), (Value.str "SmallLibrary" (465 : Nat)), (Value.str "/claim/cut.py" (466 : Nat)), (Value.int 71 (0 : Nat)), (Value.int 0 (0 : Nat)), (Value.int 0 (0 : Nat)), (Value.int 0 (0 : Nat)), (Value.int 0 (0 : Nat)), (Value.ref (186 : Nat)), (Value.bool Bool.false), (Value.int 181 (0 : Nat)), (Value.ref (187 : Nat)), Value.none, Value.none, Value.none, Value.none, (Value.int 467 (0 : Nat)), (Value.int 71 (0 : Nat)), (Value.str "/claim/cut.py" (468 : Nat))]) #[])
noncomputable def o224 : Params → Obj := fun P0 => (Obj.mk (Value.type "frame") (none : Option Nat) Data.plain #[(some (Value.ref (188 : Nat))), (some (Value.ref (3 : Nat))), (some (Value.ref (185 : Nat))), none, (some (Value.str "scheme.smalllib" (417 : Nat))), none, (some (Value.ref (0 : Nat)))])
noncomputable def o225 : Params → Obj := fun P0 => (Obj.mk (Value.type "tuple") (none : Option Nat) (Data.seq #[] (0 : Nat)) #[])
noncomputable def o226 : Params → Obj := fun P0 => (Obj.mk Value.none (none : Option Nat) (Data.fields #[]) #[])
noncomputable def o227 : Params → Obj := fun P0 => (Obj.mk (Value.type "tuple") (none : Option Nat) (Data.seq #[(Value.str "self" (477 : Nat))] (0 : Nat)) #[])
noncomputable def o228 : Params → Obj := fun P0 => (Obj.mk (Value.type "tuple") (none : Option Nat) (Data.seq #[] (0 : Nat)) #[])
noncomputable def o229 : Params → Obj := by
  intro P0
  refine' (fun (x : Obj) (_ : (Obj.mk Value.none (none : Option Nat) (Data.func (FuncData.mk "__init__" "SmallLibrary.__init__" (fA f40m0) (FuncBody.stmts (fB f40m0)) (fC f40m0) (0 : Nat) (@List.nil (Prod Str Nat)) Value.none Value.none Value.none Value.none (none : Option Nat) Value.none Value.none (0 : Nat))) #[]) = x) => x) _ ?_
  rotate_left
  · exact (rfl : (Obj.mk Value.none (none : Option Nat) (Data.func (FuncData.mk "__init__" "SmallLibrary.__init__" (Arguments.mk _ _ _ _ _ _ _) (FuncBody.stmts (_ :: _)) (Scope.mk _ _ _ _ _) (0 : Nat) (@List.nil (Prod Str Nat)) Value.none Value.none Value.none Value.none (none : Option Nat) Value.none Value.none (0 : Nat))) #[]) = _)
noncomputable def o230 : Params → Obj := fun P0 => (Obj.mk (Value.type "code") (none : Option Nat) (Data.fields #[(Value.str "__init__" (474 : Nat)), (Value.str "SmallLibrary.__init__" (475 : Nat)), (Value.str "/claim/cut.py" (476 : Nat)), (Value.int 73 (0 : Nat)), (Value.int 1 (0 : Nat)), (Value.int 0 (0 : Nat)), (Value.int 0 (0 : Nat)), (Value.int 3 (0 : Nat)), (Value.ref (190 : Nat)), (Value.bool Bool.true), (Value.int 181 (0 : Nat)), (Value.ref (191 : Nat)), Value.none, (Value.ref (192 : Nat)), (Value.ref (193 : Nat)), (Value.ref (194 : Nat)), (Value.int 478 (0 : Nat)), (Value.int 73 (0 : Nat)), (Value.str "/claim/cut.py" (479 : Nat))]) #[])
noncomputable def o231 : Params → Obj := by
  intro P0
  refine' (fun (x : Obj) (_ : (Obj.mk (Value.type "function") (none : Option Nat) (Data.func (FuncData.mk "__init__" "SmallLibrary.__init__" (fA f40m0) (FuncBody.stmts (fB f40m0)) (fC f40m0) (3 : Nat) (@List.nil (Prod Str Nat)) Value.none Value.none Value.none (Value.str "scheme.smalllib" (417 : Nat)) (none : Option Nat) (Value.ref (195 : Nat)) Value.none (0 : Nat))) #[]) = x) => x) _ ?_
  rotate_left
  · exact (rfl : (Obj.mk (Value.type "function") (none : Option Nat) (Data.func (FuncData.mk "__init__" "SmallLibrary.__init__" (Arguments.mk _ _ _ _ _ _ _) (FuncBody.stmts (_ :: _)) (Scope.mk _ _ _ _ _) (3 : Nat) (@List.nil (Prod Str Nat)) Value.none Value.none Value.none (Value.str "scheme.smalllib" (417 : Nat)) (none : Option Nat) (Value.ref (195 : Nat)) Value.none (0 : Nat))) #[]) = _)
noncomputable def o232 : Params → Obj := fun P0 => (Obj.mk (Value.type "tuple") (none : Option Nat) (Data.seq #[] (0 : Nat)) #[])
noncomputable def o233 : Params → Obj := fun P0 => (Obj.mk Value.none (none : Option Nat) (Data.fields #[]) #[])
noncomputable def o234 : Params → Obj := fun P0 => (Obj.mk (Value.type "tuple") (none : Option Nat) (Data.seq #[(Value.str "self" (484 : Nat)), (Value.str "heap" (485 : Nat))] (0 : Nat)) #[])
noncomputable def o235 : Params → Obj := fun P0 => (Obj.mk (Value.type "tuple") (none : Option Nat) (Data.seq #[] (0 : Nat)) #[])
noncomputable def o236 : Params → Obj := by
  intro P0
  refine' (fun (x : Obj) (_ : (Obj.mk Value.none (none : Option Nat) (Data.func (FuncData.mk "use" "SmallLibrary.use" (fA f40m1) (FuncBody.stmts (fB f40m1)) (fC f40m1) (0 : Nat) (@List.nil (Prod Str Nat)) Value.none Value.none Value.none Value.none (none : Option Nat) Value.none Value.none (0 : Nat))) #[]) = x) => x) _ ?_
  rotate_left
  · exact (rfl : (Obj.mk Value.none (none : Option Nat) (Data.func (FuncData.mk "use" "SmallLibrary.use" (Arguments.mk _ _ _ _ _ _ _) (FuncBody.stmts (_ :: _)) (Scope.mk _ _ _ _ _) (0 : Nat) (@List.nil (Prod Str Nat)) Value.none Value.none Value.none Value.none (none : Option Nat) Value.none Value.none (0 : Nat))) #[]) = _)
noncomputable def o237 : Params → Obj := fun P0 => (Obj.mk (Value.type "code") (none : Option Nat) (Data.fields #[(Value.str "use" (481 : Nat)), (Value.str "SmallLibrary.use" (482 : Nat)), (Value.str "/claim/cut.py" (483 : Nat)), (Value.int 76 (0 : Nat)), (Value.int 2 (0 : Nat)), (Value.int 0 (0 : Nat)), (Value.int 0 (0 : Nat)), (Value.int 3 (0 : Nat)), (Value.ref (197 : Nat)), (Value.bool Bool.true), (Value.int 181 (0 : Nat)), (Value.ref (198 : Nat)), Value.none, (Value.ref (199 : Nat)), (Value.ref (200 : Nat)), (Value.ref (201 : Nat)), (Value.int 486 (0 : Nat)), (Value.int 76 (0 : Nat)), (Value.str "/claim/cut.py" (487 : Nat))]) #[])
noncomputable def o238 : Params → Obj := by
  intro P0
  refine' (fun (x : Obj) (_ : (Obj.mk (Value.type "function") (none : Option Nat) (Data.func (FuncData.mk "use" "SmallLibrary.use" (fA f40m1) (FuncBody.stmts (fB f40m1)) (fC f40m1) (3 : Nat) (@List.nil (Prod Str Nat)) Value.none Value.none Value.none (Value.str "scheme.smalllib" (417 : Nat)) (none : Option Nat) (Value.ref (202 : Nat)) Value.none (0 : Nat))) #[]) = x) => x) _ ?_
  rotate_left
  · exact (rfl : (Obj.mk (Value.type "function") (none : Option Nat) (Data.func (FuncData.mk "use" "SmallLibrary.use" (Arguments.mk _ _ _ _ _ _ _) (FuncBody.stmts (_ :: _)) (Scope.mk _ _ _ _ _) (3 : Nat) (@List.nil (Prod Str Nat)) Value.none Value.none Value.none (Value.str "scheme.smalllib" (417 : Nat)) (none : Option Nat) (Value.ref (202 : Nat)) Value.none (0 : Nat))) #[]) = _)
noncomputable def o239 : Params → Obj := fun P0 => (Obj.mk (Value.type "tuple") (none : Option Nat) (Data.seq #[] (0 : Nat)) #[])
noncomputable def o240 : Params → Obj := fun P0 => (Obj.mk Value.none (none : Option Nat) (Data.fields #[]) #[])
noncomputable def o241 : Params → Obj := fun P0 => (Obj.mk (Value.type "tuple") (none : Option Nat) (Data.seq #[(Value.str "self" (492 : Nat)), (Value.str "word" (493 : Nat))] (0 : Nat)) #[])
noncomputable def o242 : Params → Obj := fun P0 => (Obj.mk (Value.type "tuple") (none : Option Nat) (Data.seq #[] (0 : Nat)) #[])
noncomputable def o243 : Params → Obj := by
  intro P0
  refine' (fun (x : Obj) (_ : (Obj.mk Value.none (none : Option Nat) (Data.func (FuncData.mk "datum" "SmallLibrary.datum" (fA f40m2) (FuncBody.stmts (fB f40m2)) (fC f40m2) (0 : Nat) (@List.nil (Prod Str Nat)) Value.none Value.none Value.none Value.none (none : Option Nat) Value.none Value.none (0 : Nat))) #[]) = x) => x) _ ?_
  rotate_left
  · exact (rfl : (Obj.mk Value.none (none : Option Nat) (Data.func (FuncData.mk "datum" "SmallLibrary.datum" (Arguments.mk _ _ _ _ _ _ _) (FuncBody.stmts (_ :: _)) (Scope.mk _ _ _ _ _) (0 : Nat) (@List.nil (Prod Str Nat)) Value.none Value.none Value.none Value.none (none : Option Nat) Value.none Value.none (0 : Nat))) #[]) = _)
noncomputable def o244 : Params → Obj := fun P0 => (Obj.mk (Value.type "code") (none : Option Nat) (Data.fields #[(Value.str "datum" (489 : Nat)), (Value.str "SmallLibrary.datum" (490 : Nat)), (Value.str "/claim/cut.py" (491 : Nat)), (Value.int 79 (0 : Nat)), (Value.int 2 (0 : Nat)), (Value.int 0 (0 : Nat)), (Value.int 0 (0 : Nat)), (Value.int 3 (0 : Nat)), (Value.ref (204 : Nat)), (Value.bool Bool.true), (Value.int 181 (0 : Nat)), (Value.ref (205 : Nat)), Value.none, (Value.ref (206 : Nat)), (Value.ref (207 : Nat)), (Value.ref (208 : Nat)), (Value.int 494 (0 : Nat)), (Value.int 79 (0 : Nat)), (Value.str "/claim/cut.py" (495 : Nat))]) #[])
noncomputable def o245 : Params → Obj := by
  intro P0
  refine' (fun (x : Obj) (_ : (Obj.mk (Value.type "function") (none : Option Nat) (Data.func (FuncData.mk "datum" "SmallLibrary.datum" (fA f40m2) (FuncBody.stmts (fB f40m2)) (fC f40m2) (3 : Nat) (@List.nil (Prod Str Nat)) Value.none Value.none Value.none (Value.str "scheme.smalllib" (417 : Nat)) (none : Option Nat) (Value.ref (209 : Nat)) Value.none (0 : Nat))) #[]) = x) => x) _ ?_
  rotate_left
  · exact (rfl : (Obj.mk (Value.type "function") (none : Option Nat) (Data.func (FuncData.mk "datum" "SmallLibrary.datum" (Arguments.mk _ _ _ _ _ _ _) (FuncBody.stmts (_ :: _)) (Scope.mk _ _ _ _ _) (3 : Nat) (@List.nil (Prod Str Nat)) Value.none Value.none Value.none (Value.str "scheme.smalllib" (417 : Nat)) (none : Option Nat) (Value.ref (209 : Nat)) Value.none (0 : Nat))) #[]) = _)
noncomputable def o246 : Params → Obj := fun P0 => (Obj.mk (Value.type "tuple") (none : Option Nat) (Data.seq #[] (0 : Nat)) #[])
noncomputable def o247 : Params → Obj := fun P0 => (Obj.mk Value.none (none : Option Nat) (Data.fields #[]) #[])
noncomputable def o248 : Params → Obj := fun P0 => (Obj.mk (Value.type "tuple") (none : Option Nat) (Data.seq #[(Value.str "self" (500 : Nat)), (Value.str "symbol" (501 : Nat))] (0 : Nat)) #[])
noncomputable def o249 : Params → Obj := fun P0 => (Obj.mk (Value.type "tuple") (none : Option Nat) (Data.seq #[] (0 : Nat)) #[])
noncomputable def o250 : Params → Obj := by
  intro P0
  refine' (fun (x : Obj) (_ : (Obj.mk Value.none (none : Option Nat) (Data.func (FuncData.mk "symbol_text" "SmallLibrary.symbol_text" (fA f40m3) (FuncBody.stmts (fB f40m3)) (fC f40m3) (0 : Nat) (@List.nil (Prod Str Nat)) Value.none Value.none Value.none Value.none (none : Option Nat) Value.none Value.none (0 : Nat))) #[]) = x) => x) _ ?_
  rotate_left
  · exact (rfl : (Obj.mk Value.none (none : Option Nat) (Data.func (FuncData.mk "symbol_text" "SmallLibrary.symbol_text" (Arguments.mk _ _ _ _ _ _ _) (FuncBody.stmts (_ :: _)) (Scope.mk _ _ _ _ _) (0 : Nat) (@List.nil (Prod Str Nat)) Value.none Value.none Value.none Value.none (none : Option Nat) Value.none Value.none (0 : Nat))) #[]) = _)
noncomputable def o251 : Params → Obj := fun P0 => (Obj.mk (Value.type "code") (none : Option Nat) (Data.fields #[(Value.str "symbol_text" (497 : Nat)), (Value.str "SmallLibrary.symbol_text" (498 : Nat)), (Value.str "/claim/cut.py" (499 : Nat)), (Value.int 82 (0 : Nat)), (Value.int 2 (0 : Nat)), (Value.int 0 (0 : Nat)), (Value.int 0 (0 : Nat)), (Value.int 3 (0 : Nat)), (Value.ref (211 : Nat)), (Value.bool Bool.true), (Value.int 181 (0 : Nat)), (Value.ref (212 : Nat)), Value.none, (Value.ref (213 : Nat)), (Value.ref (214 : Nat)), (Value.ref (215 : Nat)), (Value.int 502 (0 : Nat)), (Value.int 82 (0 : Nat)), (Value.str "/claim/cut.py" (503 : Nat))]) #[])
noncomputable def o252 : Params → Obj := by
  intro P0
  refine' (fun (x : Obj) (_ : (Obj.mk (Value.type "function") (none : Option Nat) (Data.func (FuncData.mk "symbol_text" "SmallLibrary.symbol_text" (fA f40m3) (FuncBody.stmts (fB f40m3)) (fC f40m3) (3 : Nat) (@List.nil (Prod Str Nat)) Value.none Value.none Value.none (Value.str "scheme.smalllib" (417 : Nat)) (none : Option Nat) (Value.ref (216 : Nat)) Value.none (0 : Nat))) #[]) = x) => x) _ ?_
  rotate_left
  · exact (rfl : (Obj.mk (Value.type "function") (none : Option Nat) (Data.func (FuncData.mk "symbol_text" "SmallLibrary.symbol_text" (Arguments.mk _ _ _ _ _ _ _) (FuncBody.stmts (_ :: _)) (Scope.mk _ _ _ _ _) (3 : Nat) (@List.nil (Prod Str Nat)) Value.none Value.none Value.none (Value.str "scheme.smalllib" (417 : Nat)) (none : Option Nat) (Value.ref (216 : Nat)) Value.none (0 : Nat))) #[]) = _)
noncomputable def o253 : Params → Obj := fun P0 => (Obj.mk (Value.type "tuple") (none : Option Nat) (Data.seq #[] (0 : Nat)) #[])
noncomputable def o254 : Params → Obj := fun P0 => (Obj.mk Value.none (none : Option Nat) (Data.fields #[]) #[])
noncomputable def o255 : Params → Obj := fun P0 => (Obj.mk (Value.type "tuple") (none : Option Nat) (Data.seq #[(Value.str "self" (508 : Nat)), (Value.str "index" (509 : Nat)), (Value.str "many" (510 : Nat))] (0 : Nat)) #[])
noncomputable def o256 : Params → Obj := fun P0 => (Obj.mk (Value.type "tuple") (none : Option Nat) (Data.seq #[] (0 : Nat)) #[])
noncomputable def o257 : Params → Obj := by
  intro P0
  refine' (fun (x : Obj) (_ : (Obj.mk Value.none (none : Option Nat) (Data.func (FuncData.mk "check_control" "SmallLibrary.check_control" (fA f40m4) (FuncBody.stmts (fB f40m4)) (fC f40m4) (0 : Nat) (@List.nil (Prod Str Nat)) Value.none Value.none Value.none Value.none (none : Option Nat) Value.none Value.none (0 : Nat))) #[]) = x) => x) _ ?_
  rotate_left
  · exact (rfl : (Obj.mk Value.none (none : Option Nat) (Data.func (FuncData.mk "check_control" "SmallLibrary.check_control" (Arguments.mk _ _ _ _ _ _ _) (FuncBody.stmts (_ :: _)) (Scope.mk _ _ _ _ _) (0 : Nat) (@List.nil (Prod Str Nat)) Value.none Value.none Value.none Value.none (none : Option Nat) Value.none Value.none (0 : Nat))) #[]) = _)
noncomputable def o258 : Params → Obj := fun P0 => (Obj.mk (Value.type "code") (none : Option Nat) (Data.fields #[(Value.str "check_control" (505 : Nat)), (Value.str "SmallLibrary.check_control" (506 : Nat)), (Value.str "/claim/cut.py" (507 : Nat)), (Value.int 85 (0 : Nat)), (Value.int 3 (0 : Nat)), (Value.int 0 (0 : Nat)), (Value.int 0 (0 : Nat)), (Value.int 3 (0 : Nat)), (Value.ref (218 : Nat)), (Value.bool Bool.true), (Value.int 181 (0 : Nat)), (Value.ref (219 : Nat)), Value.none, (Value.ref (220 : Nat)), (Value.ref (221 : Nat)), (Value.ref (222 : Nat)), (Value.int 511 (0 : Nat)), (Value.int 85 (0 : Nat)), (Value.str "/claim/cut.py" (512 : Nat))]) #[])
noncomputable def o259 : Params → Obj := by
  intro P0
  refine' (fun (x : Obj) (_ : (Obj.mk (Value.type "function") (none : Option Nat) (Data.func (FuncData.mk "check_control" "SmallLibrary.check_control" (fA f40m4) (FuncBody.stmts (fB f40m4)) (fC f40m4) (3 : Nat) (@List.nil (Prod Str Nat)) Value.none Value.none Value.none (Value.str "scheme.smalllib" (417 : Nat)) (none : Option Nat) (Value.ref (223 : Nat)) Value.none (0 : Nat))) #[]) = x) => x) _ ?_
  rotate_left
  · exact (rfl : (Obj.mk (Value.type "function") (none : Option Nat) (Data.func (FuncData.mk "check_control" "SmallLibrary.check_control" (Arguments.mk _ _ _ _ _ _ _) (FuncBody.stmts (_ :: _)) (Scope.mk _ _ _ _ _) (3 : Nat) (@List.nil (Prod Str Nat)) Value.none Value.none Value.none (Value.str "scheme.smalllib" (417 : Nat)) (none : Option Nat) (Value.ref (223 : Nat)) Value.none (0 : Nat))) #[]) = _)
noncomputable def o260 : Params → Obj := fun P0 => (Obj.mk (Value.type "tuple") (none : Option Nat) (Data.seq #[] (0 : Nat)) #[])
noncomputable def o261 : Params → Obj := fun P0 => (Obj.mk Value.none (none : Option Nat) (Data.fields #[]) #[])
noncomputable def o262 : Params → Obj := fun P0 => (Obj.mk (Value.type "tuple") (none : Option Nat) (Data.seq #[(Value.str "self" (517 : Nat)), (Value.str "words" (518 : Nat)), (Value.str "found" (519 : Nat)), (Value.str "here" (520 : Nat)), (Value.str "left" (521 : Nat))] (0 : Nat)) #[])
noncomputable def o263 : Params → Obj := fun P0 => (Obj.mk (Value.type "tuple") (none : Option Nat) (Data.seq #[] (0 : Nat)) #[])
noncomputable def o264 : Params → Obj := by
  intro P0
  refine' (fun (x : Obj) (_ : (Obj.mk Value.none (none : Option Nat) (Data.func (FuncData.mk "spread" "SmallLibrary.spread" (fA f40m5) (FuncBody.stmts (fB f40m5)) (fC f40m5) (0 : Nat) (@List.nil (Prod Str Nat)) Value.none Value.none Value.none Value.none (none : Option Nat) Value.none Value.none (0 : Nat))) #[]) = x) => x) _ ?_
  rotate_left
  · exact (rfl : (Obj.mk Value.none (none : Option Nat) (Data.func (FuncData.mk "spread" "SmallLibrary.spread" (Arguments.mk _ _ _ _ _ _ _) (FuncBody.stmts (_ :: _)) (Scope.mk _ _ _ _ _) (0 : Nat) (@List.nil (Prod Str Nat)) Value.none Value.none Value.none Value.none (none : Option Nat) Value.none Value.none (0 : Nat))) #[]) = _)
noncomputable def o265 : Params → Obj := fun P0 => (Obj.mk (Value.type "code") (none : Option Nat) (Data.fields #[(Value.str "spread" (514 : Nat)), (Value.str "SmallLibrary.spread" (515 : Nat)), (Value.str "/claim/cut.py" (516 : Nat)), (Value.int 88 (0 : Nat)), (Value.int 2 (0 : Nat)), (Value.int 0 (0 : Nat)), (Value.int 0 (0 : Nat)), (Value.int 3 (0 : Nat)), (Value.ref (225 : Nat)), (Value.bool Bool.true), (Value.int 181 (0 : Nat)), (Value.ref (226 : Nat)), Value.none, (Value.ref (227 : Nat)), (Value.ref (228 : Nat)), (Value.ref (229 : Nat)), (Value.int 522 (0 : Nat)), (Value.int 88 (0 : Nat)), (Value.str "/claim/cut.py" (523 : Nat))]) #[])
noncomputable def o266 : Params → Obj := by
  intro P0
  refine' (fun (x : Obj) (_ : (Obj.mk (Value.type "function") (none : Option Nat) (Data.func (FuncData.mk "spread" "SmallLibrary.spread" (fA f40m5) (FuncBody.stmts (fB f40m5)) (fC f40m5) (3 : Nat) (@List.nil (Prod Str Nat)) Value.none Value.none Value.none (Value.str "scheme.smalllib" (417 : Nat)) (none : Option Nat) (Value.ref (230 : Nat)) Value.none (0 : Nat))) #[]) = x) => x) _ ?_
  rotate_left
  · exact (rfl : (Obj.mk (Value.type "function") (none : Option Nat) (Data.func (FuncData.mk "spread" "SmallLibrary.spread" (Arguments.mk _ _ _ _ _ _ _) (FuncBody.stmts (_ :: _)) (Scope.mk _ _ _ _ _) (3 : Nat) (@List.nil (Prod Str Nat)) Value.none Value.none Value.none (Value.str "scheme.smalllib" (417 : Nat)) (none : Option Nat) (Value.ref (230 : Nat)) Value.none (0 : Nat))) #[]) = _)
noncomputable def o267 : Params → Obj := fun P0 => (Obj.mk (Value.type "tuple") (none : Option Nat) (Data.seq #[] (0 : Nat)) #[])
noncomputable def o268 : Params → Obj := fun P0 => (Obj.mk Value.none (none : Option Nat) (Data.fields #[]) #[])
noncomputable def o269 : Params → Obj := fun P0 => (Obj.mk (Value.type "tuple") (none : Option Nat) (Data.seq #[(Value.str "self" (528 : Nat)), (Value.str "op" (529 : Nat)), (Value.str "words" (530 : Nat)), (Value.str "name" (531 : Nat)), (Value.str "many" (532 : Nat))] (0 : Nat)) #[])
noncomputable def o270 : Params → Obj := fun P0 => (Obj.mk (Value.type "tuple") (none : Option Nat) (Data.seq #[] (0 : Nat)) #[])
noncomputable def o271 : Params → Obj := by
  intro P0
  refine' (fun (x : Obj) (_ : (Obj.mk Value.none (none : Option Nat) (Data.func (FuncData.mk "run" "SmallLibrary.run" (fA f40m6) (FuncBody.stmts (fB f40m6)) (fC f40m6) (0 : Nat) (@List.nil (Prod Str Nat)) Value.none Value.none Value.none Value.none (none : Option Nat) Value.none Value.none (0 : Nat))) #[]) = x) => x) _ ?_
  rotate_left
  · exact (rfl : (Obj.mk Value.none (none : Option Nat) (Data.func (FuncData.mk "run" "SmallLibrary.run" (Arguments.mk _ _ _ _ _ _ _) (FuncBody.stmts (_ :: _)) (Scope.mk _ _ _ _ _) (0 : Nat) (@List.nil (Prod Str Nat)) Value.none Value.none Value.none Value.none (none : Option Nat) Value.none Value.none (0 : Nat))) #[]) = _)
noncomputable def o272 : Params → Obj := fun P0 => (Obj.mk (Value.type "code") (none : Option Nat) (Data.fields #[(Value.str "run" (525 : Nat)), (Value.str "SmallLibrary.run" (526 : Nat)), (Value.str "/claim/cut.py" (527 : Nat)), (Value.int 99 (0 : Nat)), (Value.int 3 (0 : Nat)), (Value.int 0 (0 : Nat)), (Value.int 0 (0 : Nat)), (Value.int 3 (0 : Nat)), (Value.ref (232 : Nat)), (Value.bool Bool.true), (Value.int 181 (0 : Nat)), (Value.ref (233 : Nat)), Value.none, (Value.ref (234 : Nat)), (Value.ref (235 : Nat)), (Value.ref (236 : Nat)), (Value.int 533 (0 : Nat)), (Value.int 99 (0 : Nat)), (Value.str "/claim/cut.py" (534 : Nat))]) #[])
noncomputable def o273 : Params → Obj := by
  intro P0
  refine' (fun (x : Obj) (_ : (Obj.mk (Value.type "function") (none : Option Nat) (Data.func (FuncData.mk "run" "SmallLibrary.run" (fA f40m6) (FuncBody.stmts (fB f40m6)) (fC f40m6) (3 : Nat) (@List.nil (Prod Str Nat)) Value.none Value.none Value.none (Value.str "scheme.smalllib" (417 : Nat)) (none : Option Nat) (Value.ref (237 : Nat)) Value.none (0 : Nat))) #[]) = x) => x) _ ?_
  rotate_left
  · exact (rfl : (Obj.mk (Value.type "function") (none : Option Nat) (Data.func (FuncData.mk "run" "SmallLibrary.run" (Arguments.mk _ _ _ _ _ _ _) (FuncBody.stmts (_ :: _)) (Scope.mk _ _ _ _ _) (3 : Nat) (@List.nil (Prod Str Nat)) Value.none Value.none Value.none (Value.str "scheme.smalllib" (417 : Nat)) (none : Option Nat) (Value.ref (237 : Nat)) Value.none (0 : Nat))) #[]) = _)
noncomputable def o274 : Params → Obj := fun P0 => (Obj.mk (Value.type "tuple") (none : Option Nat) (Data.seq #[] (0 : Nat)) #[])
noncomputable def o275 : Params → Obj := fun P0 => (Obj.mk Value.none (none : Option Nat) (Data.fields #[]) #[])
noncomputable def o276 : Params → Obj := fun P0 => (Obj.mk (Value.type "tuple") (none : Option Nat) (Data.seq #[(Value.str "self" (539 : Nat)), (Value.str "op" (540 : Nat)), (Value.str "words" (541 : Nat)), (Value.str "place" (542 : Nat)), (Value.str "one" (543 : Nat)), (Value.str "other" (544 : Nat))] (0 : Nat)) #[])
noncomputable def o277 : Params → Obj := fun P0 => (Obj.mk (Value.type "tuple") (none : Option Nat) (Data.seq #[] (0 : Nat)) #[])
noncomputable def o278 : Params → Obj := by
  intro P0
  refine' (fun (x : Obj) (_ : (Obj.mk Value.none (none : Option Nat) (Data.func (FuncData.mk "reckon" "SmallLibrary.reckon" (fA f40m7) (FuncBody.stmts (fB f40m7)) (fC f40m7) (0 : Nat) (@List.nil (Prod Str Nat)) Value.none Value.none Value.none Value.none (none : Option Nat) Value.none Value.none (0 : Nat))) #[]) = x) => x) _ ?_
  rotate_left
  · exact (rfl : (Obj.mk Value.none (none : Option Nat) (Data.func (FuncData.mk "reckon" "SmallLibrary.reckon" (Arguments.mk _ _ _ _ _ _ _) (FuncBody.stmts (_ :: _)) (Scope.mk _ _ _ _ _) (0 : Nat) (@List.nil (Prod Str Nat)) Value.none Value.none Value.none Value.none (none : Option Nat) Value.none Value.none (0 : Nat))) #[]) = _)
noncomputable def o279 : Params → Obj := fun P0 => (Obj.mk (Value.type "code") (none : Option Nat) (Data.fields #[(Value.str "reckon" (536 : Nat)), (Value.str "SmallLibrary.reckon" (537 : Nat)), (Value.str "/claim/cut.py" (538 : Nat)), (Value.int 115 (0 : Nat)), (Value.int 3 (0 : Nat)), (Value.int 0 (0 : Nat)), (Value.int 0 (0 : Nat)), (Value.int 3 (0 : Nat)), (Value.ref (239 : Nat)), (Value.bool Bool.true), (Value.int 181 (0 : Nat)), (Value.ref (240 : Nat)), Value.none, (Value.ref (241 : Nat)), (Value.ref (242 : Nat)), (Value.ref (243 : Nat)), (Value.int 545 (0 : Nat)), (Value.int 115 (0 : Nat)), (Value.str "/claim/cut.py" (546 : Nat))]) #[])
noncomputable def o280 : Params → Obj := by
  intro P0
  refine' (fun (x : Obj) (_ : (Obj.mk (Value.type "function") (none : Option Nat) (Data.func (FuncData.mk "reckon" "SmallLibrary.reckon" (fA f40m7) (FuncBody.stmts (fB f40m7)) (fC f40m7) (3 : Nat) (@List.nil (Prod Str Nat)) Value.none Value.none Value.none (Value.str "scheme.smalllib" (417 : Nat)) (none : Option Nat) (Value.ref (244 : Nat)) Value.none (0 : Nat))) #[]) = x) => x) _ ?_
  rotate_left
  · exact (rfl : (Obj.mk (Value.type "function") (none : Option Nat) (Data.func (FuncData.mk "reckon" "SmallLibrary.reckon" (Arguments.mk _ _ _ _ _ _ _) (FuncBody.stmts (_ :: _)) (Scope.mk _ _ _ _ _) (3 : Nat) (@List.nil (Prod Str Nat)) Value.none Value.none Value.none (Value.str "scheme.smalllib" (417 : Nat)) (none : Option Nat) (Value.ref (244 : Nat)) Value.none (0 : Nat))) #[]) = _)
noncomputable def o281 : Params → Obj := fun P0 => (Obj.mk (Value.type "tuple") (none : Option Nat) (Data.seq #[] (0 : Nat)) #[])
noncomputable def o282 : Params → Obj := fun P0 => (Obj.mk Value.none (none : Option Nat) (Data.fields #[]) #[])
noncomputable def o283 : Params → Obj := fun P0 => (Obj.mk (Value.type "tuple") (none : Option Nat) (Data.seq #[(Value.str "self" (551 : Nat)), (Value.str "op" (552 : Nat)), (Value.str "words" (553 : Nat)), (Value.str "kind" (554 : Nat)), (Value.str "at" (555 : Nat))] (0 : Nat)) #[])
noncomputable def o284 : Params → Obj := fun P0 => (Obj.mk (Value.type "tuple") (none : Option Nat) (Data.seq #[] (0 : Nat)) #[])
noncomputable def o285 : Params → Obj := by
  intro P0
  refine' (fun (x : Obj) (_ : (Obj.mk Value.none (none : Option Nat) (Data.func (FuncData.mk "at_block" "SmallLibrary.at_block" (fA f40m8) (FuncBody.stmts (fB f40m8)) (fC f40m8) (0 : Nat) (@List.nil (Prod Str Nat)) Value.none Value.none Value.none Value.none (none : Option Nat) Value.none Value.none (0 : Nat))) #[]) = x) => x) _ ?_
  rotate_left
  · exact (rfl : (Obj.mk Value.none (none : Option Nat) (Data.func (FuncData.mk "at_block" "SmallLibrary.at_block" (Arguments.mk _ _ _ _ _ _ _) (FuncBody.stmts (_ :: _)) (Scope.mk _ _ _ _ _) (0 : Nat) (@List.nil (Prod Str Nat)) Value.none Value.none Value.none Value.none (none : Option Nat) Value.none Value.none (0 : Nat))) #[]) = _)
noncomputable def o286 : Params → Obj := fun P0 => (Obj.mk (Value.type "code") (none : Option Nat) (Data.fields #[(Value.str "at_block" (548 : Nat)), (Value.str "SmallLibrary.at_block" (549 : Nat)), (Value.str "/claim/cut.py" (550 : Nat)), (Value.int 124 (0 : Nat)), (Value.int 3 (0 : Nat)), (Value.int 0 (0 : Nat)), (Value.int 0 (0 : Nat)), (Value.int 3 (0 : Nat)), (Value.ref (246 : Nat)), (Value.bool Bool.true), (Value.int 181 (0 : Nat)), (Value.ref (247 : Nat)), Value.none, (Value.ref (248 : Nat)), (Value.ref (249 : Nat)), (Value.ref (250 : Nat)), (Value.int 556 (0 : Nat)), (Value.int 124 (0 : Nat)), (Value.str "/claim/cut.py" (557 : Nat))]) #[])
noncomputable def o287 : Params → Obj := by
  intro P0
  refine' (fun (x : Obj) (_ : (Obj.mk (Value.type "function") (none : Option Nat) (Data.func (FuncData.mk "at_block" "SmallLibrary.at_block" (fA f40m8) (FuncBody.stmts (fB f40m8)) (fC f40m8) (3 : Nat) (@List.nil (Prod Str Nat)) Value.none Value.none Value.none (Value.str "scheme.smalllib" (417 : Nat)) (none : Option Nat) (Value.ref (251 : Nat)) Value.none (0 : Nat))) #[]) = x) => x) _ ?_
  rotate_left
  · exact (rfl : (Obj.mk (Value.type "function") (none : Option Nat) (Data.func (FuncData.mk "at_block" "SmallLibrary.at_block" (Arguments.mk _ _ _ _ _ _ _) (FuncBody.stmts (_ :: _)) (Scope.mk _ _ _ _ _) (3 : Nat) (@List.nil (Prod Str Nat)) Value.none Value.none Value.none (Value.str "scheme.smalllib" (417 : Nat)) (none : Option Nat) (Value.ref (251 : Nat)) Value.none (0 : Nat))) #[]) = _)
noncomputable def o288 : Params → Obj := fun P0 => (Obj.mk (Value.type "tuple") (none : Option Nat) (Data.seq #[(Value.str "heap" (559 : Nat))] (0 : Nat)) #[])
noncomputable def o289 : Params → Obj := fun P0 => (Obj.mk (Value.type "dict") (none : Option Nat) (Data.dict #[(DictEntry.mk (PyData.keyHash P0 "__module__") (Value.str "__module__" (469 : Nat)) (Value.str "scheme.smalllib" (417 : Nat))), (DictEntry.mk (PyData.keyHash P0 "__firstlineno__") (Value.str "__firstlineno__" (473 : Nat)) (Value.int 71 (472 : Nat))), (DictEntry.mk (PyData.keyHash P0 "__init__") (Value.str "__init__" (480 : Nat)) (Value.ref (196 : Nat))), (DictEntry.mk (PyData.keyHash P0 "use") (Value.str "use" (488 : Nat)) (Value.ref (203 : Nat))), (DictEntry.mk (PyData.keyHash P0 "datum") (Value.str "datum" (496 : Nat)) (Value.ref (210 : Nat))), (DictEntry.mk (PyData.keyHash P0 "symbol_text") (Value.str "symbol_text" (504 : Nat)) (Value.ref (217 : Nat))), (DictEntry.mk (PyData.keyHash P0 "check_control") (Value.str "check_control" (513 : Nat)) (Value.ref (224 : Nat))), (DictEntry.mk (PyData.keyHash P0 "spread") (Value.str "spread" (524 : Nat)) (Value.ref (231 : Nat))), (DictEntry.mk (PyData.keyHash P0 "run") (Value.str "run" (535 : Nat)) (Value.ref (238 : Nat))), (DictEntry.mk (PyData.keyHash P0 "reckon") (Value.str "reckon" (547 : Nat)) (Value.ref (245 : Nat))), (DictEntry.mk (PyData.keyHash P0 "at_block") (Value.str "at_block" (558 : Nat)) (Value.ref (252 : Nat))), (DictEntry.mk (PyData.keyHash P0 "__static_attributes__") (Value.str "__static_attributes__" (560 : Nat)) (Value.ref (253 : Nat))), (DictEntry.mk (PyData.keyHash P0 "__dict__") (Value.str "__dict__" (562 : Nat)) (Value.ref (256 : Nat))), (DictEntry.mk (PyData.keyHash P0 "__weakref__") (Value.str "__weakref__" (564 : Nat)) (Value.ref (257 : Nat))), (DictEntry.mk (PyData.keyHash P0 "__doc__") (Value.str "__doc__" (565 : Nat)) Value.none)] (4 : Nat)) #[])
noncomputable def o290 : Params → Obj := fun P0 => (Obj.mk (Value.type "type") (none : Option Nat) (Data.cls (ClassData.mk "SmallLibrary" [(Value.type "object")] [(Value.ref (255 : Nat)), (Value.type "object")] (254 : Nat) "SmallLibrary" Bool.true [] [] Bool.false none Bool.false)) #[none, none, (some (Value.str "SmallLibrary" (462 : Nat))), (some (Value.str "SmallLibrary" (470 : Nat))), (some (Value.builtin "object.__new__")), (some (Value.bool Bool.true))])
noncomputable def o291 : Params → Obj := fun P0 => (Obj.mk (Value.type "getset_descriptor") (none : Option Nat) (Data.fields #[(Value.str "__dict__" (561 : Nat)), (Value.ref (255 : Nat)), (Value.builtin "function.__dict__"), (Value.builtin "function.__dict__#set")]) #[])
noncomputable def o292 : Params → Obj := fun P0 => (Obj.mk (Value.type "getset_descriptor") (none : Option Nat) (Data.fields #[(Value.str "__weakref__" (563 : Nat)), (Value.ref (255 : Nat)), (Value.builtin "ExceptionGroup.__weakref__"), Value.none]) #[])
noncomputable def o293 : Params → Obj := fun P0 => (Obj.mk (Value.type "super") (none : Option Nat) (Data.fields #[(Value.ref (255 : Nat)), (Value.ref (255 : Nat)), (Value.ref (255 : Nat))]) #[])
noncomputable def o294 : Params → Obj := fun P0 => (Obj.mk (Value.type "builtin_function_or_method") (none : Option Nat) (Data.fields #[(Value.builtin "object.__init_subclass__"), (Value.ref (255 : Nat))]) #[])
noncomputable def o295 : Params → Obj := fun P0 => (Obj.mk (Value.type "tuple") (none : Option Nat) (Data.seq #[] (0 : Nat)) #[])
noncomputable def o296 : Params → Obj := fun P0 => (Obj.mk (Value.type "builtin_function_or_method") (none : Option Nat) (Data.fields #[(Value.builtin "type.__prepare__"), (Value.type "type")]) #[])
noncomputable def o297 : Params → Obj := fun P0 => (Obj.mk (Value.type "dict") (none : Option Nat) (Data.dict #[(DictEntry.mk (PyData.keyHash P0 "__module__") (Value.str "__module__" (577 : Nat)) (Value.str "scheme.heap" (568 : Nat))), (DictEntry.mk (PyData.keyHash P0 "__qualname__") (Value.str "__qualname__" (579 : Nat)) (Value.str "Heap" (578 : Nat))), (DictEntry.mk (PyData.keyHash P0 "__firstlineno__") (Value.str "__firstlineno__" (581 : Nat)) (Value.int 134 (580 : Nat))), (DictEntry.mk (PyData.keyHash P0 "__init__") (Value.str "__init__" (589 : Nat)) (Value.ref (273 : Nat))), (DictEntry.mk (PyData.keyHash P0 "used") (Value.str "used" (596 : Nat)) (Value.ref (280 : Nat))), (DictEntry.mk (PyData.keyHash P0 "is_over") (Value.str "is_over" (603 : Nat)) (Value.ref (287 : Nat))), (DictEntry.mk (PyData.keyHash P0 "allocate") (Value.str "allocate" (613 : Nat)) (Value.ref (294 : Nat))), (DictEntry.mk (PyData.keyHash P0 "header_at") (Value.str "header_at" (622 : Nat)) (Value.ref (301 : Nat))), (DictEntry.mk (PyData.keyHash P0 "kind_of") (Value.str "kind_of" (630 : Nat)) (Value.ref (308 : Nat))), (DictEntry.mk (PyData.keyHash P0 "length_of") (Value.str "length_of" (638 : Nat)) (Value.ref (315 : Nat))), (DictEntry.mk (PyData.keyHash P0 "is_kind") (Value.str "is_kind" (647 : Nat)) (Value.ref (322 : Nat))), (DictEntry.mk (PyData.keyHash P0 "place_of") (Value.str "place_of" (656 : Nat)) (Value.ref (329 : Nat))), (DictEntry.mk (PyData.keyHash P0 "field") (Value.str "field" (665 : Nat)) (Value.ref (336 : Nat))), (DictEntry.mk (PyData.keyHash P0 "set_field") (Value.str "set_field" (675 : Nat)) (Value.ref (343 : Nat))), (DictEntry.mk (PyData.keyHash P0 "fields") (Value.str "fields" (684 : Nat)) (Value.ref (350 : Nat))), (DictEntry.mk (PyData.keyHash P0 "cons") (Value.str "cons" (693 : Nat)) (Value.ref (357 : Nat))), (DictEntry.mk (PyData.keyHash P0 "__static_attributes__") (Value.str "__static_attributes__" (696 : Nat)) (Value.ref (358 : Nat)))] (17 : Nat)) #[])
noncomputable def o298 : Params → Obj := fun P0 => (Obj.mk (Value.type "tuple") (none : Option Nat) (Data.seq #[] (0 : Nat)) #[])
noncomputable def o299 : Params → Obj := fun P0 => (Obj.mk Value.none (none : Option Nat) (Data.fields (List.toArray ((Value.int 136 (0 : Nat)) :: (Value.int 4 (0 : Nat)) :: (Value.ref (272 : Nat)) :: (Value.int 140 (0 : Nat)) :: (Value.int 4 (0 : Nat)) :: (Value.ref (279 : Nat)) :: (Value.int 143 (0 : Nat)) :: (Value.int 4 (0 : Nat)) :: (Value.ref (286 : Nat)) :: (Value.int 146 (0 : Nat)) :: (Value.int 4 (0 : Nat)) :: (Value.ref (293 : Nat)) :: (Value.int 152 (0 : Nat)) :: (Value.int 4 (0 : Nat)) :: (Value.ref (300 : Nat)) :: (Value.int 160 (0 : Nat)) :: (Value.int 4 (0 : Nat)) :: (Value.ref (307 : Nat)) :: (Value.int 163 (0 : Nat)) :: (Value.int 4 (0 : Nat)) :: (Value.ref (314 : Nat)) :: (Value.int 166 (0 : Nat)) :: (Value.int 4 (0 : Nat)) :: (Value.ref (321 : Nat)) :: (Value.int 169 (0 : Nat)) :: (Value.int 4 (0 : Nat)) :: (Value.ref (328 : Nat)) :: (Value.int 174 (0 : Nat)) :: (Value.int 4 (0 : Nat)) :: (Value.ref (335 : Nat)) :: (Value.int 177 (0 : Nat)) :: (Value.int 4 (0 : Nat)) :: (Value.ref (342 : Nat)) :: (Value.int 180 (0 : Nat)) :: (Value.int 4 (0 : Nat)) :: (Value.ref (349 : Nat)) :: (Value.int 184 (0 : Nat)) :: (Value.int 4 (0 : Nat)) :: (Value.ref (356 : Nat)) :: []))) #[])
noncomputable def o300 : Params → Obj := fun P0 => (Obj.mk (Value.type "code") (none : Option Nat) (Data.fields #[(Value.str "Heap" (572 : Nat)), (Value.str "Heap" (573 : Nat)), (Value.str "/claim/cut.py" (574 : Nat)), (Value.int 134 (0 : Nat)), (Value.int 0 (0 : Nat)), (Value.int 0 (0 : Nat)), (Value.int 0 (0 : Nat)), (Value.int 0 (0 : Nat)), (Value.ref (263 : Nat)), (Value.bool Bool.false), (Value.int 181 (0 : Nat)), (Value.ref (264 : Nat)), Value.none, Value.none, Value.none, Value.none, (Value.int 575 (0 : Nat)), (Value.int 134 (0 : Nat)), (Value.str "/claim/cut.py" (576 : Nat))]) #[])
noncomputable def o301 : Params → Obj := fun P0 => (Obj.mk (Value.type "frame") (none : Option Nat) Data.plain #[(some (Value.ref (265 : Nat))), (some (Value.ref (3 : Nat))), (some (Value.ref (262 : Nat))), none, (some (Value.str "scheme.heap" (568 : Nat))), none, (some (Value.ref (0 : Nat)))])
noncomputable def o302 : Params → Obj := fun P0 => (Obj.mk (Value.type "tuple") (none : Option Nat) (Data.seq #[] (0 : Nat)) #[])
noncomputable def o303 : Params → Obj := fun P0 => (Obj.mk Value.none (none : Option Nat) (Data.fields #[]) #[])
noncomputable def o304 : Params → Obj := fun P0 => (Obj.mk (Value.type "tuple") (none : Option Nat) (Data.seq #[(Value.str "self" (585 : Nat)), (Value.str "limit" (586 : Nat))] (0 : Nat)) #[])
noncomputable def o305 : Params → Obj := fun P0 => (Obj.mk (Value.type "tuple") (none : Option Nat) (Data.seq #[] (0 : Nat)) #[])
noncomputable def o306 : Params → Obj := by
  intro P0
  refine' (fun (x : Obj) (_ : (Obj.mk Value.none (none : Option Nat) (Data.func (FuncData.mk "__init__" "Heap.__init__" (fA f42m0) (FuncBody.stmts (fB f42m0)) (fC f42m0) (0 : Nat) (@List.nil (Prod Str Nat)) Value.none Value.none Value.none Value.none (none : Option Nat) Value.none Value.none (0 : Nat))) #[]) = x) => x) _ ?_
  rotate_left
  · exact (rfl : (Obj.mk Value.none (none : Option Nat) (Data.func (FuncData.mk "__init__" "Heap.__init__" (Arguments.mk _ _ _ _ _ _ _) (FuncBody.stmts (_ :: _)) (Scope.mk _ _ _ _ _) (0 : Nat) (@List.nil (Prod Str Nat)) Value.none Value.none Value.none Value.none (none : Option Nat) Value.none Value.none (0 : Nat))) #[]) = _)
noncomputable def o307 : Params → Obj := fun P0 => (Obj.mk (Value.type "code") (none : Option Nat) (Data.fields #[(Value.str "__init__" (582 : Nat)), (Value.str "Heap.__init__" (583 : Nat)), (Value.str "/claim/cut.py" (584 : Nat)), (Value.int 136 (0 : Nat)), (Value.int 2 (0 : Nat)), (Value.int 0 (0 : Nat)), (Value.int 0 (0 : Nat)), (Value.int 3 (0 : Nat)), (Value.ref (267 : Nat)), (Value.bool Bool.true), (Value.int 181 (0 : Nat)), (Value.ref (268 : Nat)), Value.none, (Value.ref (269 : Nat)), (Value.ref (270 : Nat)), (Value.ref (271 : Nat)), (Value.int 587 (0 : Nat)), (Value.int 136 (0 : Nat)), (Value.str "/claim/cut.py" (588 : Nat))]) #[])
noncomputable def o308 : Params → Obj := by
  intro P0
  refine' (fun (x : Obj) (_ : (Obj.mk (Value.type "function") (none : Option Nat) (Data.func (FuncData.mk "__init__" "Heap.__init__" (fA f42m0) (FuncBody.stmts (fB f42m0)) (fC f42m0) (3 : Nat) (@List.nil (Prod Str Nat)) Value.none Value.none Value.none (Value.str "scheme.heap" (568 : Nat)) (none : Option Nat) (Value.ref (272 : Nat)) Value.none (0 : Nat))) #[]) = x) => x) _ ?_
  rotate_left
  · exact (rfl : (Obj.mk (Value.type "function") (none : Option Nat) (Data.func (FuncData.mk "__init__" "Heap.__init__" (Arguments.mk _ _ _ _ _ _ _) (FuncBody.stmts (_ :: _)) (Scope.mk _ _ _ _ _) (3 : Nat) (@List.nil (Prod Str Nat)) Value.none Value.none Value.none (Value.str "scheme.heap" (568 : Nat)) (none : Option Nat) (Value.ref (272 : Nat)) Value.none (0 : Nat))) #[]) = _)
noncomputable def o309 : Params → Obj := fun P0 => (Obj.mk (Value.type "tuple") (none : Option Nat) (Data.seq #[] (0 : Nat)) #[])
noncomputable def o310 : Params → Obj := fun P0 => (Obj.mk Value.none (none : Option Nat) (Data.fields #[]) #[])
noncomputable def o311 : Params → Obj := fun P0 => (Obj.mk (Value.type "tuple") (none : Option Nat) (Data.seq #[(Value.str "self" (593 : Nat))] (0 : Nat)) #[])
noncomputable def o312 : Params → Obj := fun P0 => (Obj.mk (Value.type "tuple") (none : Option Nat) (Data.seq #[] (0 : Nat)) #[])
noncomputable def o313 : Params → Obj := by
  intro P0
  refine' (fun (x : Obj) (_ : (Obj.mk Value.none (none : Option Nat) (Data.func (FuncData.mk "used" "Heap.used" (fA f42m1) (FuncBody.stmts (fB f42m1)) (fC f42m1) (0 : Nat) (@List.nil (Prod Str Nat)) Value.none Value.none Value.none Value.none (none : Option Nat) Value.none Value.none (0 : Nat))) #[]) = x) => x) _ ?_
  rotate_left
  · exact (rfl : (Obj.mk Value.none (none : Option Nat) (Data.func (FuncData.mk "used" "Heap.used" (Arguments.mk _ _ _ _ _ _ _) (FuncBody.stmts (_ :: _)) (Scope.mk _ _ _ _ _) (0 : Nat) (@List.nil (Prod Str Nat)) Value.none Value.none Value.none Value.none (none : Option Nat) Value.none Value.none (0 : Nat))) #[]) = _)
noncomputable def o314 : Params → Obj := fun P0 => (Obj.mk (Value.type "code") (none : Option Nat) (Data.fields #[(Value.str "used" (590 : Nat)), (Value.str "Heap.used" (591 : Nat)), (Value.str "/claim/cut.py" (592 : Nat)), (Value.int 140 (0 : Nat)), (Value.int 1 (0 : Nat)), (Value.int 0 (0 : Nat)), (Value.int 0 (0 : Nat)), (Value.int 3 (0 : Nat)), (Value.ref (274 : Nat)), (Value.bool Bool.true), (Value.int 181 (0 : Nat)), (Value.ref (275 : Nat)), Value.none, (Value.ref (276 : Nat)), (Value.ref (277 : Nat)), (Value.ref (278 : Nat)), (Value.int 594 (0 : Nat)), (Value.int 140 (0 : Nat)), (Value.str "/claim/cut.py" (595 : Nat))]) #[])
noncomputable def o315 : Params → Obj := by
  intro P0
  refine' (fun (x : Obj) (_ : (Obj.mk (Value.type "function") (none : Option Nat) (Data.func (FuncData.mk "used" "Heap.used" (fA f42m1) (FuncBody.stmts (fB f42m1)) (fC f42m1) (3 : Nat) (@List.nil (Prod Str Nat)) Value.none Value.none Value.none (Value.str "scheme.heap" (568 : Nat)) (none : Option Nat) (Value.ref (279 : Nat)) Value.none (0 : Nat))) #[]) = x) => x) _ ?_
  rotate_left
  · exact (rfl : (Obj.mk (Value.type "function") (none : Option Nat) (Data.func (FuncData.mk "used" "Heap.used" (Arguments.mk _ _ _ _ _ _ _) (FuncBody.stmts (_ :: _)) (Scope.mk _ _ _ _ _) (3 : Nat) (@List.nil (Prod Str Nat)) Value.none Value.none Value.none (Value.str "scheme.heap" (568 : Nat)) (none : Option Nat) (Value.ref (279 : Nat)) Value.none (0 : Nat))) #[]) = _)
noncomputable def o316 : Params → Obj := fun P0 => (Obj.mk (Value.type "tuple") (none : Option Nat) (Data.seq #[] (0 : Nat)) #[])
noncomputable def o317 : Params → Obj := fun P0 => (Obj.mk Value.none (none : Option Nat) (Data.fields #[]) #[])
noncomputable def o318 : Params → Obj := fun P0 => (Obj.mk (Value.type "tuple") (none : Option Nat) (Data.seq #[(Value.str "self" (600 : Nat))] (0 : Nat)) #[])
noncomputable def o319 : Params → Obj := fun P0 => (Obj.mk (Value.type "tuple") (none : Option Nat) (Data.seq #[] (0 : Nat)) #[])
noncomputable def o320 : Params → Obj := by
  intro P0
  refine' (fun (x : Obj) (_ : (Obj.mk Value.none (none : Option Nat) (Data.func (FuncData.mk "is_over" "Heap.is_over" (fA f42m2) (FuncBody.stmts (fB f42m2)) (fC f42m2) (0 : Nat) (@List.nil (Prod Str Nat)) Value.none Value.none Value.none Value.none (none : Option Nat) Value.none Value.none (0 : Nat))) #[]) = x) => x) _ ?_
  rotate_left
  · exact (rfl : (Obj.mk Value.none (none : Option Nat) (Data.func (FuncData.mk "is_over" "Heap.is_over" (Arguments.mk _ _ _ _ _ _ _) (FuncBody.stmts (_ :: _)) (Scope.mk _ _ _ _ _) (0 : Nat) (@List.nil (Prod Str Nat)) Value.none Value.none Value.none Value.none (none : Option Nat) Value.none Value.none (0 : Nat))) #[]) = _)
noncomputable def o321 : Params → Obj := fun P0 => (Obj.mk (Value.type "code") (none : Option Nat) (Data.fields #[(Value.str "is_over" (597 : Nat)), (Value.str "Heap.is_over" (598 : Nat)), (Value.str "/claim/cut.py" (599 : Nat)), (Value.int 143 (0 : Nat)), (Value.int 1 (0 : Nat)), (Value.int 0 (0 : Nat)), (Value.int 0 (0 : Nat)), (Value.int 3 (0 : Nat)), (Value.ref (281 : Nat)), (Value.bool Bool.true), (Value.int 181 (0 : Nat)), (Value.ref (282 : Nat)), Value.none, (Value.ref (283 : Nat)), (Value.ref (284 : Nat)), (Value.ref (285 : Nat)), (Value.int 601 (0 : Nat)), (Value.int 143 (0 : Nat)), (Value.str "/claim/cut.py" (602 : Nat))]) #[])
noncomputable def o322 : Params → Obj := by
  intro P0
  refine' (fun (x : Obj) (_ : (Obj.mk (Value.type "function") (none : Option Nat) (Data.func (FuncData.mk "is_over" "Heap.is_over" (fA f42m2) (FuncBody.stmts (fB f42m2)) (fC f42m2) (3 : Nat) (@List.nil (Prod Str Nat)) Value.none Value.none Value.none (Value.str "scheme.heap" (568 : Nat)) (none : Option Nat) (Value.ref (286 : Nat)) Value.none (0 : Nat))) #[]) = x) => x) _ ?_
  rotate_left
  · exact (rfl : (Obj.mk (Value.type "function") (none : Option Nat) (Data.func (FuncData.mk "is_over" "Heap.is_over" (Arguments.mk _ _ _ _ _ _ _) (FuncBody.stmts (_ :: _)) (Scope.mk _ _ _ _ _) (3 : Nat) (@List.nil (Prod Str Nat)) Value.none Value.none Value.none (Value.str "scheme.heap" (568 : Nat)) (none : Option Nat) (Value.ref (286 : Nat)) Value.none (0 : Nat))) #[]) = _)
noncomputable def o323 : Params → Obj := fun P0 => (Obj.mk (Value.type "tuple") (none : Option Nat) (Data.seq #[] (0 : Nat)) #[])
noncomputable def o324 : Params → Obj := fun P0 => (Obj.mk Value.none (none : Option Nat) (Data.fields #[]) #[])
noncomputable def o325 : Params → Obj := fun P0 => (Obj.mk (Value.type "tuple") (none : Option Nat) (Data.seq #[(Value.str "self" (607 : Nat)), (Value.str "kind" (608 : Nat)), (Value.str "fields" (609 : Nat)), (Value.str "address" (610 : Nat))] (0 : Nat)) #[])
noncomputable def o326 : Params → Obj := fun P0 => (Obj.mk (Value.type "tuple") (none : Option Nat) (Data.seq #[] (0 : Nat)) #[])
noncomputable def o327 : Params → Obj := by
  intro P0
  refine' (fun (x : Obj) (_ : (Obj.mk Value.none (none : Option Nat) (Data.func (FuncData.mk "allocate" "Heap.allocate" (fA f42m3) (FuncBody.stmts (fB f42m3)) (fC f42m3) (0 : Nat) (@List.nil (Prod Str Nat)) Value.none Value.none Value.none Value.none (none : Option Nat) Value.none Value.none (0 : Nat))) #[]) = x) => x) _ ?_
  rotate_left
  · exact (rfl : (Obj.mk Value.none (none : Option Nat) (Data.func (FuncData.mk "allocate" "Heap.allocate" (Arguments.mk _ _ _ _ _ _ _) (FuncBody.stmts (_ :: _)) (Scope.mk _ _ _ _ _) (0 : Nat) (@List.nil (Prod Str Nat)) Value.none Value.none Value.none Value.none (none : Option Nat) Value.none Value.none (0 : Nat))) #[]) = _)
noncomputable def o328 : Params → Obj := fun P0 => (Obj.mk (Value.type "code") (none : Option Nat) (Data.fields #[(Value.str "allocate" (604 : Nat)), (Value.str "Heap.allocate" (605 : Nat)), (Value.str "/claim/cut.py" (606 : Nat)), (Value.int 146 (0 : Nat)), (Value.int 3 (0 : Nat)), (Value.int 0 (0 : Nat)), (Value.int 0 (0 : Nat)), (Value.int 3 (0 : Nat)), (Value.ref (288 : Nat)), (Value.bool Bool.true), (Value.int 181 (0 : Nat)), (Value.ref (289 : Nat)), Value.none, (Value.ref (290 : Nat)), (Value.ref (291 : Nat)), (Value.ref (292 : Nat)), (Value.int 611 (0 : Nat)), (Value.int 146 (0 : Nat)), (Value.str "/claim/cut.py" (612 : Nat))]) #[])
noncomputable def o329 : Params → Obj := by
  intro P0
  refine' (fun (x : Obj) (_ : (Obj.mk (Value.type "function") (none : Option Nat) (Data.func (FuncData.mk "allocate" "Heap.allocate" (fA f42m3) (FuncBody.stmts (fB f42m3)) (fC f42m3) (3 : Nat) (@List.nil (Prod Str Nat)) Value.none Value.none Value.none (Value.str "scheme.heap" (568 : Nat)) (none : Option Nat) (Value.ref (293 : Nat)) Value.none (0 : Nat))) #[]) = x) => x) _ ?_
  rotate_left
  · exact (rfl : (Obj.mk (Value.type "function") (none : Option Nat) (Data.func (FuncData.mk "allocate" "Heap.allocate" (Arguments.mk _ _ _ _ _ _ _) (FuncBody.stmts (_ :: _)) (Scope.mk _ _ _ _ _) (3 : Nat) (@List.nil (Prod Str Nat)) Value.none Value.none Value.none (Value.str "scheme.heap" (568 : Nat)) (none : Option Nat) (Value.ref (293 : Nat)) Value.none (0 : Nat))) #[]) = _)
noncomputable def o330 : Params → Obj := fun P0 => (Obj.mk (Value.type "tuple") (none : Option Nat) (Data.seq #[] (0 : Nat)) #[])
noncomputable def o331 : Params → Obj := fun P0 => (Obj.mk Value.none (none : Option Nat) (Data.fields #[]) #[])
noncomputable def o332 : Params → Obj := fun P0 => (Obj.mk (Value.type "tuple") (none : Option Nat) (Data.seq #[(Value.str "self" (617 : Nat)), (Value.str "word" (618 : Nat)), (Value.str "address" (619 : Nat))] (0 : Nat)) #[])
noncomputable def o333 : Params → Obj := fun P0 => (Obj.mk (Value.type "tuple") (none : Option Nat) (Data.seq #[] (0 : Nat)) #[])
noncomputable def o334 : Params → Obj := by
  intro P0
  refine' (fun (x : Obj) (_ : (Obj.mk Value.none (none : Option Nat) (Data.func (FuncData.mk "header_at" "Heap.header_at" (fA f42m4) (FuncBody.stmts (fB f42m4)) (fC f42m4) (0 : Nat) (@List.nil (Prod Str Nat)) Value.none Value.none Value.none Value.none (none : Option Nat) Value.none Value.none (0 : Nat))) #[]) = x) => x) _ ?_
  rotate_left
  · exact (rfl : (Obj.mk Value.none (none : Option Nat) (Data.func (FuncData.mk "header_at" "Heap.header_at" (Arguments.mk _ _ _ _ _ _ _) (FuncBody.stmts (_ :: _)) (Scope.mk _ _ _ _ _) (0 : Nat) (@List.nil (Prod Str Nat)) Value.none Value.none Value.none Value.none (none : Option Nat) Value.none Value.none (0 : Nat))) #[]) = _)
noncomputable def o335 : Params → Obj := fun P0 => (Obj.mk (Value.type "code") (none : Option Nat) (Data.fields #[(Value.str "header_at" (614 : Nat)), (Value.str "Heap.header_at" (615 : Nat)), (Value.str "/claim/cut.py" (616 : Nat)), (Value.int 152 (0 : Nat)), (Value.int 2 (0 : Nat)), (Value.int 0 (0 : Nat)), (Value.int 0 (0 : Nat)), (Value.int 3 (0 : Nat)), (Value.ref (295 : Nat)), (Value.bool Bool.true), (Value.int 181 (0 : Nat)), (Value.ref (296 : Nat)), Value.none, (Value.ref (297 : Nat)), (Value.ref (298 : Nat)), (Value.ref (299 : Nat)), (Value.int 620 (0 : Nat)), (Value.int 152 (0 : Nat)), (Value.str "/claim/cut.py" (621 : Nat))]) #[])
noncomputable def o336 : Params → Obj := by
  intro P0
  refine' (fun (x : Obj) (_ : (Obj.mk (Value.type "function") (none : Option Nat) (Data.func (FuncData.mk "header_at" "Heap.header_at" (fA f42m4) (FuncBody.stmts (fB f42m4)) (fC f42m4) (3 : Nat) (@List.nil (Prod Str Nat)) Value.none Value.none Value.none (Value.str "scheme.heap" (568 : Nat)) (none : Option Nat) (Value.ref (300 : Nat)) Value.none (0 : Nat))) #[]) = x) => x) _ ?_
  rotate_left
  · exact (rfl : (Obj.mk (Value.type "function") (none : Option Nat) (Data.func (FuncData.mk "header_at" "Heap.header_at" (Arguments.mk _ _ _ _ _ _ _) (FuncBody.stmts (_ :: _)) (Scope.mk _ _ _ _ _) (3 : Nat) (@List.nil (Prod Str Nat)) Value.none Value.none Value.none (Value.str "scheme.heap" (568 : Nat)) (none : Option Nat) (Value.ref (300 : Nat)) Value.none (0 : Nat))) #[]) = _)
noncomputable def o337 : Params → Obj := fun P0 => (Obj.mk (Value.type "tuple") (none : Option Nat) (Data.seq #[] (0 : Nat)) #[])
noncomputable def o338 : Params → Obj := fun P0 => (Obj.mk Value.none (none : Option Nat) (Data.fields #[]) #[])
noncomputable def o339 : Params → Obj := fun P0 => (Obj.mk (Value.type "tuple") (none : Option Nat) (Data.seq #[(Value.str "self" (626 : Nat)), (Value.str "word" (627 : Nat))] (0 : Nat)) #[])
noncomputable def o340 : Params → Obj := fun P0 => (Obj.mk (Value.type "tuple") (none : Option Nat) (Data.seq #[] (0 : Nat)) #[])
noncomputable def o341 : Params → Obj := by
  intro P0
  refine' (fun (x : Obj) (_ : (Obj.mk Value.none (none : Option Nat) (Data.func (FuncData.mk "kind_of" "Heap.kind_of" (fA f42m5) (FuncBody.stmts (fB f42m5)) (fC f42m6) (0 : Nat) (@List.nil (Prod Str Nat)) Value.none Value.none Value.none Value.none (none : Option Nat) Value.none Value.none (0 : Nat))) #[]) = x) => x) _ ?_
  rotate_left
  · exact (rfl : (Obj.mk Value.none (none : Option Nat) (Data.func (FuncData.mk "kind_of" "Heap.kind_of" (Arguments.mk _ _ _ _ _ _ _) (FuncBody.stmts (_ :: _)) (Scope.mk _ _ _ _ _) (0 : Nat) (@List.nil (Prod Str Nat)) Value.none Value.none Value.none Value.none (none : Option Nat) Value.none Value.none (0 : Nat))) #[]) = _)
noncomputable def o342 : Params → Obj := fun P0 => (Obj.mk (Value.type "code") (none : Option Nat) (Data.fields #[(Value.str "kind_of" (623 : Nat)), (Value.str "Heap.kind_of" (624 : Nat)), (Value.str "/claim/cut.py" (625 : Nat)), (Value.int 160 (0 : Nat)), (Value.int 2 (0 : Nat)), (Value.int 0 (0 : Nat)), (Value.int 0 (0 : Nat)), (Value.int 3 (0 : Nat)), (Value.ref (302 : Nat)), (Value.bool Bool.true), (Value.int 181 (0 : Nat)), (Value.ref (303 : Nat)), Value.none, (Value.ref (304 : Nat)), (Value.ref (305 : Nat)), (Value.ref (306 : Nat)), (Value.int 628 (0 : Nat)), (Value.int 160 (0 : Nat)), (Value.str "/claim/cut.py" (629 : Nat))]) #[])
noncomputable def o343 : Params → Obj := by
  intro P0
  refine' (fun (x : Obj) (_ : (Obj.mk (Value.type "function") (none : Option Nat) (Data.func (FuncData.mk "kind_of" "Heap.kind_of" (fA f42m5) (FuncBody.stmts (fB f42m5)) (fC f42m6) (3 : Nat) (@List.nil (Prod Str Nat)) Value.none Value.none Value.none (Value.str "scheme.heap" (568 : Nat)) (none : Option Nat) (Value.ref (307 : Nat)) Value.none (0 : Nat))) #[]) = x) => x) _ ?_
  rotate_left
  · exact (rfl : (Obj.mk (Value.type "function") (none : Option Nat) (Data.func (FuncData.mk "kind_of" "Heap.kind_of" (Arguments.mk _ _ _ _ _ _ _) (FuncBody.stmts (_ :: _)) (Scope.mk _ _ _ _ _) (3 : Nat) (@List.nil (Prod Str Nat)) Value.none Value.none Value.none (Value.str "scheme.heap" (568 : Nat)) (none : Option Nat) (Value.ref (307 : Nat)) Value.none (0 : Nat))) #[]) = _)
noncomputable def o344 : Params → Obj := fun P0 => (Obj.mk (Value.type "tuple") (none : Option Nat) (Data.seq #[] (0 : Nat)) #[])
noncomputable def o345 : Params → Obj := fun P0 => (Obj.mk Value.none (none : Option Nat) (Data.fields #[]) #[])
noncomputable def o346 : Params → Obj := fun P0 => (Obj.mk (Value.type "tuple") (none : Option Nat) (Data.seq #[(Value.str "self" (634 : Nat)), (Value.str "word" (635 : Nat))] (0 : Nat)) #[])
noncomputable def o347 : Params → Obj := fun P0 => (Obj.mk (Value.type "tuple") (none : Option Nat) (Data.seq #[] (0 : Nat)) #[])
noncomputable def o348 : Params → Obj := by
  intro P0
  refine' (fun (x : Obj) (_ : (Obj.mk Value.none (none : Option Nat) (Data.func (FuncData.mk "length_of" "Heap.length_of" (fA f42m6) (FuncBody.stmts (fB f42m6)) (fC f42m6) (0 : Nat) (@List.nil (Prod Str Nat)) Value.none Value.none Value.none Value.none (none : Option Nat) Value.none Value.none (0 : Nat))) #[]) = x) => x) _ ?_
  rotate_left
  · exact (rfl : (Obj.mk Value.none (none : Option Nat) (Data.func (FuncData.mk "length_of" "Heap.length_of" (Arguments.mk _ _ _ _ _ _ _) (FuncBody.stmts (_ :: _)) (Scope.mk _ _ _ _ _) (0 : Nat) (@List.nil (Prod Str Nat)) Value.none Value.none Value.none Value.none (none : Option Nat) Value.none Value.none (0 : Nat))) #[]) = _)
noncomputable def o349 : Params → Obj := fun P0 => (Obj.mk (Value.type "code") (none : Option Nat) (Data.fields #[(Value.str "length_of" (631 : Nat)), (Value.str "Heap.length_of" (632 : Nat)), (Value.str "/claim/cut.py" (633 : Nat)), (Value.int 163 (0 : Nat)), (Value.int 2 (0 : Nat)), (Value.int 0 (0 : Nat)), (Value.int 0 (0 : Nat)), (Value.int 3 (0 : Nat)), (Value.ref (309 : Nat)), (Value.bool Bool.true), (Value.int 181 (0 : Nat)), (Value.ref (310 : Nat)), Value.none, (Value.ref (311 : Nat)), (Value.ref (312 : Nat)), (Value.ref (313 : Nat)), (Value.int 636 (0 : Nat)), (Value.int 163 (0 : Nat)), (Value.str "/claim/cut.py" (637 : Nat))]) #[])
noncomputable def o350 : Params → Obj := by
  intro P0
  refine' (fun (x : Obj) (_ : (Obj.mk (Value.type "function") (none : Option Nat) (Data.func (FuncData.mk "length_of" "Heap.length_of" (fA f42m6) (FuncBody.stmts (fB f42m6)) (fC f42m6) (3 : Nat) (@List.nil (Prod Str Nat)) Value.none Value.none Value.none (Value.str "scheme.heap" (568 : Nat)) (none : Option Nat) (Value.ref (314 : Nat)) Value.none (0 : Nat))) #[]) = x) => x) _ ?_
  rotate_left
  · exact (rfl : (Obj.mk (Value.type "function") (none : Option Nat) (Data.func (FuncData.mk "length_of" "Heap.length_of" (Arguments.mk _ _ _ _ _ _ _) (FuncBody.stmts (_ :: _)) (Scope.mk _ _ _ _ _) (3 : Nat) (@List.nil (Prod Str Nat)) Value.none Value.none Value.none (Value.str "scheme.heap" (568 : Nat)) (none : Option Nat) (Value.ref (314 : Nat)) Value.none (0 : Nat))) #[]) = _)
noncomputable def o351 : Params → Obj := fun P0 => (Obj.mk (Value.type "tuple") (none : Option Nat) (Data.seq #[] (0 : Nat)) #[])
noncomputable def o352 : Params → Obj := fun P0 => (Obj.mk Value.none (none : Option Nat) (Data.fields #[]) #[])
noncomputable def o353 : Params → Obj := fun P0 => (Obj.mk (Value.type "tuple") (none : Option Nat) (Data.seq #[(Value.str "self" (642 : Nat)), (Value.str "word" (643 : Nat)), (Value.str "kind" (644 : Nat))] (0 : Nat)) #[])
noncomputable def o354 : Params → Obj := fun P0 => (Obj.mk (Value.type "tuple") (none : Option Nat) (Data.seq #[] (0 : Nat)) #[])
noncomputable def o355 : Params → Obj := by
  intro P0
  refine' (fun (x : Obj) (_ : (Obj.mk Value.none (none : Option Nat) (Data.func (FuncData.mk "is_kind" "Heap.is_kind" (fA f42m7) (FuncBody.stmts (fB f42m7)) (fC f42m7) (0 : Nat) (@List.nil (Prod Str Nat)) Value.none Value.none Value.none Value.none (none : Option Nat) Value.none Value.none (0 : Nat))) #[]) = x) => x) _ ?_
  rotate_left
  · exact (rfl : (Obj.mk Value.none (none : Option Nat) (Data.func (FuncData.mk "is_kind" "Heap.is_kind" (Arguments.mk _ _ _ _ _ _ _) (FuncBody.stmts (_ :: _)) (Scope.mk _ _ _ _ _) (0 : Nat) (@List.nil (Prod Str Nat)) Value.none Value.none Value.none Value.none (none : Option Nat) Value.none Value.none (0 : Nat))) #[]) = _)
noncomputable def o356 : Params → Obj := fun P0 => (Obj.mk (Value.type "code") (none : Option Nat) (Data.fields #[(Value.str "is_kind" (639 : Nat)), (Value.str "Heap.is_kind" (640 : Nat)), (Value.str "/claim/cut.py" (641 : Nat)), (Value.int 166 (0 : Nat)), (Value.int 3 (0 : Nat)), (Value.int 0 (0 : Nat)), (Value.int 0 (0 : Nat)), (Value.int 3 (0 : Nat)), (Value.ref (316 : Nat)), (Value.bool Bool.true), (Value.int 181 (0 : Nat)), (Value.ref (317 : Nat)), Value.none, (Value.ref (318 : Nat)), (Value.ref (319 : Nat)), (Value.ref (320 : Nat)), (Value.int 645 (0 : Nat)), (Value.int 166 (0 : Nat)), (Value.str "/claim/cut.py" (646 : Nat))]) #[])
noncomputable def o357 : Params → Obj := by
  intro P0
  refine' (fun (x : Obj) (_ : (Obj.mk (Value.type "function") (none : Option Nat) (Data.func (FuncData.mk "is_kind" "Heap.is_kind" (fA f42m7) (FuncBody.stmts (fB f42m7)) (fC f42m7) (3 : Nat) (@List.nil (Prod Str Nat)) Value.none Value.none Value.none (Value.str "scheme.heap" (568 : Nat)) (none : Option Nat) (Value.ref (321 : Nat)) Value.none (0 : Nat))) #[]) = x) => x) _ ?_
  rotate_left
  · exact (rfl : (Obj.mk (Value.type "function") (none : Option Nat) (Data.func (FuncData.mk "is_kind" "Heap.is_kind" (Arguments.mk _ _ _ _ _ _ _) (FuncBody.stmts (_ :: _)) (Scope.mk _ _ _ _ _) (3 : Nat) (@List.nil (Prod Str Nat)) Value.none Value.none Value.none (Value.str "scheme.heap" (568 : Nat)) (none : Option Nat) (Value.ref (321 : Nat)) Value.none (0 : Nat))) #[]) = _)
noncomputable def o358 : Params → Obj := fun P0 => (Obj.mk (Value.type "tuple") (none : Option Nat) (Data.seq #[] (0 : Nat)) #[])
noncomputable def o359 : Params → Obj := fun P0 => (Obj.mk Value.none (none : Option Nat) (Data.fields #[]) #[])
noncomputable def o360 : Params → Obj := fun P0 => (Obj.mk (Value.type "tuple") (none : Option Nat) (Data.seq #[(Value.str "self" (651 : Nat)), (Value.str "word" (652 : Nat)), (Value.str "at" (653 : Nat))] (0 : Nat)) #[])
noncomputable def o361 : Params → Obj := fun P0 => (Obj.mk (Value.type "tuple") (none : Option Nat) (Data.seq #[] (0 : Nat)) #[])
noncomputable def o362 : Params → Obj := by
  intro P0
  refine' (fun (x : Obj) (_ : (Obj.mk Value.none (none : Option Nat) (Data.func (FuncData.mk "place_of" "Heap.place_of" (fA f42m8) (FuncBody.stmts (fB f42m8)) (fC f42m8) (0 : Nat) (@List.nil (Prod Str Nat)) Value.none Value.none Value.none Value.none (none : Option Nat) Value.none Value.none (0 : Nat))) #[]) = x) => x) _ ?_
  rotate_left
  · exact (rfl : (Obj.mk Value.none (none : Option Nat) (Data.func (FuncData.mk "place_of" "Heap.place_of" (Arguments.mk _ _ _ _ _ _ _) (FuncBody.stmts (_ :: _)) (Scope.mk _ _ _ _ _) (0 : Nat) (@List.nil (Prod Str Nat)) Value.none Value.none Value.none Value.none (none : Option Nat) Value.none Value.none (0 : Nat))) #[]) = _)
noncomputable def o363 : Params → Obj := fun P0 => (Obj.mk (Value.type "code") (none : Option Nat) (Data.fields #[(Value.str "place_of" (648 : Nat)), (Value.str "Heap.place_of" (649 : Nat)), (Value.str "/claim/cut.py" (650 : Nat)), (Value.int 169 (0 : Nat)), (Value.int 3 (0 : Nat)), (Value.int 0 (0 : Nat)), (Value.int 0 (0 : Nat)), (Value.int 3 (0 : Nat)), (Value.ref (323 : Nat)), (Value.bool Bool.true), (Value.int 181 (0 : Nat)), (Value.ref (324 : Nat)), Value.none, (Value.ref (325 : Nat)), (Value.ref (326 : Nat)), (Value.ref (327 : Nat)), (Value.int 654 (0 : Nat)), (Value.int 169 (0 : Nat)), (Value.str "/claim/cut.py" (655 : Nat))]) #[])
noncomputable def o364 : Params → Obj := by
  intro P0
  refine' (fun (x : Obj) (_ : (Obj.mk (Value.type "function") (none : Option Nat) (Data.func (FuncData.mk "place_of" "Heap.place_of" (fA f42m8) (FuncBody.stmts (fB f42m8)) (fC f42m8) (3 : Nat) (@List.nil (Prod Str Nat)) Value.none Value.none Value.none (Value.str "scheme.heap" (568 : Nat)) (none : Option Nat) (Value.ref (328 : Nat)) Value.none (0 : Nat))) #[]) = x) => x) _ ?_
  rotate_left
  · exact (rfl : (Obj.mk (Value.type "function") (none : Option Nat) (Data.func (FuncData.mk "place_of" "Heap.place_of" (Arguments.mk _ _ _ _ _ _ _) (FuncBody.stmts (_ :: _)) (Scope.mk _ _ _ _ _) (3 : Nat) (@List.nil (Prod Str Nat)) Value.none Value.none Value.none (Value.str "scheme.heap" (568 : Nat)) (none : Option Nat) (Value.ref (328 : Nat)) Value.none (0 : Nat))) #[]) = _)
noncomputable def o365 : Params → Obj := fun P0 => (Obj.mk (Value.type "tuple") (none : Option Nat) (Data.seq #[] (0 : Nat)) #[])
noncomputable def o366 : Params → Obj := fun P0 => (Obj.mk Value.none (none : Option Nat) (Data.fields #[]) #[])
noncomputable def o367 : Params → Obj := fun P0 => (Obj.mk (Value.type "tuple") (none : Option Nat) (Data.seq #[(Value.str "self" (660 : Nat)), (Value.str "word" (661 : Nat)), (Value.str "at" (662 : Nat))] (0 : Nat)) #[])
noncomputable def o368 : Params → Obj := fun P0 => (Obj.mk (Value.type "tuple") (none : Option Nat) (Data.seq #[] (0 : Nat)) #[])
noncomputable def o369 : Params → Obj := by
  intro P0
  refine' (fun (x : Obj) (_ : (Obj.mk Value.none (none : Option Nat) (Data.func (FuncData.mk "field" "Heap.field" (fA f42m9) (FuncBody.stmts (fB f42m9)) (fC f42m9) (0 : Nat) (@List.nil (Prod Str Nat)) Value.none Value.none Value.none Value.none (none : Option Nat) Value.none Value.none (0 : Nat))) #[]) = x) => x) _ ?_
  rotate_left
  · exact (rfl : (Obj.mk Value.none (none : Option Nat) (Data.func (FuncData.mk "field" "Heap.field" (Arguments.mk _ _ _ _ _ _ _) (FuncBody.stmts (_ :: _)) (Scope.mk _ _ _ _ _) (0 : Nat) (@List.nil (Prod Str Nat)) Value.none Value.none Value.none Value.none (none : Option Nat) Value.none Value.none (0 : Nat))) #[]) = _)
noncomputable def o370 : Params → Obj := fun P0 => (Obj.mk (Value.type "code") (none : Option Nat) (Data.fields #[(Value.str "field" (657 : Nat)), (Value.str "Heap.field" (658 : Nat)), (Value.str "/claim/cut.py" (659 : Nat)), (Value.int 174 (0 : Nat)), (Value.int 3 (0 : Nat)), (Value.int 0 (0 : Nat)), (Value.int 0 (0 : Nat)), (Value.int 3 (0 : Nat)), (Value.ref (330 : Nat)), (Value.bool Bool.true), (Value.int 181 (0 : Nat)), (Value.ref (331 : Nat)), Value.none, (Value.ref (332 : Nat)), (Value.ref (333 : Nat)), (Value.ref (334 : Nat)), (Value.int 663 (0 : Nat)), (Value.int 174 (0 : Nat)), (Value.str "/claim/cut.py" (664 : Nat))]) #[])
noncomputable def o371 : Params → Obj := by
  intro P0
  refine' (fun (x : Obj) (_ : (Obj.mk (Value.type "function") (none : Option Nat) (Data.func (FuncData.mk "field" "Heap.field" (fA f42m9) (FuncBody.stmts (fB f42m9)) (fC f42m9) (3 : Nat) (@List.nil (Prod Str Nat)) Value.none Value.none Value.none (Value.str "scheme.heap" (568 : Nat)) (none : Option Nat) (Value.ref (335 : Nat)) Value.none (0 : Nat))) #[]) = x) => x) _ ?_
  rotate_left
  · exact (rfl : (Obj.mk (Value.type "function") (none : Option Nat) (Data.func (FuncData.mk "field" "Heap.field" (Arguments.mk _ _ _ _ _ _ _) (FuncBody.stmts (_ :: _)) (Scope.mk _ _ _ _ _) (3 : Nat) (@List.nil (Prod Str Nat)) Value.none Value.none Value.none (Value.str "scheme.heap" (568 : Nat)) (none : Option Nat) (Value.ref (335 : Nat)) Value.none (0 : Nat))) #[]) = _)
noncomputable def o372 : Params → Obj := fun P0 => (Obj.mk (Value.type "tuple") (none : Option Nat) (Data.seq #[] (0 : Nat)) #[])
noncomputable def o373 : Params → Obj := fun P0 => (Obj.mk Value.none (none : Option Nat) (Data.fields #[]) #[])
noncomputable def o374 : Params → Obj := fun P0 => (Obj.mk (Value.type "tuple") (none : Option Nat) (Data.seq #[(Value.str "self" (669 : Nat)), (Value.str "word" (670 : Nat)), (Value.str "at" (671 : Nat)), (Value.str "new" (672 : Nat))] (0 : Nat)) #[])
noncomputable def o375 : Params → Obj := fun P0 => (Obj.mk (Value.type "tuple") (none : Option Nat) (Data.seq #[] (0 : Nat)) #[])
noncomputable def o376 : Params → Obj := by
  intro P0
  refine' (fun (x : Obj) (_ : (Obj.mk Value.none (none : Option Nat) (Data.func (FuncData.mk "set_field" "Heap.set_field" (fA f42m10) (FuncBody.stmts (fB f42m10)) (fC f42m10) (0 : Nat) (@List.nil (Prod Str Nat)) Value.none Value.none Value.none Value.none (none : Option Nat) Value.none Value.none (0 : Nat))) #[]) = x) => x) _ ?_
  rotate_left
  · exact (rfl : (Obj.mk Value.none (none : Option Nat) (Data.func (FuncData.mk "set_field" "Heap.set_field" (Arguments.mk _ _ _ _ _ _ _) (FuncBody.stmts (_ :: _)) (Scope.mk _ _ _ _ _) (0 : Nat) (@List.nil (Prod Str Nat)) Value.none Value.none Value.none Value.none (none : Option Nat) Value.none Value.none (0 : Nat))) #[]) = _)
noncomputable def o377 : Params → Obj := fun P0 => (Obj.mk (Value.type "code") (none : Option Nat) (Data.fields #[(Value.str "set_field" (666 : Nat)), (Value.str "Heap.set_field" (667 : Nat)), (Value.str "/claim/cut.py" (668 : Nat)), (Value.int 177 (0 : Nat)), (Value.int 4 (0 : Nat)), (Value.int 0 (0 : Nat)), (Value.int 0 (0 : Nat)), (Value.int 3 (0 : Nat)), (Value.ref (337 : Nat)), (Value.bool Bool.true), (Value.int 181 (0 : Nat)), (Value.ref (338 : Nat)), Value.none, (Value.ref (339 : Nat)), (Value.ref (340 : Nat)), (Value.ref (341 : Nat)), (Value.int 673 (0 : Nat)), (Value.int 177 (0 : Nat)), (Value.str "/claim/cut.py" (674 : Nat))]) #[])
noncomputable def o378 : Params → Obj := by
  intro P0
  refine' (fun (x : Obj) (_ : (Obj.mk (Value.type "function") (none : Option Nat) (Data.func (FuncData.mk "set_field" "Heap.set_field" (fA f42m10) (FuncBody.stmts (fB f42m10)) (fC f42m10) (3 : Nat) (@List.nil (Prod Str Nat)) Value.none Value.none Value.none (Value.str "scheme.heap" (568 : Nat)) (none : Option Nat) (Value.ref (342 : Nat)) Value.none (0 : Nat))) #[]) = x) => x) _ ?_
  rotate_left
  · exact (rfl : (Obj.mk (Value.type "function") (none : Option Nat) (Data.func (FuncData.mk "set_field" "Heap.set_field" (Arguments.mk _ _ _ _ _ _ _) (FuncBody.stmts (_ :: _)) (Scope.mk _ _ _ _ _) (3 : Nat) (@List.nil (Prod Str Nat)) Value.none Value.none Value.none (Value.str "scheme.heap" (568 : Nat)) (none : Option Nat) (Value.ref (342 : Nat)) Value.none (0 : Nat))) #[]) = _)
noncomputable def o379 : Params → Obj := fun P0 => (Obj.mk (Value.type "tuple") (none : Option Nat) (Data.seq #[] (0 : Nat)) #[])
noncomputable def o380 : Params → Obj := fun P0 => (Obj.mk Value.none (none : Option Nat) (Data.fields #[]) #[])
noncomputable def o381 : Params → Obj := fun P0 => (Obj.mk (Value.type "tuple") (none : Option Nat) (Data.seq #[(Value.str "self" (679 : Nat)), (Value.str "word" (680 : Nat)), (Value.str "first" (681 : Nat))] (0 : Nat)) #[])
noncomputable def o382 : Params → Obj := fun P0 => (Obj.mk (Value.type "tuple") (none : Option Nat) (Data.seq #[] (0 : Nat)) #[])
noncomputable def o383 : Params → Obj := by
  intro P0
  refine' (fun (x : Obj) (_ : (Obj.mk Value.none (none : Option Nat) (Data.func (FuncData.mk "fields" "Heap.fields" (fA f42m11) (FuncBody.stmts (fB f42m11)) (fC f42m11) (0 : Nat) (@List.nil (Prod Str Nat)) Value.none Value.none Value.none Value.none (none : Option Nat) Value.none Value.none (0 : Nat))) #[]) = x) => x) _ ?_
  rotate_left
  · exact (rfl : (Obj.mk Value.none (none : Option Nat) (Data.func (FuncData.mk "fields" "Heap.fields" (Arguments.mk _ _ _ _ _ _ _) (FuncBody.stmts (_ :: _)) (Scope.mk _ _ _ _ _) (0 : Nat) (@List.nil (Prod Str Nat)) Value.none Value.none Value.none Value.none (none : Option Nat) Value.none Value.none (0 : Nat))) #[]) = _)
noncomputable def o384 : Params → Obj := fun P0 => (Obj.mk (Value.type "code") (none : Option Nat) (Data.fields #[(Value.str "fields" (676 : Nat)), (Value.str "Heap.fields" (677 : Nat)), (Value.str "/claim/cut.py" (678 : Nat)), (Value.int 180 (0 : Nat)), (Value.int 2 (0 : Nat)), (Value.int 0 (0 : Nat)), (Value.int 0 (0 : Nat)), (Value.int 3 (0 : Nat)), (Value.ref (344 : Nat)), (Value.bool Bool.true), (Value.int 181 (0 : Nat)), (Value.ref (345 : Nat)), Value.none, (Value.ref (346 : Nat)), (Value.ref (347 : Nat)), (Value.ref (348 : Nat)), (Value.int 682 (0 : Nat)), (Value.int 180 (0 : Nat)), (Value.str "/claim/cut.py" (683 : Nat))]) #[])
noncomputable def o385 : Params → Obj := by
  intro P0
  refine' (fun (x : Obj) (_ : (Obj.mk (Value.type "function") (none : Option Nat) (Data.func (FuncData.mk "fields" "Heap.fields" (fA f42m11) (FuncBody.stmts (fB f42m11)) (fC f42m11) (3 : Nat) (@List.nil (Prod Str Nat)) Value.none Value.none Value.none (Value.str "scheme.heap" (568 : Nat)) (none : Option Nat) (Value.ref (349 : Nat)) Value.none (0 : Nat))) #[]) = x) => x) _ ?_
  rotate_left
  · exact (rfl : (Obj.mk (Value.type "function") (none : Option Nat) (Data.func (FuncData.mk "fields" "Heap.fields" (Arguments.mk _ _ _ _ _ _ _) (FuncBody.stmts (_ :: _)) (Scope.mk _ _ _ _ _) (3 : Nat) (@List.nil (Prod Str Nat)) Value.none Value.none Value.none (Value.str "scheme.heap" (568 : Nat)) (none : Option Nat) (Value.ref (349 : Nat)) Value.none (0 : Nat))) #[]) = _)
noncomputable def o386 : Params → Obj := fun P0 => (Obj.mk (Value.type "tuple") (none : Option Nat) (Data.seq #[] (0 : Nat)) #[])
noncomputable def o387 : Params → Obj := fun P0 => (Obj.mk Value.none (none : Option Nat) (Data.fields #[]) #[])
noncomputable def o388 : Params → Obj := fun P0 => (Obj.mk (Value.type "tuple") (none : Option Nat) (Data.seq #[(Value.str "self" (688 : Nat)), (Value.str "car" (689 : Nat)), (Value.str "cdr" (690 : Nat))] (0 : Nat)) #[])
noncomputable def o389 : Params → Obj := fun P0 => (Obj.mk (Value.type "tuple") (none : Option Nat) (Data.seq #[] (0 : Nat)) #[])
noncomputable def o390 : Params → Obj := by
  intro P0
  refine' (fun (x : Obj) (_ : (Obj.mk Value.none (none : Option Nat) (Data.func (FuncData.mk "cons" "Heap.cons" (fA f42m12) (FuncBody.stmts (fB f42m12)) (fC f42m12) (0 : Nat) (@List.nil (Prod Str Nat)) Value.none Value.none Value.none Value.none (none : Option Nat) Value.none Value.none (0 : Nat))) #[]) = x) => x) _ ?_
  rotate_left
  · exact (rfl : (Obj.mk Value.none (none : Option Nat) (Data.func (FuncData.mk "cons" "Heap.cons" (Arguments.mk _ _ _ _ _ _ _) (FuncBody.stmts (_ :: _)) (Scope.mk _ _ _ _ _) (0 : Nat) (@List.nil (Prod Str Nat)) Value.none Value.none Value.none Value.none (none : Option Nat) Value.none Value.none (0 : Nat))) #[]) = _)
noncomputable def o391 : Params → Obj := fun P0 => (Obj.mk (Value.type "code") (none : Option Nat) (Data.fields #[(Value.str "cons" (685 : Nat)), (Value.str "Heap.cons" (686 : Nat)), (Value.str "/claim/cut.py" (687 : Nat)), (Value.int 184 (0 : Nat)), (Value.int 3 (0 : Nat)), (Value.int 0 (0 : Nat)), (Value.int 0 (0 : Nat)), (Value.int 3 (0 : Nat)), (Value.ref (351 : Nat)), (Value.bool Bool.true), (Value.int 181 (0 : Nat)), (Value.ref (352 : Nat)), Value.none, (Value.ref (353 : Nat)), (Value.ref (354 : Nat)), (Value.ref (355 : Nat)), (Value.int 691 (0 : Nat)), (Value.int 184 (0 : Nat)), (Value.str "/claim/cut.py" (692 : Nat))]) #[])
noncomputable def o392 : Params → Obj := by
  intro P0
  refine' (fun (x : Obj) (_ : (Obj.mk (Value.type "function") (none : Option Nat) (Data.func (FuncData.mk "cons" "Heap.cons" (fA f42m12) (FuncBody.stmts (fB f42m12)) (fC f42m12) (3 : Nat) (@List.nil (Prod Str Nat)) Value.none Value.none Value.none (Value.str "scheme.heap" (568 : Nat)) (none : Option Nat) (Value.ref (356 : Nat)) Value.none (0 : Nat))) #[]) = x) => x) _ ?_
  rotate_left
  · exact (rfl : (Obj.mk (Value.type "function") (none : Option Nat) (Data.func (FuncData.mk "cons" "Heap.cons" (Arguments.mk _ _ _ _ _ _ _) (FuncBody.stmts (_ :: _)) (Scope.mk _ _ _ _ _) (3 : Nat) (@List.nil (Prod Str Nat)) Value.none Value.none Value.none (Value.str "scheme.heap" (568 : Nat)) (none : Option Nat) (Value.ref (356 : Nat)) Value.none (0 : Nat))) #[]) = _)
noncomputable def o393 : Params → Obj := fun P0 => (Obj.mk (Value.type "tuple") (none : Option Nat) (Data.seq #[(Value.str "cells" (694 : Nat)), (Value.str "limit" (695 : Nat))] (0 : Nat)) #[])
noncomputable def o394 : Params → Obj := fun P0 => (Obj.mk (Value.type "dict") (none : Option Nat) (Data.dict #[(DictEntry.mk (PyData.keyHash P0 "__module__") (Value.str "__module__" (577 : Nat)) (Value.str "scheme.heap" (568 : Nat))), (DictEntry.mk (PyData.keyHash P0 "__firstlineno__") (Value.str "__firstlineno__" (581 : Nat)) (Value.int 134 (580 : Nat))), (DictEntry.mk (PyData.keyHash P0 "__init__") (Value.str "__init__" (589 : Nat)) (Value.ref (273 : Nat))), (DictEntry.mk (PyData.keyHash P0 "used") (Value.str "used" (596 : Nat)) (Value.ref (280 : Nat))), (DictEntry.mk (PyData.keyHash P0 "is_over") (Value.str "is_over" (603 : Nat)) (Value.ref (287 : Nat))), (DictEntry.mk (PyData.keyHash P0 "allocate") (Value.str "allocate" (613 : Nat)) (Value.ref (294 : Nat))), (DictEntry.mk (PyData.keyHash P0 "header_at") (Value.str "header_at" (622 : Nat)) (Value.ref (301 : Nat))), (DictEntry.mk (PyData.keyHash P0 "kind_of") (Value.str "kind_of" (630 : Nat)) (Value.ref (308 : Nat))), (DictEntry.mk (PyData.keyHash P0 "length_of") (Value.str "length_of" (638 : Nat)) (Value.ref (315 : Nat))), (DictEntry.mk (PyData.keyHash P0 "is_kind") (Value.str "is_kind" (647 : Nat)) (Value.ref (322 : Nat))), (DictEntry.mk (PyData.keyHash P0 "place_of") (Value.str "place_of" (656 : Nat)) (Value.ref (329 : Nat))), (DictEntry.mk (PyData.keyHash P0 "field") (Value.str "field" (665 : Nat)) (Value.ref (336 : Nat))), (DictEntry.mk (PyData.keyHash P0 "set_field") (Value.str "set_field" (675 : Nat)) (Value.ref (343 : Nat))), (DictEntry.mk (PyData.keyHash P0 "fields") (Value.str "fields" (684 : Nat)) (Value.ref (350 : Nat))), (DictEntry.mk (PyData.keyHash P0 "cons") (Value.str "cons" (693 : Nat)) (Value.ref (357 : Nat))), (DictEntry.mk (PyData.keyHash P0 "__static_attributes__") (Value.str "__static_attributes__" (696 : Nat)) (Value.ref (358 : Nat))), (DictEntry.mk (PyData.keyHash P0 "__dict__") (Value.str "__dict__" (698 : Nat)) (Value.ref (361 : Nat))), (DictEntry.mk (PyData.keyHash P0 "__weakref__") (Value.str "__weakref__" (700 : Nat)) (Value.ref (362 : Nat))), (DictEntry.mk (PyData.keyHash P0 "__doc__") (Value.str "__doc__" (701 : Nat)) Value.none)] (4 : Nat)) #[])
noncomputable def o395 : Params → Obj := fun P0 => (Obj.mk (Value.type "type") (none : Option Nat) (Data.cls (ClassData.mk "Heap" [(Value.type "object")] [(Value.ref (360 : Nat)), (Value.type "object")] (359 : Nat) "Heap" Bool.true [] [] Bool.false none Bool.false)) #[none, none, (some (Value.str "Heap" (570 : Nat))), (some (Value.str "Heap" (578 : Nat))), (some (Value.builtin "object.__new__")), (some (Value.bool Bool.true))])
noncomputable def o396 : Params → Obj := fun P0 => (Obj.mk (Value.type "getset_descriptor") (none : Option Nat) (Data.fields #[(Value.str "__dict__" (697 : Nat)), (Value.ref (360 : Nat)), (Value.builtin "function.__dict__"), (Value.builtin "function.__dict__#set")]) #[])
noncomputable def o397 : Params → Obj := fun P0 => (Obj.mk (Value.type "getset_descriptor") (none : Option Nat) (Data.fields #[(Value.str "__weakref__" (699 : Nat)), (Value.ref (360 : Nat)), (Value.builtin "ExceptionGroup.__weakref__"), Value.none]) #[])
noncomputable def o398 : Params → Obj := fun P0 => (Obj.mk (Value.type "super") (none : Option Nat) (Data.fields #[(Value.ref (360 : Nat)), (Value.ref (360 : Nat)), (Value.ref (360 : Nat))]) #[])
noncomputable def o399 : Params → Obj := fun P0 => (Obj.mk (Value.type "builtin_function_or_method") (none : Option Nat) (Data.fields #[(Value.builtin "object.__init_subclass__"), (Value.ref (360 : Nat))]) #[])
noncomputable def o400 : Params → Obj := fun P0 => (Obj.mk (Value.type "tuple") (none : Option Nat) (Data.seq #[] (0 : Nat)) #[])
noncomputable def o401 : Params → Obj := fun P0 => (Obj.mk Value.none (none : Option Nat) (Data.fields #[]) #[])
noncomputable def o402 : Params → Obj := by
  intro P0
  refine' (fun (x : Obj) (_ : (Obj.mk Value.none (none : Option Nat) (Data.func (FuncData.mk "_law_deck" "_law_deck" (fA f44) (FuncBody.stmts (fB f44)) (fC f44) (0 : Nat) (@List.nil (Prod Str Nat)) Value.none Value.none Value.none Value.none (none : Option Nat) Value.none Value.none (0 : Nat))) #[]) = x) => x) _ ?_
  rotate_left
  · exact (rfl : (Obj.mk Value.none (none : Option Nat) (Data.func (FuncData.mk "_law_deck" "_law_deck" (Arguments.mk _ _ _ _ _ _ _) (FuncBody.stmts (_ :: _)) (Scope.mk _ _ _ _ _) (0 : Nat) (@List.nil (Prod Str Nat)) Value.none Value.none Value.none Value.none (none : Option Nat) Value.none Value.none (0 : Nat))) #[]) = _)
noncomputable def o403 : Params → Obj := fun P0 => (Obj.mk (Value.type "code") (none : Option Nat) (Data.fields #[(Value.str "_law_deck" (706 : Nat)), (Value.str "_law_deck" (707 : Nat)), (Value.str "/claim/cut.py" (708 : Nat)), (Value.int 187 (0 : Nat)), (Value.int 1 (0 : Nat)), (Value.int 0 (0 : Nat)), (Value.int 0 (0 : Nat)), (Value.int 3 (0 : Nat)), (Value.ref (365 : Nat)), (Value.bool Bool.true), (Value.int 181 (0 : Nat)), (Value.ref (366 : Nat)), Value.none, Value.none, Value.none, (Value.ref (367 : Nat)), (Value.int 709 (0 : Nat)), (Value.int 187 (0 : Nat)), (Value.str "/claim/cut.py" (710 : Nat))]) #[])
noncomputable def o404 : Params → Obj := by
  intro P0
  refine' (fun (x : Obj) (_ : (Obj.mk (Value.type "function") (none : Option Nat) (Data.func (FuncData.mk "_law_deck" "_law_deck" (fA f44) (FuncBody.stmts (fB f44)) (fC f44) (3 : Nat) (@List.nil (Prod Str Nat)) Value.none Value.none Value.none (Value.str "law_on0295_01" (704 : Nat)) (none : Option Nat) (Value.ref (368 : Nat)) Value.none (0 : Nat))) #[]) = x) => x) _ ?_
  rotate_left
  · exact (rfl : (Obj.mk (Value.type "function") (none : Option Nat) (Data.func (FuncData.mk "_law_deck" "_law_deck" (Arguments.mk _ _ _ _ _ _ _) (FuncBody.stmts (_ :: _)) (Scope.mk _ _ _ _ _) (3 : Nat) (@List.nil (Prod Str Nat)) Value.none Value.none Value.none (Value.str "law_on0295_01" (704 : Nat)) (none : Option Nat) (Value.ref (368 : Nat)) Value.none (0 : Nat))) #[]) = _)
noncomputable def o405 : Params → Obj := fun P0 => (Obj.mk (Value.type "tuple") (none : Option Nat) (Data.seq #[] (0 : Nat)) #[])
noncomputable def o406 : Params → Obj := fun P0 => (Obj.mk Value.none (none : Option Nat) (Data.fields #[]) #[])
noncomputable def o407 : Params → Obj := fun P0 => (Obj.mk (Value.type "tuple") (none : Option Nat) (Data.seq #[(Value.str "_law_deck_here" (715 : Nat)), (Value.str "_law_many" (716 : Nat)), (Value.str "_law_found" (717 : Nat))] (0 : Nat)) #[])
noncomputable def o408 : Params → Obj := fun P0 => (Obj.mk (Value.type "tuple") (none : Option Nat) (Data.seq #[] (0 : Nat)) #[])
noncomputable def o409 : Params → Obj := by
  intro P0
  refine' (fun (x : Obj) (_ : (Obj.mk Value.none (none : Option Nat) (Data.func (FuncData.mk "_law_draw" "_law_draw" (fA f45) (FuncBody.stmts (fB f45)) (fC f45) (0 : Nat) (@List.nil (Prod Str Nat)) Value.none Value.none Value.none Value.none (none : Option Nat) Value.none Value.none (0 : Nat))) #[]) = x) => x) _ ?_
  rotate_left
  · exact (rfl : (Obj.mk Value.none (none : Option Nat) (Data.func (FuncData.mk "_law_draw" "_law_draw" (Arguments.mk _ _ _ _ _ _ _) (FuncBody.stmts (_ :: _)) (Scope.mk _ _ _ _ _) (0 : Nat) (@List.nil (Prod Str Nat)) Value.none Value.none Value.none Value.none (none : Option Nat) Value.none Value.none (0 : Nat))) #[]) = _)
noncomputable def o410 : Params → Obj := fun P0 => (Obj.mk (Value.type "code") (none : Option Nat) (Data.fields #[(Value.str "_law_draw" (712 : Nat)), (Value.str "_law_draw" (713 : Nat)), (Value.str "/claim/cut.py" (714 : Nat)), (Value.int 192 (0 : Nat)), (Value.int 2 (0 : Nat)), (Value.int 0 (0 : Nat)), (Value.int 0 (0 : Nat)), (Value.int 3 (0 : Nat)), (Value.ref (370 : Nat)), (Value.bool Bool.true), (Value.int 181 (0 : Nat)), (Value.ref (371 : Nat)), Value.none, (Value.ref (372 : Nat)), (Value.ref (373 : Nat)), (Value.ref (374 : Nat)), (Value.int 718 (0 : Nat)), (Value.int 192 (0 : Nat)), (Value.str "/claim/cut.py" (719 : Nat))]) #[])
noncomputable def o411 : Params → Obj := by
  intro P0
  refine' (fun (x : Obj) (_ : (Obj.mk (Value.type "function") (none : Option Nat) (Data.func (FuncData.mk "_law_draw" "_law_draw" (fA f45) (FuncBody.stmts (fB f45)) (fC f45) (3 : Nat) (@List.nil (Prod Str Nat)) Value.none Value.none Value.none (Value.str "law_on0295_01" (704 : Nat)) (none : Option Nat) (Value.ref (375 : Nat)) Value.none (0 : Nat))) #[]) = x) => x) _ ?_
  rotate_left
  · exact (rfl : (Obj.mk (Value.type "function") (none : Option Nat) (Data.func (FuncData.mk "_law_draw" "_law_draw" (Arguments.mk _ _ _ _ _ _ _) (FuncBody.stmts (_ :: _)) (Scope.mk _ _ _ _ _) (3 : Nat) (@List.nil (Prod Str Nat)) Value.none Value.none Value.none (Value.str "law_on0295_01" (704 : Nat)) (none : Option Nat) (Value.ref (375 : Nat)) Value.none (0 : Nat))) #[]) = _)
noncomputable def o412 : Params → Obj := fun P0 => (Obj.mk (Value.type "tuple") (none : Option Nat) (Data.seq #[] (0 : Nat)) #[])
noncomputable def o413 : Params → Obj := fun P0 => (Obj.mk Value.none (none : Option Nat) (Data.fields #[]) #[])
noncomputable def o414 : Params → Obj := fun P0 => (Obj.mk (Value.type "tuple") (none : Option Nat) (Data.seq #[(Value.str "_law_deck_here" (724 : Nat)), (Value.str "_law_items_here" (725 : Nat))] (0 : Nat)) #[])
noncomputable def o415 : Params → Obj := fun P0 => (Obj.mk (Value.type "tuple") (none : Option Nat) (Data.seq #[] (0 : Nat)) #[])
noncomputable def o416 : Params → Obj := by
  intro P0
  refine' (fun (x : Obj) (_ : (Obj.mk Value.none (none : Option Nat) (Data.func (FuncData.mk "_law_one" "_law_one" (fA f46) (FuncBody.stmts (fB f46)) (fC f46) (0 : Nat) (@List.nil (Prod Str Nat)) Value.none Value.none Value.none Value.none (none : Option Nat) Value.none Value.none (0 : Nat))) #[]) = x) => x) _ ?_
  rotate_left
  · exact (rfl : (Obj.mk Value.none (none : Option Nat) (Data.func (FuncData.mk "_law_one" "_law_one" (Arguments.mk _ _ _ _ _ _ _) (FuncBody.stmts (_ :: _)) (Scope.mk _ _ _ _ _) (0 : Nat) (@List.nil (Prod Str Nat)) Value.none Value.none Value.none Value.none (none : Option Nat) Value.none Value.none (0 : Nat))) #[]) = _)
noncomputable def o417 : Params → Obj := fun P0 => (Obj.mk (Value.type "code") (none : Option Nat) (Data.fields #[(Value.str "_law_one" (721 : Nat)), (Value.str "_law_one" (722 : Nat)), (Value.str "/claim/cut.py" (723 : Nat)), (Value.int 201 (0 : Nat)), (Value.int 2 (0 : Nat)), (Value.int 0 (0 : Nat)), (Value.int 0 (0 : Nat)), (Value.int 3 (0 : Nat)), (Value.ref (377 : Nat)), (Value.bool Bool.true), (Value.int 181 (0 : Nat)), (Value.ref (378 : Nat)), Value.none, (Value.ref (379 : Nat)), (Value.ref (380 : Nat)), (Value.ref (381 : Nat)), (Value.int 726 (0 : Nat)), (Value.int 201 (0 : Nat)), (Value.str "/claim/cut.py" (727 : Nat))]) #[])
noncomputable def o418 : Params → Obj := by
  intro P0
  refine' (fun (x : Obj) (_ : (Obj.mk (Value.type "function") (none : Option Nat) (Data.func (FuncData.mk "_law_one" "_law_one" (fA f46) (FuncBody.stmts (fB f46)) (fC f46) (3 : Nat) (@List.nil (Prod Str Nat)) Value.none Value.none Value.none (Value.str "law_on0295_01" (704 : Nat)) (none : Option Nat) (Value.ref (382 : Nat)) Value.none (0 : Nat))) #[]) = x) => x) _ ?_
  rotate_left
  · exact (rfl : (Obj.mk (Value.type "function") (none : Option Nat) (Data.func (FuncData.mk "_law_one" "_law_one" (Arguments.mk _ _ _ _ _ _ _) (FuncBody.stmts (_ :: _)) (Scope.mk _ _ _ _ _) (3 : Nat) (@List.nil (Prod Str Nat)) Value.none Value.none Value.none (Value.str "law_on0295_01" (704 : Nat)) (none : Option Nat) (Value.ref (382 : Nat)) Value.none (0 : Nat))) #[]) = _)
noncomputable def o419 : Params → Obj := fun P0 => (Obj.mk (Value.type "tuple") (none : Option Nat) (Data.seq #[] (0 : Nat)) #[])
noncomputable def o420 : Params → Obj := fun P0 => (Obj.mk Value.none (none : Option Nat) (Data.fields #[]) #[])
noncomputable def o421 : Params → Obj := by
  intro P0
  refine' (fun (x : Obj) (_ : (Obj.mk Value.none (none : Option Nat) (Data.func (FuncData.mk "_law_word" "_law_word" (fA f47) (FuncBody.stmts (fB f47)) (fC f47) (0 : Nat) (@List.nil (Prod Str Nat)) Value.none Value.none Value.none Value.none (none : Option Nat) Value.none Value.none (0 : Nat))) #[]) = x) => x) _ ?_
  rotate_left
  · exact (rfl : (Obj.mk Value.none (none : Option Nat) (Data.func (FuncData.mk "_law_word" "_law_word" (Arguments.mk _ _ _ _ _ _ _) (FuncBody.stmts (_ :: _)) (Scope.mk _ _ _ _ _) (0 : Nat) (@List.nil (Prod Str Nat)) Value.none Value.none Value.none Value.none (none : Option Nat) Value.none Value.none (0 : Nat))) #[]) = _)
noncomputable def o422 : Params → Obj := fun P0 => (Obj.mk (Value.type "code") (none : Option Nat) (Data.fields #[(Value.str "_law_word" (729 : Nat)), (Value.str "_law_word" (730 : Nat)), (Value.str "/claim/cut.py" (731 : Nat)), (Value.int 203 (0 : Nat)), (Value.int 2 (0 : Nat)), (Value.int 0 (0 : Nat)), (Value.int 0 (0 : Nat)), (Value.int 3 (0 : Nat)), (Value.ref (384 : Nat)), (Value.bool Bool.true), (Value.int 181 (0 : Nat)), (Value.ref (385 : Nat)), Value.none, Value.none, Value.none, (Value.ref (386 : Nat)), (Value.int 732 (0 : Nat)), (Value.int 203 (0 : Nat)), (Value.str "/claim/cut.py" (733 : Nat))]) #[])
noncomputable def o423 : Params → Obj := by
  intro P0
  refine' (fun (x : Obj) (_ : (Obj.mk (Value.type "function") (none : Option Nat) (Data.func (FuncData.mk "_law_word" "_law_word" (fA f47) (FuncBody.stmts (fB f47)) (fC f47) (3 : Nat) (@List.nil (Prod Str Nat)) Value.none Value.none Value.none (Value.str "law_on0295_01" (704 : Nat)) (none : Option Nat) (Value.ref (387 : Nat)) Value.none (0 : Nat))) #[]) = x) => x) _ ?_
  rotate_left
  · exact (rfl : (Obj.mk (Value.type "function") (none : Option Nat) (Data.func (FuncData.mk "_law_word" "_law_word" (Arguments.mk _ _ _ _ _ _ _) (FuncBody.stmts (_ :: _)) (Scope.mk _ _ _ _ _) (3 : Nat) (@List.nil (Prod Str Nat)) Value.none Value.none Value.none (Value.str "law_on0295_01" (704 : Nat)) (none : Option Nat) (Value.ref (387 : Nat)) Value.none (0 : Nat))) #[]) = _)
noncomputable def o424 : Params → Obj := fun P0 => (Obj.mk (Value.type "tuple") (none : Option Nat) (Data.seq #[] (0 : Nat)) #[])
noncomputable def o425 : Params → Obj := fun P0 => (Obj.mk Value.none (none : Option Nat) (Data.fields #[]) #[])
noncomputable def o426 : Params → Obj := fun P0 => (Obj.mk (Value.type "tuple") (none : Option Nat) (Data.seq #[(Value.str "_law_thing" (738 : Nat))] (0 : Nat)) #[])
noncomputable def o427 : Params → Obj := fun P0 => (Obj.mk (Value.type "tuple") (none : Option Nat) (Data.seq #[] (0 : Nat)) #[])
noncomputable def o428 : Params → Obj := by
  intro P0
  refine' (fun (x : Obj) (_ : (Obj.mk Value.none (none : Option Nat) (Data.func (FuncData.mk "_law_kind" "_law_kind" (fA f48) (FuncBody.stmts (fB f48)) (fC f48) (0 : Nat) (@List.nil (Prod Str Nat)) Value.none Value.none Value.none Value.none (none : Option Nat) Value.none Value.none (0 : Nat))) #[]) = x) => x) _ ?_
  rotate_left
  · exact (rfl : (Obj.mk Value.none (none : Option Nat) (Data.func (FuncData.mk "_law_kind" "_law_kind" (Arguments.mk _ _ _ _ _ _ _) (FuncBody.stmts (_ :: _)) (Scope.mk _ _ _ _ _) (0 : Nat) (@List.nil (Prod Str Nat)) Value.none Value.none Value.none Value.none (none : Option Nat) Value.none Value.none (0 : Nat))) #[]) = _)
noncomputable def o429 : Params → Obj := fun P0 => (Obj.mk (Value.type "code") (none : Option Nat) (Data.fields #[(Value.str "_law_kind" (735 : Nat)), (Value.str "_law_kind" (736 : Nat)), (Value.str "/claim/cut.py" (737 : Nat)), (Value.int 211 (0 : Nat)), (Value.int 1 (0 : Nat)), (Value.int 0 (0 : Nat)), (Value.int 0 (0 : Nat)), (Value.int 3 (0 : Nat)), (Value.ref (389 : Nat)), (Value.bool Bool.true), (Value.int 181 (0 : Nat)), (Value.ref (390 : Nat)), Value.none, (Value.ref (391 : Nat)), (Value.ref (392 : Nat)), (Value.ref (393 : Nat)), (Value.int 739 (0 : Nat)), (Value.int 211 (0 : Nat)), (Value.str "/claim/cut.py" (740 : Nat))]) #[])
noncomputable def o430 : Params → Obj := by
  intro P0
  refine' (fun (x : Obj) (_ : (Obj.mk (Value.type "function") (none : Option Nat) (Data.func (FuncData.mk "_law_kind" "_law_kind" (fA f48) (FuncBody.stmts (fB f48)) (fC f48) (3 : Nat) (@List.nil (Prod Str Nat)) Value.none Value.none Value.none (Value.str "law_on0295_01" (704 : Nat)) (none : Option Nat) (Value.ref (394 : Nat)) Value.none (0 : Nat))) #[]) = x) => x) _ ?_
  rotate_left
  · exact (rfl : (Obj.mk (Value.type "function") (none : Option Nat) (Data.func (FuncData.mk "_law_kind" "_law_kind" (Arguments.mk _ _ _ _ _ _ _) (FuncBody.stmts (_ :: _)) (Scope.mk _ _ _ _ _) (3 : Nat) (@List.nil (Prod Str Nat)) Value.none Value.none Value.none (Value.str "law_on0295_01" (704 : Nat)) (none : Option Nat) (Value.ref (394 : Nat)) Value.none (0 : Nat))) #[]) = _)
noncomputable def o431 : Params → Obj := fun P0 => (Obj.mk (Value.type "tuple") (none : Option Nat) (Data.seq #[] (0 : Nat)) #[])
noncomputable def o432 : Params → Obj := fun P0 => (Obj.mk Value.none (none : Option Nat) (Data.fields #[]) #[])
noncomputable def o433 : Params → Obj := fun P0 => (Obj.mk (Value.type "tuple") (none : Option Nat) (Data.seq #[(Value.str "_law_name" (745 : Nat)), (Value.str "_law_things" (746 : Nat)), (Value.str "_law_place" (747 : Nat)), (Value.str "_law_one_here" (748 : Nat)), (Value.str "_law_other" (749 : Nat))] (0 : Nat)) #[])
noncomputable def o434 : Params → Obj := fun P0 => (Obj.mk (Value.type "tuple") (none : Option Nat) (Data.seq #[] (0 : Nat)) #[])
noncomputable def o435 : Params → Obj := by
  intro P0
  refine' (fun (x : Obj) (_ : (Obj.mk Value.none (none : Option Nat) (Data.func (FuncData.mk "_law_reckoned" "_law_reckoned" (fA f49) (FuncBody.stmts (fB f49)) (fC f49) (0 : Nat) (@List.nil (Prod Str Nat)) Value.none Value.none Value.none Value.none (none : Option Nat) Value.none Value.none (0 : Nat))) #[]) = x) => x) _ ?_
  rotate_left
  · exact (rfl : (Obj.mk Value.none (none : Option Nat) (Data.func (FuncData.mk "_law_reckoned" "_law_reckoned" (Arguments.mk _ _ _ _ _ _ _) (FuncBody.stmts (_ :: _)) (Scope.mk _ _ _ _ _) (0 : Nat) (@List.nil (Prod Str Nat)) Value.none Value.none Value.none Value.none (none : Option Nat) Value.none Value.none (0 : Nat))) #[]) = _)
noncomputable def o436 : Params → Obj := fun P0 => (Obj.mk (Value.type "code") (none : Option Nat) (Data.fields #[(Value.str "_law_reckoned" (742 : Nat)), (Value.str "_law_reckoned" (743 : Nat)), (Value.str "/claim/cut.py" (744 : Nat)), (Value.int 215 (0 : Nat)), (Value.int 2 (0 : Nat)), (Value.int 0 (0 : Nat)), (Value.int 0 (0 : Nat)), (Value.int 3 (0 : Nat)), (Value.ref (396 : Nat)), (Value.bool Bool.true), (Value.int 181 (0 : Nat)), (Value.ref (397 : Nat)), Value.none, (Value.ref (398 : Nat)), (Value.ref (399 : Nat)), (Value.ref (400 : Nat)), (Value.int 750 (0 : Nat)), (Value.int 215 (0 : Nat)), (Value.str "/claim/cut.py" (751 : Nat))]) #[])
noncomputable def o437 : Params → Obj := by
  intro P0
  refine' (fun (x : Obj) (_ : (Obj.mk (Value.type "function") (none : Option Nat) (Data.func (FuncData.mk "_law_reckoned" "_law_reckoned" (fA f49) (FuncBody.stmts (fB f49)) (fC f49) (3 : Nat) (@List.nil (Prod Str Nat)) Value.none Value.none Value.none (Value.str "law_on0295_01" (704 : Nat)) (none : Option Nat) (Value.ref (401 : Nat)) Value.none (0 : Nat))) #[]) = x) => x) _ ?_
  rotate_left
  · exact (rfl : (Obj.mk (Value.type "function") (none : Option Nat) (Data.func (FuncData.mk "_law_reckoned" "_law_reckoned" (Arguments.mk _ _ _ _ _ _ _) (FuncBody.stmts (_ :: _)) (Scope.mk _ _ _ _ _) (3 : Nat) (@List.nil (Prod Str Nat)) Value.none Value.none Value.none (Value.str "law_on0295_01" (704 : Nat)) (none : Option Nat) (Value.ref (401 : Nat)) Value.none (0 : Nat))) #[]) = _)
noncomputable def o438 : Params → Obj := fun P0 => (Obj.mk (Value.type "tuple") (none : Option Nat) (Data.seq #[] (0 : Nat)) #[])
noncomputable def o439 : Params → Obj := fun P0 => (Obj.mk Value.none (none : Option Nat) (Data.fields #[]) #[])
noncomputable def o440 : Params → Obj := fun P0 => (Obj.mk (Value.type "tuple") (none : Option Nat) (Data.seq #[(Value.str "_law_name" (756 : Nat)), (Value.str "_law_things" (757 : Nat)), (Value.str "_law_one_here" (758 : Nat)), (Value.str "_law_other" (759 : Nat)), (Value.str "_law_alike" (760 : Nat)), (Value.str "_law_at" (761 : Nat))] (0 : Nat)) #[])
noncomputable def o441 : Params → Obj := fun P0 => (Obj.mk (Value.type "tuple") (none : Option Nat) (Data.seq #[] (0 : Nat)) #[])
noncomputable def o442 : Params → Obj := by
  intro P0
  refine' (fun (x : Obj) (_ : (Obj.mk Value.none (none : Option Nat) (Data.func (FuncData.mk "_law_due" "_law_due" (fA f50) (FuncBody.stmts (fB f50)) (fC f50) (0 : Nat) (@List.nil (Prod Str Nat)) Value.none Value.none Value.none Value.none (none : Option Nat) Value.none Value.none (0 : Nat))) #[]) = x) => x) _ ?_
  rotate_left
  · exact (rfl : (Obj.mk Value.none (none : Option Nat) (Data.func (FuncData.mk "_law_due" "_law_due" (Arguments.mk _ _ _ _ _ _ _) (FuncBody.stmts (_ :: _)) (Scope.mk _ _ _ _ _) (0 : Nat) (@List.nil (Prod Str Nat)) Value.none Value.none Value.none Value.none (none : Option Nat) Value.none Value.none (0 : Nat))) #[]) = _)
noncomputable def o443 : Params → Obj := fun P0 => (Obj.mk (Value.type "code") (none : Option Nat) (Data.fields #[(Value.str "_law_due" (753 : Nat)), (Value.str "_law_due" (754 : Nat)), (Value.str "/claim/cut.py" (755 : Nat)), (Value.int 221 (0 : Nat)), (Value.int 2 (0 : Nat)), (Value.int 0 (0 : Nat)), (Value.int 0 (0 : Nat)), (Value.int 3 (0 : Nat)), (Value.ref (403 : Nat)), (Value.bool Bool.true), (Value.int 181 (0 : Nat)), (Value.ref (404 : Nat)), Value.none, (Value.ref (405 : Nat)), (Value.ref (406 : Nat)), (Value.ref (407 : Nat)), (Value.int 762 (0 : Nat)), (Value.int 221 (0 : Nat)), (Value.str "/claim/cut.py" (763 : Nat))]) #[])
noncomputable def o444 : Params → Obj := by
  intro P0
  refine' (fun (x : Obj) (_ : (Obj.mk (Value.type "function") (none : Option Nat) (Data.func (FuncData.mk "_law_due" "_law_due" (fA f50) (FuncBody.stmts (fB f50)) (fC f50) (3 : Nat) (@List.nil (Prod Str Nat)) Value.none Value.none Value.none (Value.str "law_on0295_01" (704 : Nat)) (none : Option Nat) (Value.ref (408 : Nat)) Value.none (0 : Nat))) #[]) = x) => x) _ ?_
  rotate_left
  · exact (rfl : (Obj.mk (Value.type "function") (none : Option Nat) (Data.func (FuncData.mk "_law_due" "_law_due" (Arguments.mk _ _ _ _ _ _ _) (FuncBody.stmts (_ :: _)) (Scope.mk _ _ _ _ _) (3 : Nat) (@List.nil (Prod Str Nat)) Value.none Value.none Value.none (Value.str "law_on0295_01" (704 : Nat)) (none : Option Nat) (Value.ref (408 : Nat)) Value.none (0 : Nat))) #[]) = _)
noncomputable def o445 : Params → Obj := fun P0 => (Obj.mk (Value.type "tuple") (none : Option Nat) (Data.seq #[] (0 : Nat)) #[])
noncomputable def o446 : Params → Obj := fun P0 => (Obj.mk Value.none (none : Option Nat) (Data.fields #[]) #[])
noncomputable def o447 : Params → Obj := fun P0 => (Obj.mk (Value.type "tuple") (none : Option Nat) (Data.seq #[(Value.str "_law_library" (768 : Nat)), (Value.str "_law_op" (769 : Nat)), (Value.str "_law_words" (770 : Nat)), (Value.str "error" (771 : Nat))] (0 : Nat)) #[])
noncomputable def o448 : Params → Obj := fun P0 => (Obj.mk (Value.type "tuple") (none : Option Nat) (Data.seq #[] (0 : Nat)) #[])
noncomputable def o449 : Params → Obj := by
  intro P0
  refine' (fun (x : Obj) (_ : (Obj.mk Value.none (none : Option Nat) (Data.func (FuncData.mk "_law_called" "_law_called" (fA f51) (FuncBody.stmts (fB f51)) (fC f51) (0 : Nat) (@List.nil (Prod Str Nat)) Value.none Value.none Value.none Value.none (none : Option Nat) Value.none Value.none (0 : Nat))) #[]) = x) => x) _ ?_
  rotate_left
  · exact (rfl : (Obj.mk Value.none (none : Option Nat) (Data.func (FuncData.mk "_law_called" "_law_called" (Arguments.mk _ _ _ _ _ _ _) (FuncBody.stmts (_ :: _)) (Scope.mk _ _ _ _ _) (0 : Nat) (@List.nil (Prod Str Nat)) Value.none Value.none Value.none Value.none (none : Option Nat) Value.none Value.none (0 : Nat))) #[]) = _)
noncomputable def o450 : Params → Obj := fun P0 => (Obj.mk (Value.type "code") (none : Option Nat) (Data.fields #[(Value.str "_law_called" (765 : Nat)), (Value.str "_law_called" (766 : Nat)), (Value.str "/claim/cut.py" (767 : Nat)), (Value.int 239 (0 : Nat)), (Value.int 3 (0 : Nat)), (Value.int 0 (0 : Nat)), (Value.int 0 (0 : Nat)), (Value.int 3 (0 : Nat)), (Value.ref (410 : Nat)), (Value.bool Bool.true), (Value.int 181 (0 : Nat)), (Value.ref (411 : Nat)), Value.none, (Value.ref (412 : Nat)), (Value.ref (413 : Nat)), (Value.ref (414 : Nat)), (Value.int 772 (0 : Nat)), (Value.int 239 (0 : Nat)), (Value.str "/claim/cut.py" (773 : Nat))]) #[])
noncomputable def o451 : Params → Obj := by
  intro P0
  refine' (fun (x : Obj) (_ : (Obj.mk (Value.type "function") (none : Option Nat) (Data.func (FuncData.mk "_law_called" "_law_called" (fA f51) (FuncBody.stmts (fB f51)) (fC f51) (3 : Nat) (@List.nil (Prod Str Nat)) Value.none Value.none Value.none (Value.str "law_on0295_01" (704 : Nat)) (none : Option Nat) (Value.ref (415 : Nat)) Value.none (0 : Nat))) #[]) = x) => x) _ ?_
  rotate_left
  · exact (rfl : (Obj.mk (Value.type "function") (none : Option Nat) (Data.func (FuncData.mk "_law_called" "_law_called" (Arguments.mk _ _ _ _ _ _ _) (FuncBody.stmts (_ :: _)) (Scope.mk _ _ _ _ _) (3 : Nat) (@List.nil (Prod Str Nat)) Value.none Value.none Value.none (Value.str "law_on0295_01" (704 : Nat)) (none : Option Nat) (Value.ref (415 : Nat)) Value.none (0 : Nat))) #[]) = _)
noncomputable def o452 : Params → Obj := fun P0 => (Obj.mk (Value.type "tuple") (none : Option Nat) (Data.seq #[] (0 : Nat)) #[])
noncomputable def o453 : Params → Obj := fun P0 => (Obj.mk Value.none (none : Option Nat) (Data.fields #[]) #[])
noncomputable def o454 : Params → Obj := fun P0 => (Obj.mk (Value.type "tuple") (none : Option Nat) (Data.seq #[(Value.str "_law_library" (778 : Nat)), (Value.str "_law_words" (779 : Nat)), (Value.str "error" (780 : Nat))] (0 : Nat)) #[])
noncomputable def o455 : Params → Obj := fun P0 => (Obj.mk (Value.type "tuple") (none : Option Nat) (Data.seq #[] (0 : Nat)) #[])
noncomputable def o456 : Params → Obj := by
  intro P0
  refine' (fun (x : Obj) (_ : (Obj.mk Value.none (none : Option Nat) (Data.func (FuncData.mk "_law_spread" "_law_spread" (fA f52) (FuncBody.stmts (fB f52)) (fC f52) (0 : Nat) (@List.nil (Prod Str Nat)) Value.none Value.none Value.none Value.none (none : Option Nat) Value.none Value.none (0 : Nat))) #[]) = x) => x) _ ?_
  rotate_left
  · exact (rfl : (Obj.mk Value.none (none : Option Nat) (Data.func (FuncData.mk "_law_spread" "_law_spread" (Arguments.mk _ _ _ _ _ _ _) (FuncBody.stmts (_ :: _)) (Scope.mk _ _ _ _ _) (0 : Nat) (@List.nil (Prod Str Nat)) Value.none Value.none Value.none Value.none (none : Option Nat) Value.none Value.none (0 : Nat))) #[]) = _)
noncomputable def o457 : Params → Obj := fun P0 => (Obj.mk (Value.type "code") (none : Option Nat) (Data.fields #[(Value.str "_law_spread" (775 : Nat)), (Value.str "_law_spread" (776 : Nat)), (Value.str "/claim/cut.py" (777 : Nat)), (Value.int 248 (0 : Nat)), (Value.int 2 (0 : Nat)), (Value.int 0 (0 : Nat)), (Value.int 0 (0 : Nat)), (Value.int 3 (0 : Nat)), (Value.ref (417 : Nat)), (Value.bool Bool.true), (Value.int 181 (0 : Nat)), (Value.ref (418 : Nat)), Value.none, (Value.ref (419 : Nat)), (Value.ref (420 : Nat)), (Value.ref (421 : Nat)), (Value.int 781 (0 : Nat)), (Value.int 248 (0 : Nat)), (Value.str "/claim/cut.py" (782 : Nat))]) #[])
noncomputable def o458 : Params → Obj := by
  intro P0
  refine' (fun (x : Obj) (_ : (Obj.mk (Value.type "function") (none : Option Nat) (Data.func (FuncData.mk "_law_spread" "_law_spread" (fA f52) (FuncBody.stmts (fB f52)) (fC f52) (3 : Nat) (@List.nil (Prod Str Nat)) Value.none Value.none Value.none (Value.str "law_on0295_01" (704 : Nat)) (none : Option Nat) (Value.ref (422 : Nat)) Value.none (0 : Nat))) #[]) = x) => x) _ ?_
  rotate_left
  · exact (rfl : (Obj.mk (Value.type "function") (none : Option Nat) (Data.func (FuncData.mk "_law_spread" "_law_spread" (Arguments.mk _ _ _ _ _ _ _) (FuncBody.stmts (_ :: _)) (Scope.mk _ _ _ _ _) (3 : Nat) (@List.nil (Prod Str Nat)) Value.none Value.none Value.none (Value.str "law_on0295_01" (704 : Nat)) (none : Option Nat) (Value.ref (422 : Nat)) Value.none (0 : Nat))) #[]) = _)
noncomputable def o459 : Params → Obj := fun P0 => (Obj.mk (Value.type "tuple") (none : Option Nat) (Data.seq #[] (0 : Nat)) #[])
noncomputable def o460 : Params → Obj := fun P0 => (Obj.mk Value.none (none : Option Nat) (Data.fields #[]) #[])
noncomputable def o461 : Params → Obj := by
  intro P0
  refine' (fun (x : Obj) (_ : (Obj.mk Value.none (none : Option Nat) (Data.func (FuncData.mk "_law_items" "_law_items" (fA f53) (FuncBody.stmts (fB f53)) (fC f53) (0 : Nat) (@List.nil (Prod Str Nat)) Value.none Value.none Value.none Value.none (none : Option Nat) Value.none Value.none (0 : Nat))) #[]) = x) => x) _ ?_
  rotate_left
  · exact (rfl : (Obj.mk Value.none (none : Option Nat) (Data.func (FuncData.mk "_law_items" "_law_items" (Arguments.mk _ _ _ _ _ _ _) (FuncBody.stmts (_ :: _)) (Scope.mk _ _ _ _ _) (0 : Nat) (@List.nil (Prod Str Nat)) Value.none Value.none Value.none Value.none (none : Option Nat) Value.none Value.none (0 : Nat))) #[]) = _)
noncomputable def o462 : Params → Obj := fun P0 => (Obj.mk (Value.type "code") (none : Option Nat) (Data.fields #[(Value.str "_law_items" (784 : Nat)), (Value.str "_law_items" (785 : Nat)), (Value.str "/claim/cut.py" (786 : Nat)), (Value.int 253 (0 : Nat)), (Value.int 1 (0 : Nat)), (Value.int 0 (0 : Nat)), (Value.int 0 (0 : Nat)), (Value.int 3 (0 : Nat)), (Value.ref (424 : Nat)), (Value.bool Bool.true), (Value.int 181 (0 : Nat)), (Value.ref (425 : Nat)), Value.none, Value.none, Value.none, (Value.ref (426 : Nat)), (Value.int 787 (0 : Nat)), (Value.int 253 (0 : Nat)), (Value.str "/claim/cut.py" (788 : Nat))]) #[])
noncomputable def o463 : Params → Obj := by
  intro P0
  refine' (fun (x : Obj) (_ : (Obj.mk (Value.type "function") (none : Option Nat) (Data.func (FuncData.mk "_law_items" "_law_items" (fA f53) (FuncBody.stmts (fB f53)) (fC f53) (3 : Nat) (@List.nil (Prod Str Nat)) Value.none Value.none Value.none (Value.str "law_on0295_01" (704 : Nat)) (none : Option Nat) (Value.ref (427 : Nat)) Value.none (0 : Nat))) #[]) = x) => x) _ ?_
  rotate_left
  · exact (rfl : (Obj.mk (Value.type "function") (none : Option Nat) (Data.func (FuncData.mk "_law_items" "_law_items" (Arguments.mk _ _ _ _ _ _ _) (FuncBody.stmts (_ :: _)) (Scope.mk _ _ _ _ _) (3 : Nat) (@List.nil (Prod Str Nat)) Value.none Value.none Value.none (Value.str "law_on0295_01" (704 : Nat)) (none : Option Nat) (Value.ref (427 : Nat)) Value.none (0 : Nat))) #[]) = _)
noncomputable def o464 : Params → Obj := fun P0 => (Obj.mk (Value.type "tuple") (none : Option Nat) (Data.seq #[] (0 : Nat)) #[])
noncomputable def o465 : Params → Obj := fun P0 => (Obj.mk Value.none (none : Option Nat) (Data.fields #[]) #[])
noncomputable def o466 : Params → Obj := by
  intro P0
  refine' (fun (x : Obj) (_ : (Obj.mk Value.none (none : Option Nat) (Data.func (FuncData.mk "_law_is_whole" "_law_is_whole" (fA f54) (FuncBody.stmts (fB f54)) (fC f54) (0 : Nat) (@List.nil (Prod Str Nat)) Value.none Value.none Value.none Value.none (none : Option Nat) Value.none Value.none (0 : Nat))) #[]) = x) => x) _ ?_
  rotate_left
  · exact (rfl : (Obj.mk Value.none (none : Option Nat) (Data.func (FuncData.mk "_law_is_whole" "_law_is_whole" (Arguments.mk _ _ _ _ _ _ _) (FuncBody.stmts (_ :: _)) (Scope.mk _ _ _ _ _) (0 : Nat) (@List.nil (Prod Str Nat)) Value.none Value.none Value.none Value.none (none : Option Nat) Value.none Value.none (0 : Nat))) #[]) = _)
noncomputable def o467 : Params → Obj := fun P0 => (Obj.mk (Value.type "code") (none : Option Nat) (Data.fields #[(Value.str "_law_is_whole" (790 : Nat)), (Value.str "_law_is_whole" (791 : Nat)), (Value.str "/claim/cut.py" (792 : Nat)), (Value.int 262 (0 : Nat)), (Value.int 2 (0 : Nat)), (Value.int 0 (0 : Nat)), (Value.int 0 (0 : Nat)), (Value.int 3 (0 : Nat)), (Value.ref (429 : Nat)), (Value.bool Bool.true), (Value.int 181 (0 : Nat)), (Value.ref (430 : Nat)), Value.none, Value.none, Value.none, (Value.ref (431 : Nat)), (Value.int 793 (0 : Nat)), (Value.int 262 (0 : Nat)), (Value.str "/claim/cut.py" (794 : Nat))]) #[])
noncomputable def o468 : Params → Obj := by
  intro P0
  refine' (fun (x : Obj) (_ : (Obj.mk (Value.type "function") (none : Option Nat) (Data.func (FuncData.mk "_law_is_whole" "_law_is_whole" (fA f54) (FuncBody.stmts (fB f54)) (fC f54) (3 : Nat) (@List.nil (Prod Str Nat)) Value.none Value.none Value.none (Value.str "law_on0295_01" (704 : Nat)) (none : Option Nat) (Value.ref (432 : Nat)) Value.none (0 : Nat))) #[]) = x) => x) _ ?_
  rotate_left
  · exact (rfl : (Obj.mk (Value.type "function") (none : Option Nat) (Data.func (FuncData.mk "_law_is_whole" "_law_is_whole" (Arguments.mk _ _ _ _ _ _ _) (FuncBody.stmts (_ :: _)) (Scope.mk _ _ _ _ _) (3 : Nat) (@List.nil (Prod Str Nat)) Value.none Value.none Value.none (Value.str "law_on0295_01" (704 : Nat)) (none : Option Nat) (Value.ref (432 : Nat)) Value.none (0 : Nat))) #[]) = _)
noncomputable def o469 : Params → Obj := fun P0 => (Obj.mk (Value.type "tuple") (none : Option Nat) (Data.seq #[] (0 : Nat)) #[])
noncomputable def o470 : Params → Obj := fun P0 => (Obj.mk Value.none (none : Option Nat) (Data.fields #[]) #[])
noncomputable def o471 : Params → Obj := by
  intro P0
  refine' (fun (x : Obj) (_ : (Obj.mk Value.none (none : Option Nat) (Data.func (FuncData.mk "law" "law" (fA f55) (FuncBody.stmts (fB f55)) (fC f55) (0 : Nat) (@List.nil (Prod Str Nat)) Value.none Value.none Value.none Value.none (none : Option Nat) Value.none Value.none (0 : Nat))) #[]) = x) => x) _ ?_
  rotate_left
  · exact (rfl : (Obj.mk Value.none (none : Option Nat) (Data.func (FuncData.mk "law" "law" (Arguments.mk _ _ _ _ _ _ _) (FuncBody.stmts (_ :: _)) (Scope.mk _ _ _ _ _) (0 : Nat) (@List.nil (Prod Str Nat)) Value.none Value.none Value.none Value.none (none : Option Nat) Value.none Value.none (0 : Nat))) #[]) = _)
noncomputable def o472 : Params → Obj := fun P0 => (Obj.mk (Value.type "code") (none : Option Nat) (Data.fields #[(Value.str "law" (796 : Nat)), (Value.str "law" (797 : Nat)), (Value.str "/claim/cut.py" (798 : Nat)), (Value.int 268 (0 : Nat)), (Value.int 1 (0 : Nat)), (Value.int 0 (0 : Nat)), (Value.int 0 (0 : Nat)), (Value.int 3 (0 : Nat)), (Value.ref (434 : Nat)), (Value.bool Bool.true), (Value.int 181 (0 : Nat)), (Value.ref (435 : Nat)), Value.none, Value.none, Value.none, (Value.ref (436 : Nat)), (Value.int 799 (0 : Nat)), (Value.int 268 (0 : Nat)), (Value.str "/claim/cut.py" (800 : Nat))]) #[])
noncomputable def o473 : Params → Obj := by
  intro P0
  refine' (fun (x : Obj) (_ : (Obj.mk (Value.type "function") (none : Option Nat) (Data.func (FuncData.mk "law" "law" (fA f55) (FuncBody.stmts (fB f55)) (fC f55) (3 : Nat) (@List.nil (Prod Str Nat)) Value.none Value.none Value.none (Value.str "law_on0295_01" (704 : Nat)) (none : Option Nat) (Value.ref (437 : Nat)) Value.none (0 : Nat))) #[]) = x) => x) _ ?_
  rotate_left
  · exact (rfl : (Obj.mk (Value.type "function") (none : Option Nat) (Data.func (FuncData.mk "law" "law" (Arguments.mk _ _ _ _ _ _ _) (FuncBody.stmts (_ :: _)) (Scope.mk _ _ _ _ _) (3 : Nat) (@List.nil (Prod Str Nat)) Value.none Value.none Value.none (Value.str "law_on0295_01" (704 : Nat)) (none : Option Nat) (Value.ref (437 : Nat)) Value.none (0 : Nat))) #[]) = _)
noncomputable def o44 : Params → Obj := fun P0 => (Obj.mk Value.none none (Data.fields #[]) #[])
noncomputable def hd.heap_39 : Params → Frag := by
  intro P
  refine' (fun (x : Frag) (_ : (nat_lit 2, o47 P) :: (nat_lit 3, o48 P) :: (nat_lit 15, o50 P) :: (nat_lit 17, o52 P) :: (nat_lit 18, o53 P) :: (nat_lit 20, o55 P) :: (nat_lit 21, o56 P) :: (nat_lit 22, o57 P) :: (nat_lit 29, o64 P) :: (nat_lit 31, o66 P) :: (nat_lit 32, o67 P) :: (nat_lit 34, o69 P) :: (nat_lit 35, o70 P) :: (nat_lit 36, o71 P) :: (nat_lit 37, o72 P) :: (nat_lit 38, o73 P) :: (nat_lit 39, o74 P) :: (nat_lit 42, o77 P) :: (nat_lit 49, o84 P) :: (nat_lit 51, o86 P) :: (nat_lit 52, o87 P) :: (nat_lit 54, o89 P) :: (nat_lit 55, o90 P) :: (nat_lit 56, o91 P) :: (nat_lit 57, o92 P) :: (nat_lit 58, o93 P) :: (nat_lit 61, o96 P) :: (nat_lit 68, o103 P) :: (nat_lit 70, o105 P) :: (nat_lit 71, o106 P) :: (nat_lit 73, o108 P) :: (nat_lit 74, o109 P) :: (nat_lit 75, o110 P) :: (nat_lit 76, o111 P) :: (nat_lit 77, o112 P) :: (nat_lit 80, o115 P) :: (nat_lit 87, o122 P) :: (nat_lit 89, o124 P) :: (nat_lit 90, o125 P) :: (nat_lit 92, o127 P) :: (nat_lit 93, o128 P) :: (nat_lit 94, o129 P) :: (nat_lit 95, o130 P) :: (nat_lit 96, o131 P) :: (nat_lit 97, o132 P) :: (nat_lit 100, o135 P) :: (nat_lit 102, o137 P) :: (nat_lit 103, o138 P) :: (nat_lit 105, o140 P) :: (nat_lit 106, o141 P) :: (nat_lit 107, o142 P) :: (nat_lit 109, o144 P) :: (nat_lit 110, o145 P) :: (nat_lit 112, o147 P) :: (nat_lit 113, o148 P) :: (nat_lit 114, o149 P) :: (nat_lit 116, o151 P) :: (nat_lit 117, o152 P) :: (nat_lit 119, o154 P) :: (nat_lit 120, o155 P) :: (nat_lit 121, o156 P) :: (nat_lit 123, o158 P) :: (nat_lit 124, o159 P) :: (nat_lit 126, o161 P) :: (nat_lit 127, o162 P) :: (nat_lit 128, o163 P) :: (nat_lit 130, o165 P) :: (nat_lit 131, o166 P) :: (nat_lit 133, o168 P) :: (nat_lit 134, o169 P) :: (nat_lit 135, o170 P) :: (nat_lit 137, o172 P) :: (nat_lit 138, o173 P) :: (nat_lit 140, o175 P) :: (nat_lit 141, o176 P) :: (nat_lit 142, o177 P) :: (nat_lit 144, o179 P) :: (nat_lit 145, o180 P) :: (nat_lit 147, o182 P) :: (nat_lit 148, o183 P) :: (nat_lit 149, o184 P) :: (nat_lit 151, o186 P) :: (nat_lit 152, o187 P) :: (nat_lit 154, o189 P) :: (nat_lit 155, o190 P) :: (nat_lit 156, o191 P) :: (nat_lit 158, o193 P) :: (nat_lit 159, o194 P) :: (nat_lit 161, o196 P) :: (nat_lit 162, o197 P) :: (nat_lit 163, o198 P) :: (nat_lit 165, o200 P) :: (nat_lit 166, o201 P) :: (nat_lit 168, o203 P) :: (nat_lit 169, o204 P) :: (nat_lit 170, o205 P) :: (nat_lit 171, o206 P) :: (nat_lit 172, o207 P) :: (nat_lit 173, o208 P) :: (nat_lit 174, o209 P) :: (nat_lit 175, o210 P) :: (nat_lit 176, o211 P) :: (nat_lit 177, o212 P) :: (nat_lit 178, o213 P) :: (nat_lit 179, o214 P) :: (nat_lit 180, o215 P) :: (nat_lit 181, o216 P) :: (nat_lit 182, o217 P) :: (nat_lit 190, o225 P) :: (nat_lit 192, o227 P) :: (nat_lit 193, o228 P) :: (nat_lit 195, o230 P) :: (nat_lit 196, o231 P) :: (nat_lit 197, o232 P) :: (nat_lit 199, o234 P) :: (nat_lit 200, o235 P) :: (nat_lit 202, o237 P) :: (nat_lit 203, o238 P) :: (nat_lit 204, o239 P) :: (nat_lit 206, o241 P) :: (nat_lit 207, o242 P) :: (nat_lit 209, o244 P) :: (nat_lit 210, o245 P) :: (nat_lit 211, o246 P) :: (nat_lit 213, o248 P) :: (nat_lit 214, o249 P) :: (nat_lit 216, o251 P) :: (nat_lit 217, o252 P) :: (nat_lit 218, o253 P) :: (nat_lit 220, o255 P) :: (nat_lit 221, o256 P) :: (nat_lit 223, o258 P) :: (nat_lit 224, o259 P) :: (nat_lit 225, o260 P) :: (nat_lit 227, o262 P) :: (nat_lit 228, o263 P) :: (nat_lit 230, o265 P) :: (nat_lit 231, o266 P) :: (nat_lit 232, o267 P) :: (nat_lit 234, o269 P) :: (nat_lit 235, o270 P) :: (nat_lit 237, o272 P) :: (nat_lit 238, o273 P) :: (nat_lit 239, o274 P) :: (nat_lit 241, o276 P) :: (nat_lit 242, o277 P) :: (nat_lit 244, o279 P) :: (nat_lit 245, o280 P) :: (nat_lit 246, o281 P) :: (nat_lit 248, o283 P) :: (nat_lit 249, o284 P) :: (nat_lit 251, o286 P) :: (nat_lit 252, o287 P) :: (nat_lit 253, o288 P) :: (nat_lit 254, o289 P) :: (nat_lit 255, o290 P) :: (nat_lit 256, o291 P) :: (nat_lit 257, o292 P) :: (nat_lit 267, o302 P) :: (nat_lit 269, o304 P) :: (nat_lit 270, o305 P) :: (nat_lit 272, o307 P) :: (nat_lit 273, o308 P) :: (nat_lit 274, o309 P) :: (nat_lit 276, o311 P) :: (nat_lit 277, o312 P) :: (nat_lit 279, o314 P) :: (nat_lit 280, o315 P) :: (nat_lit 281, o316 P) :: (nat_lit 283, o318 P) :: (nat_lit 284, o319 P) :: (nat_lit 286, o321 P) :: (nat_lit 287, o322 P) :: (nat_lit 288, o323 P) :: (nat_lit 290, o325 P) :: (nat_lit 291, o326 P) :: (nat_lit 293, o328 P) :: (nat_lit 294, o329 P) :: (nat_lit 295, o330 P) :: (nat_lit 297, o332 P) :: (nat_lit 298, o333 P) :: (nat_lit 300, o335 P) :: (nat_lit 301, o336 P) :: (nat_lit 302, o337 P) :: (nat_lit 304, o339 P) :: (nat_lit 305, o340 P) :: (nat_lit 307, o342 P) :: (nat_lit 308, o343 P) :: (nat_lit 309, o344 P) :: (nat_lit 311, o346 P) :: (nat_lit 312, o347 P) :: (nat_lit 314, o349 P) :: (nat_lit 315, o350 P) :: (nat_lit 316, o351 P) :: (nat_lit 318, o353 P) :: (nat_lit 319, o354 P) :: (nat_lit 321, o356 P) :: (nat_lit 322, o357 P) :: (nat_lit 323, o358 P) :: (nat_lit 325, o360 P) :: (nat_lit 326, o361 P) :: (nat_lit 328, o363 P) :: (nat_lit 329, o364 P) :: (nat_lit 330, o365 P) :: (nat_lit 332, o367 P) :: (nat_lit 333, o368 P) :: (nat_lit 335, o370 P) :: (nat_lit 336, o371 P) :: (nat_lit 337, o372 P) :: (nat_lit 339, o374 P) :: (nat_lit 340, o375 P) :: (nat_lit 342, o377 P) :: (nat_lit 343, o378 P) :: (nat_lit 344, o379 P) :: (nat_lit 346, o381 P) :: (nat_lit 347, o382 P) :: (nat_lit 349, o384 P) :: (nat_lit 350, o385 P) :: (nat_lit 351, o386 P) :: (nat_lit 353, o388 P) :: (nat_lit 354, o389 P) :: (nat_lit 356, o391 P) :: (nat_lit 357, o392 P) :: (nat_lit 358, o393 P) :: (nat_lit 359, o394 P) :: (nat_lit 360, o395 P) :: (nat_lit 361, o396 P) :: (nat_lit 362, o397 P) :: (nat_lit 365, o400 P) :: (nat_lit 368, o403 P) :: (nat_lit 369, o404 P) :: (nat_lit 370, o405 P) :: (nat_lit 372, o407 P) :: (nat_lit 373, o408 P) :: (nat_lit 375, o410 P) :: (nat_lit 376, o411 P) :: (nat_lit 377, o412 P) :: (nat_lit 379, o414 P) :: (nat_lit 380, o415 P) :: (nat_lit 382, o417 P) :: (nat_lit 383, o418 P) :: (nat_lit 384, o419 P) :: (nat_lit 387, o422 P) :: (nat_lit 388, o423 P) :: (nat_lit 389, o424 P) :: (nat_lit 391, o426 P) :: (nat_lit 392, o427 P) :: (nat_lit 394, o429 P) :: (nat_lit 395, o430 P) :: (nat_lit 396, o431 P) :: (nat_lit 398, o433 P) :: (nat_lit 399, o434 P) :: (nat_lit 401, o436 P) :: (nat_lit 402, o437 P) :: (nat_lit 403, o438 P) :: (nat_lit 405, o440 P) :: (nat_lit 406, o441 P) :: (nat_lit 408, o443 P) :: (nat_lit 409, o444 P) :: (nat_lit 410, o445 P) :: (nat_lit 412, o447 P) :: (nat_lit 413, o448 P) :: (nat_lit 415, o450 P) :: (nat_lit 416, o451 P) :: (nat_lit 417, o452 P) :: (nat_lit 419, o454 P) :: (nat_lit 420, o455 P) :: (nat_lit 422, o457 P) :: (nat_lit 423, o458 P) :: (nat_lit 424, o459 P) :: (nat_lit 427, o462 P) :: (nat_lit 428, o463 P) :: (nat_lit 429, o464 P) :: (nat_lit 432, o467 P) :: (nat_lit 433, o468 P) :: (nat_lit 434, o469 P) :: (nat_lit 437, o472 P) :: (nat_lit 438, o473 P) :: [] = x) => x) _ ?_
  rotate_left
  · exact (rfl : (nat_lit 2, Obj.mk _ _ _ _) :: (nat_lit 3, Obj.mk _ _ _ _) :: (nat_lit 15, Obj.mk _ _ _ _) :: (nat_lit 17, Obj.mk _ _ _ _) :: (nat_lit 18, Obj.mk _ _ _ _) :: (nat_lit 20, Obj.mk _ _ _ _) :: (nat_lit 21, Obj.mk _ _ _ _) :: (nat_lit 22, Obj.mk _ _ _ _) :: (nat_lit 29, Obj.mk _ _ _ _) :: (nat_lit 31, Obj.mk _ _ _ _) :: (nat_lit 32, Obj.mk _ _ _ _) :: (nat_lit 34, Obj.mk _ _ _ _) :: (nat_lit 35, Obj.mk _ _ _ _) :: (nat_lit 36, Obj.mk _ _ _ _) :: (nat_lit 37, Obj.mk _ _ _ _) :: (nat_lit 38, Obj.mk _ _ _ _) :: (nat_lit 39, Obj.mk _ _ _ _) :: (nat_lit 42, Obj.mk _ _ _ _) :: (nat_lit 49, Obj.mk _ _ _ _) :: (nat_lit 51, Obj.mk _ _ _ _) :: (nat_lit 52, Obj.mk _ _ _ _) :: (nat_lit 54, Obj.mk _ _ _ _) :: (nat_lit 55, Obj.mk _ _ _ _) :: (nat_lit 56, Obj.mk _ _ _ _) :: (nat_lit 57, Obj.mk _ _ _ _) :: (nat_lit 58, Obj.mk _ _ _ _) :: (nat_lit 61, Obj.mk _ _ _ _) :: (nat_lit 68, Obj.mk _ _ _ _) :: (nat_lit 70, Obj.mk _ _ _ _) :: (nat_lit 71, Obj.mk _ _ _ _) :: (nat_lit 73, Obj.mk _ _ _ _) :: (nat_lit 74, Obj.mk _ _ _ _) :: (nat_lit 75, Obj.mk _ _ _ _) :: (nat_lit 76, Obj.mk _ _ _ _) :: (nat_lit 77, Obj.mk _ _ _ _) :: (nat_lit 80, Obj.mk _ _ _ _) :: (nat_lit 87, Obj.mk _ _ _ _) :: (nat_lit 89, Obj.mk _ _ _ _) :: (nat_lit 90, Obj.mk _ _ _ _) :: (nat_lit 92, Obj.mk _ _ _ _) :: (nat_lit 93, Obj.mk _ _ _ _) :: (nat_lit 94, Obj.mk _ _ _ _) :: (nat_lit 95, Obj.mk _ _ _ _) :: (nat_lit 96, Obj.mk _ _ _ _) :: (nat_lit 97, Obj.mk _ _ _ _) :: (nat_lit 100, Obj.mk _ _ _ _) :: (nat_lit 102, Obj.mk _ _ _ _) :: (nat_lit 103, Obj.mk _ _ _ _) :: (nat_lit 105, Obj.mk _ _ _ _) :: (nat_lit 106, Obj.mk _ _ _ _) :: (nat_lit 107, Obj.mk _ _ _ _) :: (nat_lit 109, Obj.mk _ _ _ _) :: (nat_lit 110, Obj.mk _ _ _ _) :: (nat_lit 112, Obj.mk _ _ _ _) :: (nat_lit 113, Obj.mk _ _ _ _) :: (nat_lit 114, Obj.mk _ _ _ _) :: (nat_lit 116, Obj.mk _ _ _ _) :: (nat_lit 117, Obj.mk _ _ _ _) :: (nat_lit 119, Obj.mk _ _ _ _) :: (nat_lit 120, Obj.mk _ _ _ _) :: (nat_lit 121, Obj.mk _ _ _ _) :: (nat_lit 123, Obj.mk _ _ _ _) :: (nat_lit 124, Obj.mk _ _ _ _) :: (nat_lit 126, Obj.mk _ _ _ _) :: (nat_lit 127, Obj.mk _ _ _ _) :: (nat_lit 128, Obj.mk _ _ _ _) :: (nat_lit 130, Obj.mk _ _ _ _) :: (nat_lit 131, Obj.mk _ _ _ _) :: (nat_lit 133, Obj.mk _ _ _ _) :: (nat_lit 134, Obj.mk _ _ _ _) :: (nat_lit 135, Obj.mk _ _ _ _) :: (nat_lit 137, Obj.mk _ _ _ _) :: (nat_lit 138, Obj.mk _ _ _ _) :: (nat_lit 140, Obj.mk _ _ _ _) :: (nat_lit 141, Obj.mk _ _ _ _) :: (nat_lit 142, Obj.mk _ _ _ _) :: (nat_lit 144, Obj.mk _ _ _ _) :: (nat_lit 145, Obj.mk _ _ _ _) :: (nat_lit 147, Obj.mk _ _ _ _) :: (nat_lit 148, Obj.mk _ _ _ _) :: (nat_lit 149, Obj.mk _ _ _ _) :: (nat_lit 151, Obj.mk _ _ _ _) :: (nat_lit 152, Obj.mk _ _ _ _) :: (nat_lit 154, Obj.mk _ _ _ _) :: (nat_lit 155, Obj.mk _ _ _ _) :: (nat_lit 156, Obj.mk _ _ _ _) :: (nat_lit 158, Obj.mk _ _ _ _) :: (nat_lit 159, Obj.mk _ _ _ _) :: (nat_lit 161, Obj.mk _ _ _ _) :: (nat_lit 162, Obj.mk _ _ _ _) :: (nat_lit 163, Obj.mk _ _ _ _) :: (nat_lit 165, Obj.mk _ _ _ _) :: (nat_lit 166, Obj.mk _ _ _ _) :: (nat_lit 168, Obj.mk _ _ _ _) :: (nat_lit 169, Obj.mk _ _ _ _) :: (nat_lit 170, Obj.mk _ _ _ _) :: (nat_lit 171, Obj.mk _ _ _ _) :: (nat_lit 172, Obj.mk _ _ _ _) :: (nat_lit 173, Obj.mk _ _ _ _) :: (nat_lit 174, Obj.mk _ _ _ _) :: (nat_lit 175, Obj.mk _ _ _ _) :: (nat_lit 176, Obj.mk _ _ _ _) :: (nat_lit 177, Obj.mk _ _ _ _) :: (nat_lit 178, Obj.mk _ _ _ _) :: (nat_lit 179, Obj.mk _ _ _ _) :: (nat_lit 180, Obj.mk _ _ _ _) :: (nat_lit 181, Obj.mk _ _ _ _) :: (nat_lit 182, Obj.mk _ _ _ _) :: (nat_lit 190, Obj.mk _ _ _ _) :: (nat_lit 192, Obj.mk _ _ _ _) :: (nat_lit 193, Obj.mk _ _ _ _) :: (nat_lit 195, Obj.mk _ _ _ _) :: (nat_lit 196, Obj.mk _ _ _ _) :: (nat_lit 197, Obj.mk _ _ _ _) :: (nat_lit 199, Obj.mk _ _ _ _) :: (nat_lit 200, Obj.mk _ _ _ _) :: (nat_lit 202, Obj.mk _ _ _ _) :: (nat_lit 203, Obj.mk _ _ _ _) :: (nat_lit 204, Obj.mk _ _ _ _) :: (nat_lit 206, Obj.mk _ _ _ _) :: (nat_lit 207, Obj.mk _ _ _ _) :: (nat_lit 209, Obj.mk _ _ _ _) :: (nat_lit 210, Obj.mk _ _ _ _) :: (nat_lit 211, Obj.mk _ _ _ _) :: (nat_lit 213, Obj.mk _ _ _ _) :: (nat_lit 214, Obj.mk _ _ _ _) :: (nat_lit 216, Obj.mk _ _ _ _) :: (nat_lit 217, Obj.mk _ _ _ _) :: (nat_lit 218, Obj.mk _ _ _ _) :: (nat_lit 220, Obj.mk _ _ _ _) :: (nat_lit 221, Obj.mk _ _ _ _) :: (nat_lit 223, Obj.mk _ _ _ _) :: (nat_lit 224, Obj.mk _ _ _ _) :: (nat_lit 225, Obj.mk _ _ _ _) :: (nat_lit 227, Obj.mk _ _ _ _) :: (nat_lit 228, Obj.mk _ _ _ _) :: (nat_lit 230, Obj.mk _ _ _ _) :: (nat_lit 231, Obj.mk _ _ _ _) :: (nat_lit 232, Obj.mk _ _ _ _) :: (nat_lit 234, Obj.mk _ _ _ _) :: (nat_lit 235, Obj.mk _ _ _ _) :: (nat_lit 237, Obj.mk _ _ _ _) :: (nat_lit 238, Obj.mk _ _ _ _) :: (nat_lit 239, Obj.mk _ _ _ _) :: (nat_lit 241, Obj.mk _ _ _ _) :: (nat_lit 242, Obj.mk _ _ _ _) :: (nat_lit 244, Obj.mk _ _ _ _) :: (nat_lit 245, Obj.mk _ _ _ _) :: (nat_lit 246, Obj.mk _ _ _ _) :: (nat_lit 248, Obj.mk _ _ _ _) :: (nat_lit 249, Obj.mk _ _ _ _) :: (nat_lit 251, Obj.mk _ _ _ _) :: (nat_lit 252, Obj.mk _ _ _ _) :: (nat_lit 253, Obj.mk _ _ _ _) :: (nat_lit 254, Obj.mk _ _ _ _) :: (nat_lit 255, Obj.mk _ _ _ _) :: (nat_lit 256, Obj.mk _ _ _ _) :: (nat_lit 257, Obj.mk _ _ _ _) :: (nat_lit 267, Obj.mk _ _ _ _) :: (nat_lit 269, Obj.mk _ _ _ _) :: (nat_lit 270, Obj.mk _ _ _ _) :: (nat_lit 272, Obj.mk _ _ _ _) :: (nat_lit 273, Obj.mk _ _ _ _) :: (nat_lit 274, Obj.mk _ _ _ _) :: (nat_lit 276, Obj.mk _ _ _ _) :: (nat_lit 277, Obj.mk _ _ _ _) :: (nat_lit 279, Obj.mk _ _ _ _) :: (nat_lit 280, Obj.mk _ _ _ _) :: (nat_lit 281, Obj.mk _ _ _ _) :: (nat_lit 283, Obj.mk _ _ _ _) :: (nat_lit 284, Obj.mk _ _ _ _) :: (nat_lit 286, Obj.mk _ _ _ _) :: (nat_lit 287, Obj.mk _ _ _ _) :: (nat_lit 288, Obj.mk _ _ _ _) :: (nat_lit 290, Obj.mk _ _ _ _) :: (nat_lit 291, Obj.mk _ _ _ _) :: (nat_lit 293, Obj.mk _ _ _ _) :: (nat_lit 294, Obj.mk _ _ _ _) :: (nat_lit 295, Obj.mk _ _ _ _) :: (nat_lit 297, Obj.mk _ _ _ _) :: (nat_lit 298, Obj.mk _ _ _ _) :: (nat_lit 300, Obj.mk _ _ _ _) :: (nat_lit 301, Obj.mk _ _ _ _) :: (nat_lit 302, Obj.mk _ _ _ _) :: (nat_lit 304, Obj.mk _ _ _ _) :: (nat_lit 305, Obj.mk _ _ _ _) :: (nat_lit 307, Obj.mk _ _ _ _) :: (nat_lit 308, Obj.mk _ _ _ _) :: (nat_lit 309, Obj.mk _ _ _ _) :: (nat_lit 311, Obj.mk _ _ _ _) :: (nat_lit 312, Obj.mk _ _ _ _) :: (nat_lit 314, Obj.mk _ _ _ _) :: (nat_lit 315, Obj.mk _ _ _ _) :: (nat_lit 316, Obj.mk _ _ _ _) :: (nat_lit 318, Obj.mk _ _ _ _) :: (nat_lit 319, Obj.mk _ _ _ _) :: (nat_lit 321, Obj.mk _ _ _ _) :: (nat_lit 322, Obj.mk _ _ _ _) :: (nat_lit 323, Obj.mk _ _ _ _) :: (nat_lit 325, Obj.mk _ _ _ _) :: (nat_lit 326, Obj.mk _ _ _ _) :: (nat_lit 328, Obj.mk _ _ _ _) :: (nat_lit 329, Obj.mk _ _ _ _) :: (nat_lit 330, Obj.mk _ _ _ _) :: (nat_lit 332, Obj.mk _ _ _ _) :: (nat_lit 333, Obj.mk _ _ _ _) :: (nat_lit 335, Obj.mk _ _ _ _) :: (nat_lit 336, Obj.mk _ _ _ _) :: (nat_lit 337, Obj.mk _ _ _ _) :: (nat_lit 339, Obj.mk _ _ _ _) :: (nat_lit 340, Obj.mk _ _ _ _) :: (nat_lit 342, Obj.mk _ _ _ _) :: (nat_lit 343, Obj.mk _ _ _ _) :: (nat_lit 344, Obj.mk _ _ _ _) :: (nat_lit 346, Obj.mk _ _ _ _) :: (nat_lit 347, Obj.mk _ _ _ _) :: (nat_lit 349, Obj.mk _ _ _ _) :: (nat_lit 350, Obj.mk _ _ _ _) :: (nat_lit 351, Obj.mk _ _ _ _) :: (nat_lit 353, Obj.mk _ _ _ _) :: (nat_lit 354, Obj.mk _ _ _ _) :: (nat_lit 356, Obj.mk _ _ _ _) :: (nat_lit 357, Obj.mk _ _ _ _) :: (nat_lit 358, Obj.mk _ _ _ _) :: (nat_lit 359, Obj.mk _ _ _ _) :: (nat_lit 360, Obj.mk _ _ _ _) :: (nat_lit 361, Obj.mk _ _ _ _) :: (nat_lit 362, Obj.mk _ _ _ _) :: (nat_lit 365, Obj.mk _ _ _ _) :: (nat_lit 368, Obj.mk _ _ _ _) :: (nat_lit 369, Obj.mk _ _ _ _) :: (nat_lit 370, Obj.mk _ _ _ _) :: (nat_lit 372, Obj.mk _ _ _ _) :: (nat_lit 373, Obj.mk _ _ _ _) :: (nat_lit 375, Obj.mk _ _ _ _) :: (nat_lit 376, Obj.mk _ _ _ _) :: (nat_lit 377, Obj.mk _ _ _ _) :: (nat_lit 379, Obj.mk _ _ _ _) :: (nat_lit 380, Obj.mk _ _ _ _) :: (nat_lit 382, Obj.mk _ _ _ _) :: (nat_lit 383, Obj.mk _ _ _ _) :: (nat_lit 384, Obj.mk _ _ _ _) :: (nat_lit 387, Obj.mk _ _ _ _) :: (nat_lit 388, Obj.mk _ _ _ _) :: (nat_lit 389, Obj.mk _ _ _ _) :: (nat_lit 391, Obj.mk _ _ _ _) :: (nat_lit 392, Obj.mk _ _ _ _) :: (nat_lit 394, Obj.mk _ _ _ _) :: (nat_lit 395, Obj.mk _ _ _ _) :: (nat_lit 396, Obj.mk _ _ _ _) :: (nat_lit 398, Obj.mk _ _ _ _) :: (nat_lit 399, Obj.mk _ _ _ _) :: (nat_lit 401, Obj.mk _ _ _ _) :: (nat_lit 402, Obj.mk _ _ _ _) :: (nat_lit 403, Obj.mk _ _ _ _) :: (nat_lit 405, Obj.mk _ _ _ _) :: (nat_lit 406, Obj.mk _ _ _ _) :: (nat_lit 408, Obj.mk _ _ _ _) :: (nat_lit 409, Obj.mk _ _ _ _) :: (nat_lit 410, Obj.mk _ _ _ _) :: (nat_lit 412, Obj.mk _ _ _ _) :: (nat_lit 413, Obj.mk _ _ _ _) :: (nat_lit 415, Obj.mk _ _ _ _) :: (nat_lit 416, Obj.mk _ _ _ _) :: (nat_lit 417, Obj.mk _ _ _ _) :: (nat_lit 419, Obj.mk _ _ _ _) :: (nat_lit 420, Obj.mk _ _ _ _) :: (nat_lit 422, Obj.mk _ _ _ _) :: (nat_lit 423, Obj.mk _ _ _ _) :: (nat_lit 424, Obj.mk _ _ _ _) :: (nat_lit 427, Obj.mk _ _ _ _) :: (nat_lit 428, Obj.mk _ _ _ _) :: (nat_lit 429, Obj.mk _ _ _ _) :: (nat_lit 432, Obj.mk _ _ _ _) :: (nat_lit 433, Obj.mk _ _ _ _) :: (nat_lit 434, Obj.mk _ _ _ _) :: (nat_lit 437, Obj.mk _ _ _ _) :: (nat_lit 438, Obj.mk _ _ _ _) :: [] = _)
noncomputable def hd.view_39 : Program := by
  refine' (fun (x : List Stmt) (_ : atL bodyL 0 :: atL bodyL 2 :: atL bodyL 3 :: atL bodyL 4 :: atL bodyL 5 :: atL bodyL 7 :: atL bodyL 8 :: atL bodyL 9 :: atL bodyL 10 :: atL bodyL 11 :: atL bodyL 12 :: atL bodyL 13 :: atL bodyL 14 :: atL bodyL 15 :: atL bodyL 16 :: atL bodyL 17 :: atL bodyL 18 :: atL bodyL 19 :: atL bodyL 20 :: atL bodyL 21 :: atL bodyL 22 :: atL bodyL 23 :: atL bodyL 24 :: atL bodyL 25 :: atL bodyL 26 :: atL bodyL 27 :: atL bodyL 28 :: atL bodyL 30 :: atL bodyL 31 :: atL bodyL 32 :: atL bodyL 33 :: atL bodyL 34 :: atL bodyL 35 :: atL bodyL 36 :: atL bodyL 37 :: atL bodyL 38 :: atL bodyL 39 :: atL bodyL 40 :: atL bodyL 42 :: atL bodyL 44 :: atL bodyL 45 :: atL bodyL 46 :: atL bodyL 47 :: atL bodyL 48 :: atL bodyL 49 :: atL bodyL 50 :: atL bodyL 51 :: atL bodyL 52 :: atL bodyL 53 :: atL bodyL 54 :: atL bodyL 55 :: [] = x) => ({ pr with main := { pr.main with body := x } } : Program)) _ ?_
  rotate_left
  · exact (rfl : Stmt.FunctionDef _ _ _ _ _ _ _ _ _ _ :: Stmt.ClassDef _ _ _ _ _ _ _ _ _ _ _ :: Stmt.ClassDef _ _ _ _ _ _ _ _ _ _ _ :: Stmt.ClassDef _ _ _ _ _ _ _ _ _ _ _ :: Stmt.ClassDef _ _ _ _ _ _ _ _ _ _ _ :: Stmt.Assign _ _ _ :: Stmt.Assign _ _ _ :: Stmt.Assign _ _ _ :: Stmt.Assign _ _ _ :: Stmt.Assign _ _ _ :: Stmt.Assign _ _ _ :: Stmt.Assign _ _ _ :: Stmt.Assign _ _ _ :: Stmt.Assign _ _ _ :: Stmt.Assign _ _ _ :: Stmt.Assign _ _ _ :: Stmt.Assign _ _ _ :: Stmt.FunctionDef _ _ _ _ _ _ _ _ _ _ :: Stmt.FunctionDef _ _ _ _ _ _ _ _ _ _ :: Stmt.FunctionDef _ _ _ _ _ _ _ _ _ _ :: Stmt.FunctionDef _ _ _ _ _ _ _ _ _ _ :: Stmt.FunctionDef _ _ _ _ _ _ _ _ _ _ :: Stmt.FunctionDef _ _ _ _ _ _ _ _ _ _ :: Stmt.FunctionDef _ _ _ _ _ _ _ _ _ _ :: Stmt.FunctionDef _ _ _ _ _ _ _ _ _ _ :: Stmt.FunctionDef _ _ _ _ _ _ _ _ _ _ :: Stmt.FunctionDef _ _ _ _ _ _ _ _ _ _ :: Stmt.Assign _ _ _ :: Stmt.Assign _ _ _ :: Stmt.Assign _ _ _ :: Stmt.Assign _ _ _ :: Stmt.Assign _ _ _ :: Stmt.Assign _ _ _ :: Stmt.Assign _ _ _ :: Stmt.Assign _ _ _ :: Stmt.Assign _ _ _ :: Stmt.Assign _ _ _ :: Stmt.ClassDef _ _ _ _ _ _ _ _ _ _ _ :: Stmt.ClassDef _ _ _ _ _ _ _ _ _ _ _ :: Stmt.FunctionDef _ _ _ _ _ _ _ _ _ _ :: Stmt.FunctionDef _ _ _ _ _ _ _ _ _ _ :: Stmt.FunctionDef _ _ _ _ _ _ _ _ _ _ :: Stmt.FunctionDef _ _ _ _ _ _ _ _ _ _ :: Stmt.FunctionDef _ _ _ _ _ _ _ _ _ _ :: Stmt.FunctionDef _ _ _ _ _ _ _ _ _ _ :: Stmt.FunctionDef _ _ _ _ _ _ _ _ _ _ :: Stmt.FunctionDef _ _ _ _ _ _ _ _ _ _ :: Stmt.FunctionDef _ _ _ _ _ _ _ _ _ _ :: Stmt.FunctionDef _ _ _ _ _ _ _ _ _ _ :: Stmt.FunctionDef _ _ _ _ _ _ _ _ _ _ :: Stmt.FunctionDef _ _ _ _ _ _ _ _ _ _ :: [] = _)
noncomputable def hp0 (P : Params) : Heap := Heap.mk (Array.mk [boot_o_0 P, boot_o_1 P, boot_o_2 P, boot_o_3 P, boot_o_4 P, boot_o_5 P, boot_o_6 P, boot_o_7 P, boot_o_8 P, boot_o_9 P, boot_o_10 P, o43 P, o44 P, o45 P, o46 P]) (Life.mk [] [] [] 0 [] [] Bool.false #[] [] 0 Bool.false Bool.false Bool.false 0 [2000, 10, 10] Bool.false 0 Bool.true [] [] 0 Bool.false)
noncomputable def hp1 (P : Params) : Heap := Heap.mk (Array.mk [boot_o_0 P, boot_o_1 P, o47 P, o48 P, boot_o_4 P, boot_o_5 P, boot_o_6 P, boot_o_7 P, boot_o_8 P, boot_o_9 P, boot_o_10 P, o43 P, o49 P, o45 P, o46 P, o50 P, o51 P, o52 P, o53 P, o54 P, o55 P, o56 P, o57 P, o58 P, o59 P, o60 P, o61 P, o62 P, o63 P, o64 P, o65 P, o66 P, o67 P, o68 P, o69 P, o70 P, o71 P, o72 P, o73 P, o74 P, o75 P, o76 P, o77 P, o78 P, o79 P, o80 P, o81 P, o82 P, o83 P, o84 P, o85 P, o86 P, o87 P, o88 P, o89 P, o90 P, o91 P, o92 P, o93 P, o94 P, o95 P, o96 P, o97 P, o98 P, o99 P, o100 P, o101 P, o102 P, o103 P, o104 P, o105 P, o106 P, o107 P, o108 P, o109 P, o110 P, o111 P, o112 P, o113 P, o114 P, o115 P, o116 P, o117 P, o118 P, o119 P, o120 P, o121 P, o122 P, o123 P, o124 P, o125 P, o126 P, o127 P, o128 P, o129 P, o130 P, o131 P, o132 P, o133 P, o134 P, o135 P, o136 P, o137 P, o138 P, o139 P, o140 P, o141 P, o142 P, o143 P, o144 P, o145 P, o146 P, o147 P, o148 P, o149 P, o150 P, o151 P, o152 P, o153 P, o154 P, o155 P, o156 P, o157 P, o158 P, o159 P, o160 P, o161 P, o162 P, o163 P, o164 P, o165 P, o166 P, o167 P, o168 P, o169 P, o170 P, o171 P, o172 P, o173 P, o174 P, o175 P, o176 P, o177 P, o178 P, o179 P, o180 P, o181 P, o182 P, o183 P, o184 P, o185 P, o186 P, o187 P, o188 P, o189 P, o190 P, o191 P, o192 P, o193 P, o194 P, o195 P, o196 P, o197 P, o198 P, o199 P, o200 P, o201 P, o202 P, o203 P, o204 P, o205 P, o206 P, o207 P, o208 P, o209 P, o210 P, o211 P, o212 P, o213 P, o214 P, o215 P, o216 P, o217 P, o218 P, o219 P, o220 P, o221 P, o222 P, o223 P, o224 P, o225 P, o226 P, o227 P, o228 P, o229 P, o230 P, o231 P, o232 P, o233 P, o234 P, o235 P, o236 P, o237 P, o238 P, o239 P, o240 P, o241 P, o242 P, o243 P, o244 P, o245 P, o246 P, o247 P, o248 P, o249 P, o250 P, o251 P, o252 P, o253 P, o254 P, o255 P, o256 P, o257 P, o258 P, o259 P, o260 P, o261 P, o262 P, o263 P, o264 P, o265 P, o266 P, o267 P, o268 P, o269 P, o270 P, o271 P, o272 P, o273 P, o274 P, o275 P, o276 P, o277 P, o278 P, o279 P, o280 P, o281 P, o282 P, o283 P, o284 P, o285 P, o286 P, o287 P, o288 P, o289 P, o290 P, o291 P, o292 P, o293 P, o294 P, o295 P, o296 P, o297 P, o298 P, o299 P, o300 P, o301 P, o302 P, o303 P, o304 P, o305 P, o306 P, o307 P, o308 P, o309 P, o310 P, o311 P, o312 P, o313 P, o314 P, o315 P, o316 P, o317 P, o318 P, o319 P, o320 P, o321 P, o322 P, o323 P, o324 P, o325 P, o326 P, o327 P, o328 P, o329 P, o330 P, o331 P, o332 P, o333 P, o334 P, o335 P, o336 P, o337 P, o338 P, o339 P, o340 P, o341 P, o342 P, o343 P, o344 P, o345 P, o346 P, o347 P, o348 P, o349 P, o350 P, o351 P, o352 P, o353 P, o354 P, o355 P, o356 P, o357 P, o358 P, o359 P, o360 P, o361 P, o362 P, o363 P, o364 P, o365 P, o366 P, o367 P, o368 P, o369 P, o370 P, o371 P, o372 P, o373 P, o374 P, o375 P, o376 P, o377 P, o378 P, o379 P, o380 P, o381 P, o382 P, o383 P, o384 P, o385 P, o386 P, o387 P, o388 P, o389 P, o390 P, o391 P, o392 P, o393 P, o394 P, o395 P, o396 P, o397 P, o398 P, o399 P, o400 P, o401 P, o402 P, o403 P, o404 P, o405 P, o406 P, o407 P, o408 P, o409 P, o410 P, o411 P, o412 P, o413 P, o414 P, o415 P, o416 P, o417 P, o418 P, o419 P, o420 P, o421 P, o422 P, o423 P, o424 P, o425 P, o426 P, o427 P, o428 P, o429 P, o430 P, o431 P, o432 P, o433 P, o434 P, o435 P, o436 P, o437 P, o438 P, o439 P, o440 P, o441 P, o442 P, o443 P, o444 P, o445 P, o446 P, o447 P, o448 P, o449 P, o450 P, o451 P, o452 P, o453 P, o454 P, o455 P, o456 P, o457 P, o458 P, o459 P, o460 P, o461 P, o462 P, o463 P, o464 P, o465 P, o466 P, o467 P, o468 P, o469 P, o470 P, o471 P, o472 P, o473 P]) (Life.mk [] [] [] 0 [] [] Bool.false #[] [] 0 Bool.false Bool.false Bool.false 0 [2000, 10, 10] Bool.false 0 Bool.true [] [] 0 Bool.false)
noncomputable def treeOf (f : Nat → Obj) (n : Nat) : Nat → Nat → Nat → BT
  | 0, _, _ => BT.nil
  | d + 1, a, b => if b < n then BT.node (f b) (treeOf f n d (2 * a) (a + b)) (treeOf f n d (2 * a) (2 * a + b)) else BT.nil
noncomputable def tr0 (P : Params) : BT := (BT.node (boot_o_0 P) (BT.node (boot_o_1 P) (BT.node (boot_o_3 P) (BT.node (boot_o_7 P) BT.nil BT.nil) (BT.node (o43 P) BT.nil BT.nil)) (BT.node (boot_o_5 P) (BT.node (boot_o_9 P) BT.nil BT.nil) (BT.node (o45 P) BT.nil BT.nil))) (BT.node (boot_o_2 P) (BT.node (boot_o_4 P) (BT.node (boot_o_8 P) BT.nil BT.nil) (BT.node (o44 P) BT.nil BT.nil)) (BT.node (boot_o_6 P) (BT.node (boot_o_10 P) BT.nil BT.nil) (BT.node (o46 P) BT.nil BT.nil))))
noncomputable def tr1 (P : Params) : BT := (BT.node (boot_o_0 P) (BT.node (boot_o_1 P) (BT.node (o48 P) (BT.node (boot_o_7 P) (BT.node (o50 P) (BT.node (o66 P) (BT.node (o98 P) (BT.node (o162 P) (BT.node (o290 P) BT.nil BT.nil) (BT.node (o418 P) BT.nil BT.nil)) (BT.node (o226 P) (BT.node (o354 P) BT.nil BT.nil) BT.nil)) (BT.node (o130 P) (BT.node (o194 P) (BT.node (o322 P) BT.nil BT.nil) (BT.node (o450 P) BT.nil BT.nil)) (BT.node (o258 P) (BT.node (o386 P) BT.nil BT.nil) BT.nil))) (BT.node (o82 P) (BT.node (o114 P) (BT.node (o178 P) (BT.node (o306 P) BT.nil BT.nil) (BT.node (o434 P) BT.nil BT.nil)) (BT.node (o242 P) (BT.node (o370 P) BT.nil BT.nil) BT.nil)) (BT.node (o146 P) (BT.node (o210 P) (BT.node (o338 P) BT.nil BT.nil) (BT.node (o466 P) BT.nil BT.nil)) (BT.node (o274 P) (BT.node (o402 P) BT.nil BT.nil) BT.nil)))) (BT.node (o58 P) (BT.node (o74 P) (BT.node (o106 P) (BT.node (o170 P) (BT.node (o298 P) BT.nil BT.nil) (BT.node (o426 P) BT.nil BT.nil)) (BT.node (o234 P) (BT.node (o362 P) BT.nil BT.nil) BT.nil)) (BT.node (o138 P) (BT.node (o202 P) (BT.node (o330 P) BT.nil BT.nil) (BT.node (o458 P) BT.nil BT.nil)) (BT.node (o266 P) (BT.node (o394 P) BT.nil BT.nil) BT.nil))) (BT.node (o90 P) (BT.node (o122 P) (BT.node (o186 P) (BT.node (o314 P) BT.nil BT.nil) (BT.node (o442 P) BT.nil BT.nil)) (BT.node (o250 P) (BT.node (o378 P) BT.nil BT.nil) BT.nil)) (BT.node (o154 P) (BT.node (o218 P) (BT.node (o346 P) BT.nil BT.nil) BT.nil) (BT.node (o282 P) (BT.node (o410 P) BT.nil BT.nil) BT.nil))))) (BT.node (o43 P) (BT.node (o54 P) (BT.node (o70 P) (BT.node (o102 P) (BT.node (o166 P) (BT.node (o294 P) BT.nil BT.nil) (BT.node (o422 P) BT.nil BT.nil)) (BT.node (o230 P) (BT.node (o358 P) BT.nil BT.nil) BT.nil)) (BT.node (o134 P) (BT.node (o198 P) (BT.node (o326 P) BT.nil BT.nil) (BT.node (o454 P) BT.nil BT.nil)) (BT.node (o262 P) (BT.node (o390 P) BT.nil BT.nil) BT.nil))) (BT.node (o86 P) (BT.node (o118 P) (BT.node (o182 P) (BT.node (o310 P) BT.nil BT.nil) (BT.node (o438 P) BT.nil BT.nil)) (BT.node (o246 P) (BT.node (o374 P) BT.nil BT.nil) BT.nil)) (BT.node (o150 P) (BT.node (o214 P) (BT.node (o342 P) BT.nil BT.nil) (BT.node (o470 P) BT.nil BT.nil)) (BT.node (o278 P) (BT.node (o406 P) BT.nil BT.nil) BT.nil)))) (BT.node (o62 P) (BT.node (o78 P) (BT.node (o110 P) (BT.node (o174 P) (BT.node (o302 P) BT.nil BT.nil) (BT.node (o430 P) BT.nil BT.nil)) (BT.node (o238 P) (BT.node (o366 P) BT.nil BT.nil) BT.nil)) (BT.node (o142 P) (BT.node (o206 P) (BT.node (o334 P) BT.nil BT.nil) (BT.node (o462 P) BT.nil BT.nil)) (BT.node (o270 P) (BT.node (o398 P) BT.nil BT.nil) BT.nil))) (BT.node (o94 P) (BT.node (o126 P) (BT.node (o190 P) (BT.node (o318 P) BT.nil BT.nil) (BT.node (o446 P) BT.nil BT.nil)) (BT.node (o254 P) (BT.node (o382 P) BT.nil BT.nil) BT.nil)) (BT.node (o158 P) (BT.node (o222 P) (BT.node (o350 P) BT.nil BT.nil) BT.nil) (BT.node (o286 P) (BT.node (o414 P) BT.nil BT.nil) BT.nil)))))) (BT.node (boot_o_5 P) (BT.node (boot_o_9 P) (BT.node (o52 P) (BT.node (o68 P) (BT.node (o100 P) (BT.node (o164 P) (BT.node (o292 P) BT.nil BT.nil) (BT.node (o420 P) BT.nil BT.nil)) (BT.node (o228 P) (BT.node (o356 P) BT.nil BT.nil) BT.nil)) (BT.node (o132 P) (BT.node (o196 P) (BT.node (o324 P) BT.nil BT.nil) (BT.node (o452 P) BT.nil BT.nil)) (BT.node (o260 P) (BT.node (o388 P) BT.nil BT.nil) BT.nil))) (BT.node (o84 P) (BT.node (o116 P) (BT.node (o180 P) (BT.node (o308 P) BT.nil BT.nil) (BT.node (o436 P) BT.nil BT.nil)) (BT.node (o244 P) (BT.node (o372 P) BT.nil BT.nil) BT.nil)) (BT.node (o148 P) (BT.node (o212 P) (BT.node (o340 P) BT.nil BT.nil) (BT.node (o468 P) BT.nil BT.nil)) (BT.node (o276 P) (BT.node (o404 P) BT.nil BT.nil) BT.nil)))) (BT.node (o60 P) (BT.node (o76 P) (BT.node (o108 P) (BT.node (o172 P) (BT.node (o300 P) BT.nil BT.nil) (BT.node (o428 P) BT.nil BT.nil)) (BT.node (o236 P) (BT.node (o364 P) BT.nil BT.nil) BT.nil)) (BT.node (o140 P) (BT.node (o204 P) (BT.node (o332 P) BT.nil BT.nil) (BT.node (o460 P) BT.nil BT.nil)) (BT.node (o268 P) (BT.node (o396 P) BT.nil BT.nil) BT.nil))) (BT.node (o92 P) (BT.node (o124 P) (BT.node (o188 P) (BT.node (o316 P) BT.nil BT.nil) (BT.node (o444 P) BT.nil BT.nil)) (BT.node (o252 P) (BT.node (o380 P) BT.nil BT.nil) BT.nil)) (BT.node (o156 P) (BT.node (o220 P) (BT.node (o348 P) BT.nil BT.nil) BT.nil) (BT.node (o284 P) (BT.node (o412 P) BT.nil BT.nil) BT.nil))))) (BT.node (o45 P) (BT.node (o56 P) (BT.node (o72 P) (BT.node (o104 P) (BT.node (o168 P) (BT.node (o296 P) BT.nil BT.nil) (BT.node (o424 P) BT.nil BT.nil)) (BT.node (o232 P) (BT.node (o360 P) BT.nil BT.nil) BT.nil)) (BT.node (o136 P) (BT.node (o200 P) (BT.node (o328 P) BT.nil BT.nil) (BT.node (o456 P) BT.nil BT.nil)) (BT.node (o264 P) (BT.node (o392 P) BT.nil BT.nil) BT.nil))) (BT.node (o88 P) (BT.node (o120 P) (BT.node (o184 P) (BT.node (o312 P) BT.nil BT.nil) (BT.node (o440 P) BT.nil BT.nil)) (BT.node (o248 P) (BT.node (o376 P) BT.nil BT.nil) BT.nil)) (BT.node (o152 P) (BT.node (o216 P) (BT.node (o344 P) BT.nil BT.nil) (BT.node (o472 P) BT.nil BT.nil)) (BT.node (o280 P) (BT.node (o408 P) BT.nil BT.nil) BT.nil)))) (BT.node (o64 P) (BT.node (o80 P) (BT.node (o112 P) (BT.node (o176 P) (BT.node (o304 P) BT.nil BT.nil) (BT.node (o432 P) BT.nil BT.nil)) (BT.node (o240 P) (BT.node (o368 P) BT.nil BT.nil) BT.nil)) (BT.node (o144 P) (BT.node (o208 P) (BT.node (o336 P) BT.nil BT.nil) (BT.node (o464 P) BT.nil BT.nil)) (BT.node (o272 P) (BT.node (o400 P) BT.nil BT.nil) BT.nil))) (BT.node (o96 P) (BT.node (o128 P) (BT.node (o192 P) (BT.node (o320 P) BT.nil BT.nil) (BT.node (o448 P) BT.nil BT.nil)) (BT.node (o256 P) (BT.node (o384 P) BT.nil BT.nil) BT.nil)) (BT.node (o160 P) (BT.node (o224 P) (BT.node (o352 P) BT.nil BT.nil) BT.nil) (BT.node (o288 P) (BT.node (o416 P) BT.nil BT.nil) BT.nil))))))) (BT.node (o47 P) (BT.node (boot_o_4 P) (BT.node (boot_o_8 P) (BT.node (o51 P) (BT.node (o67 P) (BT.node (o99 P) (BT.node (o163 P) (BT.node (o291 P) BT.nil BT.nil) (BT.node (o419 P) BT.nil BT.nil)) (BT.node (o227 P) (BT.node (o355 P) BT.nil BT.nil) BT.nil)) (BT.node (o131 P) (BT.node (o195 P) (BT.node (o323 P) BT.nil BT.nil) (BT.node (o451 P) BT.nil BT.nil)) (BT.node (o259 P) (BT.node (o387 P) BT.nil BT.nil) BT.nil))) (BT.node (o83 P) (BT.node (o115 P) (BT.node (o179 P) (BT.node (o307 P) BT.nil BT.nil) (BT.node (o435 P) BT.nil BT.nil)) (BT.node (o243 P) (BT.node (o371 P) BT.nil BT.nil) BT.nil)) (BT.node (o147 P) (BT.node (o211 P) (BT.node (o339 P) BT.nil BT.nil) (BT.node (o467 P) BT.nil BT.nil)) (BT.node (o275 P) (BT.node (o403 P) BT.nil BT.nil) BT.nil)))) (BT.node (o59 P) (BT.node (o75 P) (BT.node (o107 P) (BT.node (o171 P) (BT.node (o299 P) BT.nil BT.nil) (BT.node (o427 P) BT.nil BT.nil)) (BT.node (o235 P) (BT.node (o363 P) BT.nil BT.nil) BT.nil)) (BT.node (o139 P) (BT.node (o203 P) (BT.node (o331 P) BT.nil BT.nil) (BT.node (o459 P) BT.nil BT.nil)) (BT.node (o267 P) (BT.node (o395 P) BT.nil BT.nil) BT.nil))) (BT.node (o91 P) (BT.node (o123 P) (BT.node (o187 P) (BT.node (o315 P) BT.nil BT.nil) (BT.node (o443 P) BT.nil BT.nil)) (BT.node (o251 P) (BT.node (o379 P) BT.nil BT.nil) BT.nil)) (BT.node (o155 P) (BT.node (o219 P) (BT.node (o347 P) BT.nil BT.nil) BT.nil) (BT.node (o283 P) (BT.node (o411 P) BT.nil BT.nil) BT.nil))))) (BT.node (o49 P) (BT.node (o55 P) (BT.node (o71 P) (BT.node (o103 P) (BT.node (o167 P) (BT.node (o295 P) BT.nil BT.nil) (BT.node (o423 P) BT.nil BT.nil)) (BT.node (o231 P) (BT.node (o359 P) BT.nil BT.nil) BT.nil)) (BT.node (o135 P) (BT.node (o199 P) (BT.node (o327 P) BT.nil BT.nil) (BT.node (o455 P) BT.nil BT.nil)) (BT.node (o263 P) (BT.node (o391 P) BT.nil BT.nil) BT.nil))) (BT.node (o87 P) (BT.node (o119 P) (BT.node (o183 P) (BT.node (o311 P) BT.nil BT.nil) (BT.node (o439 P) BT.nil BT.nil)) (BT.node (o247 P) (BT.node (o375 P) BT.nil BT.nil) BT.nil)) (BT.node (o151 P) (BT.node (o215 P) (BT.node (o343 P) BT.nil BT.nil) (BT.node (o471 P) BT.nil BT.nil)) (BT.node (o279 P) (BT.node (o407 P) BT.nil BT.nil) BT.nil)))) (BT.node (o63 P) (BT.node (o79 P) (BT.node (o111 P) (BT.node (o175 P) (BT.node (o303 P) BT.nil BT.nil) (BT.node (o431 P) BT.nil BT.nil)) (BT.node (o239 P) (BT.node (o367 P) BT.nil BT.nil) BT.nil)) (BT.node (o143 P) (BT.node (o207 P) (BT.node (o335 P) BT.nil BT.nil) (BT.node (o463 P) BT.nil BT.nil)) (BT.node (o271 P) (BT.node (o399 P) BT.nil BT.nil) BT.nil))) (BT.node (o95 P) (BT.node (o127 P) (BT.node (o191 P) (BT.node (o319 P) BT.nil BT.nil) (BT.node (o447 P) BT.nil BT.nil)) (BT.node (o255 P) (BT.node (o383 P) BT.nil BT.nil) BT.nil)) (BT.node (o159 P) (BT.node (o223 P) (BT.node (o351 P) BT.nil BT.nil) BT.nil) (BT.node (o287 P) (BT.node (o415 P) BT.nil BT.nil) BT.nil)))))) (BT.node (boot_o_6 P) (BT.node (boot_o_10 P) (BT.node (o53 P) (BT.node (o69 P) (BT.node (o101 P) (BT.node (o165 P) (BT.node (o293 P) BT.nil BT.nil) (BT.node (o421 P) BT.nil BT.nil)) (BT.node (o229 P) (BT.node (o357 P) BT.nil BT.nil) BT.nil)) (BT.node (o133 P) (BT.node (o197 P) (BT.node (o325 P) BT.nil BT.nil) (BT.node (o453 P) BT.nil BT.nil)) (BT.node (o261 P) (BT.node (o389 P) BT.nil BT.nil) BT.nil))) (BT.node (o85 P) (BT.node (o117 P) (BT.node (o181 P) (BT.node (o309 P) BT.nil BT.nil) (BT.node (o437 P) BT.nil BT.nil)) (BT.node (o245 P) (BT.node (o373 P) BT.nil BT.nil) BT.nil)) (BT.node (o149 P) (BT.node (o213 P) (BT.node (o341 P) BT.nil BT.nil) (BT.node (o469 P) BT.nil BT.nil)) (BT.node (o277 P) (BT.node (o405 P) BT.nil BT.nil) BT.nil)))) (BT.node (o61 P) (BT.node (o77 P) (BT.node (o109 P) (BT.node (o173 P) (BT.node (o301 P) BT.nil BT.nil) (BT.node (o429 P) BT.nil BT.nil)) (BT.node (o237 P) (BT.node (o365 P) BT.nil BT.nil) BT.nil)) (BT.node (o141 P) (BT.node (o205 P) (BT.node (o333 P) BT.nil BT.nil) (BT.node (o461 P) BT.nil BT.nil)) (BT.node (o269 P) (BT.node (o397 P) BT.nil BT.nil) BT.nil))) (BT.node (o93 P) (BT.node (o125 P) (BT.node (o189 P) (BT.node (o317 P) BT.nil BT.nil) (BT.node (o445 P) BT.nil BT.nil)) (BT.node (o253 P) (BT.node (o381 P) BT.nil BT.nil) BT.nil)) (BT.node (o157 P) (BT.node (o221 P) (BT.node (o349 P) BT.nil BT.nil) BT.nil) (BT.node (o285 P) (BT.node (o413 P) BT.nil BT.nil) BT.nil))))) (BT.node (o46 P) (BT.node (o57 P) (BT.node (o73 P) (BT.node (o105 P) (BT.node (o169 P) (BT.node (o297 P) BT.nil BT.nil) (BT.node (o425 P) BT.nil BT.nil)) (BT.node (o233 P) (BT.node (o361 P) BT.nil BT.nil) BT.nil)) (BT.node (o137 P) (BT.node (o201 P) (BT.node (o329 P) BT.nil BT.nil) (BT.node (o457 P) BT.nil BT.nil)) (BT.node (o265 P) (BT.node (o393 P) BT.nil BT.nil) BT.nil))) (BT.node (o89 P) (BT.node (o121 P) (BT.node (o185 P) (BT.node (o313 P) BT.nil BT.nil) (BT.node (o441 P) BT.nil BT.nil)) (BT.node (o249 P) (BT.node (o377 P) BT.nil BT.nil) BT.nil)) (BT.node (o153 P) (BT.node (o217 P) (BT.node (o345 P) BT.nil BT.nil) (BT.node (o473 P) BT.nil BT.nil)) (BT.node (o281 P) (BT.node (o409 P) BT.nil BT.nil) BT.nil)))) (BT.node (o65 P) (BT.node (o81 P) (BT.node (o113 P) (BT.node (o177 P) (BT.node (o305 P) BT.nil BT.nil) (BT.node (o433 P) BT.nil BT.nil)) (BT.node (o241 P) (BT.node (o369 P) BT.nil BT.nil) BT.nil)) (BT.node (o145 P) (BT.node (o209 P) (BT.node (o337 P) BT.nil BT.nil) (BT.node (o465 P) BT.nil BT.nil)) (BT.node (o273 P) (BT.node (o401 P) BT.nil BT.nil) BT.nil))) (BT.node (o97 P) (BT.node (o129 P) (BT.node (o193 P) (BT.node (o321 P) BT.nil BT.nil) (BT.node (o449 P) BT.nil BT.nil)) (BT.node (o257 P) (BT.node (o385 P) BT.nil BT.nil) BT.nil)) (BT.node (o161 P) (BT.node (o225 P) (BT.node (o353 P) BT.nil BT.nil) BT.nil) (BT.node (o289 P) (BT.node (o417 P) BT.nil BT.nil) BT.nil))))))))
noncomputable def env0 : Env := Env.mk (Module.scope (Program.main pr)) mainNs mainNs [] Str.empty none (Value.ref 13) (some (14 : Addr)) (0 : Addr)
noncomputable def code0 : Code := Code.body (behindTheImports pr) env0
noncomputable def dr0 : Drawn := ⟨0, 0, 0, 0⟩
noncomputable def life0 : Life := (Life.mk [] [] [] 0 [] [] Bool.false #[] [] 0 Bool.false Bool.false Bool.false 0 [2000, 10, 10] Bool.false 0 Bool.true [] [] 0 Bool.false)
noncomputable def posE : Pos := ⟨268, 0, 307, 15⟩
noncomputable def sh0 (w : World) (os : OsState) : SharedT := ⟨tr0 w.params, 15, life0, Array.mk [], dr0, 187, os⟩
noncomputable def sh1 (w : World) (os : OsState) : SharedT := ⟨tr1 w.params, 439, life0, Array.mk [], dr0, 802, os⟩
noncomputable def pruneT (n : Nat) : BT → Nat → Nat → BT
  | .nil, _, _ => .nil
  | .node v l r, a, b => match Nat.blt b n with
    | true => .node v (pruneT n l (2 * a) (a + b)) (pruneT n r (2 * a) (2 * a + b))
    | false => .nil
noncomputable def dcutD (k : Nat) (nm : Str) (tk : Nat) : Data → Data
  | .dict es _ => .dict (Array.mk (match es.toList with | e :: r => ⟨e.hash, e.key, .str nm tk⟩ :: r.take k | [] => [])) (k + 1)
  | .fields vs => .fields (Array.mk (vs.toList.take k))
  | d => d
noncomputable def dcut (k : Nat) (nm : Str) (tk : Nat) (o : Obj) : Obj := ⟨o.cls, o.dict, dcutD k nm tk o.data, o.slots⟩
noncomputable def cutS (n k m : Nat) (nm : Str) (tk tks : Nat) (w : World) (os : OsState) : SharedT :=
  ⟨((pruneT n (tr1 w.params) 1 0).set 3 (dcut k nm tk)).set 12 (dcut m nm tk), n, life0, Array.mk [], dr0, tks, os⟩
noncomputable def sgA : List Stmt := (behindTheImports pr).take 6
noncomputable def sgB : List Stmt := ((behindTheImports pr).drop 6).take 34
noncomputable def sgC : List Stmt := (((behindTheImports pr).drop 6).drop 34).take 2
noncomputable def sgD : List Stmt := ((((behindTheImports pr).drop 6).drop 34).drop 2).take 2
noncomputable def sgE : List Stmt := ((((behindTheImports pr).drop 6).drop 34).drop 2).drop 2
noncomputable def posA : Pos := ⟨23, 0, 26, 24⟩
noncomputable def posB : Pos := ⟨70, 0, 70, 10⟩
noncomputable def posC : Pos := ⟨133, 0, 133, 8⟩
noncomputable def posD : Pos := ⟨186, 0, 186, 8⟩
noncomputable abbrev seg (w : World) (n : Nat) (s : SharedT) (t : Thread) := PySem.W.Fast.tw10110043849684766642 treeTable pr w 11 (some (Value.ref 6)) 1 n s t
theorem segT {tb : String → Option Builtin} {p : Program} {w : World} {n₀ : Nat} {ann : Option Value} {b n : Nat} {s s' : SharedT} {t : Thread} {f : Flow} {c : Code} {q : Pos}
    (h : PySem.W.Fast.tw10110043849684766642 tb p w n₀ ann b n s t = some (f, s', c, q)) : segRun tb p w n₀ ann b n s.abs t = some (f, s'.abs, c, q) :=
  segRun_of (by rw [PySem.W.Fast.te10110043849684766642]; exact h)
theorem cut_all (L : List Stmt) (a b c d : Nat) : L.take a ++ ((L.drop a).take b ++ (((L.drop a).drop b).take c ++ ((((L.drop a).drop b).drop c).take d ++ ((((L.drop a).drop b).drop c).drop d ++ [])))) = L := by
  rw [List.append_nil, List.take_append_drop, List.take_append_drop, List.take_append_drop, List.take_append_drop]
theorem sg_all : sgA ++ (sgB ++ (sgC ++ (sgD ++ (sgE ++ [])))) = behindTheImports pr := cut_all _ 6 34 2 2
theorem run_pre (w : World) : (fun os => topGo treeTable pr w 11 (some (Value.ref 6)) 12 ⟨boot_heap w.params, Array.mk [], boot_drawn, boot_toks, os⟩ (topStub pr)) = fun os => some (⟨hp0 w.params, Array.mk [], dr0, 187, os⟩, ⟨denote treeTable code0, code0, pos0, [topFrame pos0]⟩) := by kernel_rfl
theorem run_block (w : World) : (fun os => segRun treeTable pr w 11 (some (Value.ref 6)) 1 1 ⟨hp0 w.params, Array.mk [], dr0, 187, os⟩ (blockOf (behindTheImports pr) env0 code0 pos0 [topFrame pos0])) = fun os => some (Flow.next, (sh0 w os).abs, code0, pos0) := by kernel_rfl
theorem run_a (w : World) : (fun os => seg w 993 (sh0 w os) (piecesOf sgA env0 code0 pos0 [topFrame pos0])) = fun os => some (Flow.next, cutS 100 13 15 "scheme.errors" 194 312 w os, code0, posA) := by kernel_rfl
theorem run_b (w : World) : (fun os => seg w 613 (cutS 100 13 15 "scheme.errors" 194 312 w os) (piecesOf sgB env0 code0 posA [topFrame pos0])) = fun os => some (Flow.next, cutS 183 45 45 "scheme.smalllib" 417 462 w os, code0, posB) := by kernel_rfl
theorem run_c (w : World) : (fun os => seg w 501 (cutS 183 45 45 "scheme.smalllib" 417 462 w os) (piecesOf sgC env0 code0 posB [topFrame pos0])) = fun os => some (Flow.next, cutS 260 46 48 "scheme.heap" 568 570 w os, code0, posC) := by kernel_rfl
theorem run_d (w : World) : (fun os => seg w 625 (cutS 260 46 48 "scheme.heap" 568 570 w os) (piecesOf sgD env0 code0 posC [topFrame pos0])) = fun os => some (Flow.next, cutS 365 47 51 "law_on0295_01" 704 706 w os, code0, posD) := by kernel_rfl
theorem run_e (w : World) : (fun os => seg w 351 (cutS 365 47 51 "law_on0295_01" 704 706 w os) (piecesOf sgE env0 code0 posD [topFrame pos0])) = fun os => some (Flow.next, sh1 w os, code0, posE) := by kernel_rfl
theorem run_fin (w : World) : (fun os => topRun treeTable pr w 11 (some (Value.ref 6)) 2 (sh1 w os).abs (restOf [] env0 code0 posE [topFrame pos0])) = fun os => some ⟨hp1 w.params, Array.mk [], dr0, 802, os⟩ := by kernel_rfl
theorem run_top (w : World) (os : OsState) : topRun treeTable pr w 11 (some (Value.ref 6)) (12 + (1 + (993 + (613 + (501 + (625 + (351 + 2))))))) ⟨boot_heap w.params, Array.mk [], boot_drawn, boot_toks, os⟩ (topStub pr) = some ⟨hp1 w.params, Array.mk [], dr0, 802, os⟩ :=
  go_top (congrFun (run_pre w) os) (piece_block (congrFun (run_block w) os) (sg_all ▸ piece_app (segT (congrFun (run_a w) os)) (piece_app (segT (congrFun (run_b w) os)) (piece_app (segT (congrFun (run_c w) os)) (piece_app (segT (congrFun (run_d w) os)) (piece_app (segT (congrFun (run_e w) os)) (congrFun (run_fin w) os)))))))
theorem run_size (w : World) : ((boot_heap w.params).isNs mainGlobals && (Array.mk [] : Array GenState).size == 0, (boot_heap w.params).objs.size, (boot_heap w.params).nsMap mainGlobals "__annotations__") = (true, 11, some (Value.ref 6)) := by kernel_rfl
noncomputable def loose0 : List Str := ["FALSE", "TRUE", "EMPTY_LIST", "UNSPECIFIED_WORD"]
noncomputable abbrev hook0 : Hook := kHook hd.heap_39 [nat_lit 2, nat_lit 3, nat_lit 15, nat_lit 17, nat_lit 18, nat_lit 20, nat_lit 21, nat_lit 22, nat_lit 29, nat_lit 31, nat_lit 32, nat_lit 34, nat_lit 35, nat_lit 36, nat_lit 37, nat_lit 38, nat_lit 39, nat_lit 42, nat_lit 49, nat_lit 51, nat_lit 52, nat_lit 54, nat_lit 55, nat_lit 56, nat_lit 57, nat_lit 58, nat_lit 61, nat_lit 68, nat_lit 70, nat_lit 71, nat_lit 73, nat_lit 74, nat_lit 75, nat_lit 76, nat_lit 77, nat_lit 80, nat_lit 87, nat_lit 89, nat_lit 90, nat_lit 92, nat_lit 93, nat_lit 94, nat_lit 95, nat_lit 96, nat_lit 97, nat_lit 100, nat_lit 102, nat_lit 103, nat_lit 105, nat_lit 106, nat_lit 107, nat_lit 109, nat_lit 110, nat_lit 112, nat_lit 113, nat_lit 114, nat_lit 116, nat_lit 117, nat_lit 119, nat_lit 120, nat_lit 121, nat_lit 123, nat_lit 124, nat_lit 126, nat_lit 127, nat_lit 128, nat_lit 130, nat_lit 131, nat_lit 133, nat_lit 134, nat_lit 135, nat_lit 137, nat_lit 138, nat_lit 140, nat_lit 141, nat_lit 142, nat_lit 144, nat_lit 145, nat_lit 147, nat_lit 148, nat_lit 149, nat_lit 151, nat_lit 152, nat_lit 154, nat_lit 155, nat_lit 156, nat_lit 158, nat_lit 159, nat_lit 161, nat_lit 162, nat_lit 163, nat_lit 165, nat_lit 166, nat_lit 168, nat_lit 169, nat_lit 170, nat_lit 171, nat_lit 172, nat_lit 173, nat_lit 174, nat_lit 175, nat_lit 176, nat_lit 177, nat_lit 178, nat_lit 179, nat_lit 180, nat_lit 181, nat_lit 182, nat_lit 190, nat_lit 192, nat_lit 193, nat_lit 195, nat_lit 196, nat_lit 197, nat_lit 199, nat_lit 200, nat_lit 202, nat_lit 203, nat_lit 204, nat_lit 206, nat_lit 207, nat_lit 209, nat_lit 210, nat_lit 211, nat_lit 213, nat_lit 214, nat_lit 216, nat_lit 217, nat_lit 218, nat_lit 220, nat_lit 221, nat_lit 223, nat_lit 224, nat_lit 225, nat_lit 227, nat_lit 228, nat_lit 230, nat_lit 231, nat_lit 232, nat_lit 234, nat_lit 235, nat_lit 237, nat_lit 238, nat_lit 239, nat_lit 241, nat_lit 242, nat_lit 244, nat_lit 245, nat_lit 246, nat_lit 248, nat_lit 249, nat_lit 251, nat_lit 252, nat_lit 253, nat_lit 254, nat_lit 255, nat_lit 256, nat_lit 257, nat_lit 267, nat_lit 269, nat_lit 270, nat_lit 272, nat_lit 273, nat_lit 274, nat_lit 276, nat_lit 277, nat_lit 279, nat_lit 280, nat_lit 281, nat_lit 283, nat_lit 284, nat_lit 286, nat_lit 287, nat_lit 288, nat_lit 290, nat_lit 291, nat_lit 293, nat_lit 294, nat_lit 295, nat_lit 297, nat_lit 298, nat_lit 300, nat_lit 301, nat_lit 302, nat_lit 304, nat_lit 305, nat_lit 307, nat_lit 308, nat_lit 309, nat_lit 311, nat_lit 312, nat_lit 314, nat_lit 315, nat_lit 316, nat_lit 318, nat_lit 319, nat_lit 321, nat_lit 322, nat_lit 323, nat_lit 325, nat_lit 326, nat_lit 328, nat_lit 329, nat_lit 330, nat_lit 332, nat_lit 333, nat_lit 335, nat_lit 336, nat_lit 337, nat_lit 339, nat_lit 340, nat_lit 342, nat_lit 343, nat_lit 344, nat_lit 346, nat_lit 347, nat_lit 349, nat_lit 350, nat_lit 351, nat_lit 353, nat_lit 354, nat_lit 356, nat_lit 357, nat_lit 358, nat_lit 359, nat_lit 360, nat_lit 361, nat_lit 362, nat_lit 365, nat_lit 368, nat_lit 369, nat_lit 370, nat_lit 372, nat_lit 373, nat_lit 375, nat_lit 376, nat_lit 377, nat_lit 379, nat_lit 380, nat_lit 382, nat_lit 383, nat_lit 384, nat_lit 387, nat_lit 388, nat_lit 389, nat_lit 391, nat_lit 392, nat_lit 394, nat_lit 395, nat_lit 396, nat_lit 398, nat_lit 399, nat_lit 401, nat_lit 402, nat_lit 403, nat_lit 405, nat_lit 406, nat_lit 408, nat_lit 409, nat_lit 410, nat_lit 412, nat_lit 413, nat_lit 415, nat_lit 416, nat_lit 417, nat_lit 419, nat_lit 420, nat_lit 422, nat_lit 423, nat_lit 424, nat_lit 427, nat_lit 428, nat_lit 429, nat_lit 432, nat_lit 433, nat_lit 434, nat_lit 437, nat_lit 438] (fun _ => by kernel_rfl)
noncomputable abbrev lo0 : List Str := ["FALSE", "TRUE", "EMPTY_LIST", "UNSPECIFIED_WORD"]
noncomputable abbrev S1 (w : World) (os : OsState) : Shared := ⟨hp1 w.params, Array.mk [], dr0, 802, os⟩
noncomputable abbrev Xt0 : Shared → Bool := fun s => xlAt hd.view_39 [("FALSE", WData.int 4), ("TRUE", WData.int 12), ("EMPTY_LIST", WData.int 20), ("UNSPECIFIED_WORD", WData.int 28)] s && recOk (RowW.records (OpenRow.toRowW (OpenLaw.row PySem.Challenge.rw_on0295_01))) s
theorem lk1 (w : World) : staticsOk (importedModules pr.main.body) (boot_heap w.params) (hp1 w.params) = true := by kernel_rfl
theorem lk2 (w : World) : namesBound pr (hp1 w.params) = true := by kernel_rfl
theorem lk3 (w : World) : (fun os => gensDone (S1 w os)) = fun _ => true := by kernel_rfl
theorem lk4 (w : World) : laidKept (boot_heap w.params) (hp1 w.params) = true := by kernel_rfl
theorem mk1 (w : World) : (fun os => seen ((recsOf hd.view_39).map (·.name)) (ownsOf hd.view_39) [] { (S1 w os) with gens := #[] }) = fun _ => expectedOf hd.view_39 := by kernel_rfl
theorem mk2 (w : World) : (fun os => (S1 w os).heap.bltView) = fun _ => bltViewBooted := by kernel_rfl
theorem mk31 (w : World) : (fun os => (S1 w os).heap.keysOk (looseW hd.view_39 lo0) ((recsOf hd.view_39).map (·.name)) ((litsOf hd.view_39).map (·.1)) ((clssOf hd.view_39 (looseW hd.view_39 lo0)).map (·.name))) = fun _ => true := by kernel_rfl
theorem mk32 (w : World) : (fun os => (S1 w os).heap.accountedOkI (importedModules pr.main.body)) = fun _ => true := by kernel_rfl
theorem mk33 (w : World) : (fun os => (S1 w os).heap.isNs mainGlobals) = fun _ => true := by kernel_rfl
theorem mk34 (w : World) : (fun os => (S1 w os).heap.isNs builtinsNs) = fun _ => true := by kernel_rfl
theorem mk35 (w : World) : (fun os => tablesOk hd.view_39 (S1 w os).heap) = fun _ => true := by kernel_rfl
theorem mk36 (w : World) : (fun os => Xt0 (S1 w os)) = fun _ => true := by kernel_rfl
theorem mk37 (w : World) : (fun os => (if (true : Bool) then (S1 w os).gens.size == 0 else !leftWithCleanup (S1 w os).gens)) = fun _ => true := by kernel_rfl
theorem mk4 (w : World) : (fun os => tabsOk hd.view_39 (S1 w os)) = fun _ => true := by kernel_rfl
theorem mk5 (w : World) : (fun os => pinSeenD hd.view_39 (drecsOf hd.view_39) (S1 w os)) = fun _ => pinGoodD (drecsOf hd.view_39) := by kernel_rfl
theorem mk6 (w : World) : (fun os => plainSeenE hd.view_39 (looseW hd.view_39 lo0) (S1 w os)) = fun _ => plainGoodE hd.view_39 (looseW hd.view_39 lo0) := by kernel_rfl
theorem mk7 (w : World) : (fun os => plainSeenD hd.view_39 lo0 (S1 w os)) = fun _ => plainGoodD hd.view_39 lo0 := by kernel_rfl
theorem mk8 (w : World) : (fun os => wideSeen hd.view_39 (S1 w os)) = fun _ => wideGood hd.view_39 := by kernel_rfl
theorem mk9 (w : World) : (fun os => clsSeenW hd.view_39 lo0 (S1 w os)) = fun _ => clsGoodW hd.view_39 lo0 := by kernel_rfl
theorem mky (w : World) : (fun os => Hook.obs hook0 (S1 w os)) = fun _ => Hook.val hook0 w := by kernel_rfl
theorem tup9 {A B C D E F G H I : Type} {a a' : A} {b b' : B} {c c' : C} {d d' : D} {e e' : E} {f f' : F} {g g' : G} {h h' : H} {i i' : I} (ha : a = a') (hb : b = b') (hc : c = c') (hd : d = d') (he : e = e') (hf : f = f') (hg : g = g') (hh : h = h') (hi : i = i') :
    (a, b, c, d, e, f, g, h, i) = (a', b', c', d', e', f', g', h', i') := by subst ha hb hc hd he hf hg hh hi; rfl
theorem and4 {a b c d : Bool} (ha : a = true) (hb : b = true) (hc : c = true) (hd : d = true) : (a && b && c && d) = true := by rw [ha, hb, hc, hd]; rfl
theorem and7 {a b c d e f g : Bool} (ha : a = true) (hb : b = true) (hc : c = true) (hd : d = true) (he : e = true) (hf : f = true) (hg : g = true) : (a && b && c && d && e && f && g) = true := by rw [ha, hb, hc, hd, he, hf, hg]; rfl
theorem seen0 (w : World) (os : OsState) : openSeen hd.view_39 lo0 (importedModules pr.main.body) Xt0 true (S1 w os) = openGood hd.view_39 lo0 := by
  unfold openSeen openGood
  with_reducible exact tup9 (congrFun (mk1 w) os) (congrFun (mk2 w) os) (and7 (congrFun (mk31 w) os) (congrFun (mk32 w) os) (congrFun (mk33 w) os) (congrFun (mk34 w) os) (congrFun (mk35 w) os) (congrFun (mk36 w) os) (congrFun (mk37 w) os)) (congrFun (mk4 w) os) (congrFun (mk5 w) os) (congrFun (mk6 w) os) (congrFun (mk7 w) os) (congrFun (mk8 w) os) (congrFun (mk9 w) os)
theorem looks0 (w : World) : (fun os => ((staticsOk (importedModules pr.main.body) (boot_heap w.params) (hp1 w.params) && namesBound pr (hp1 w.params) && gensDone (S1 w os) && laidKept (boot_heap w.params) (hp1 w.params)),
        openSeen hd.view_39 lo0 (importedModules pr.main.body) Xt0 true (S1 w os), Hook.obs hook0 (S1 w os))) = fun _ => (true, openGood hd.view_39 lo0, Hook.val hook0 w) :=
  funext fun os => Prod.ext (and4 (lk1 w) (lk2 w) (congrFun (lk3 w) os) (lk4 w)) (Prod.ext (seen0 w os) (congrFun (mky w) os))
theorem left0 : LeftO pr hd.view_39 ["FALSE", "TRUE", "EMPTY_LIST", "UNSPECIFIED_WORD"] (fun s => xlAt hd.view_39 [("FALSE", WData.int 4), ("TRUE", WData.int 12), ("EMPTY_LIST", WData.int 20), ("UNSPECIFIED_WORD", WData.int 28)] s && recOk (RowW.records (OpenRow.toRowW (OpenLaw.row PySem.Challenge.rw_on0295_01))) s) (Hook.obs hook0) (Hook.val hook0) 6282 :=
  LeftO.of_pieces (boot_open (by kernel_rfl) (by decide) (fun s => by kernel_rfl)) run_size run_top (by decide) looks0
noncomputable abbrev prQ : Program := (Fast.tw2368527892694137696 PySem.Challenge.rw_on0295_01).toRowW.prog
theorem sayA : Fast.tw8377067652309620493 prQ = true := by kernel_rfl
theorem sayB : Fast.tw8326940854005059898 { strict := !R.allR (Fast.tw5923862056798008813 prQ.main.body) (Fast.tw3471404346716756564 Fast.tw17691160309236699985), foot := none, bare := R.filterR (Fast.tw13343964577679436407 prQ prQ.main.body) [⟨⟨[118, 97, 114, 115]⟩⟩, ⟨⟨[100, 105, 114]⟩⟩, ⟨⟨[108, 111, 99, 97, 108, 115]⟩⟩] } prQ.main.body = true := by kernel_rfl
theorem sayC : (Fast.tw17119622794617984870 prQ prQ.main.body fun _ n => Fast.tw17868728402115742887 n) = true := by kernel_rfl
set_option maxHeartbeats 16000000 in
theorem said0 : OpenLaw.wellSaid PySem.Challenge.rw_on0295_01 = true := by
  refine (congrFun PySem.W.Fast.te9446332074065402090 _).trans ?_
  delta PySem.W.Fast.tw9446332074065402090
  (repeat' (with_reducible refine look_both ?_ ?_))
  (delta PySem.W.Fast.tw17960256430627541270; with_reducible refine look_both (look_both ?_ ?_) ?_)
  (delta PySem.W.Fast.tw2436336058641802641; (repeat' (with_reducible refine look_both ?_ ?_)))
  (delta PySem.W.Fast.tw12908688711261696721; (repeat' (with_reducible refine look_both ?_ ?_)))
  all_goals (first | with_reducible exact sayA | with_reducible exact sayB | with_reducible exact sayC | kernel_rfl)
end Mine
set_option linter.unusedSimpArgs false
namespace Mine
example : (fun (_ : OpenLaw) (_ : Params → Frag) => True) PySem.Challenge.rw_on0295_01 hd.heap_39 := by k_fill; trivial
local macro_rules | `(tactic| walk_at $s:str) => `(tactic| k_extra $(Lean.quote ("L:" ++ s.getString)))
local macro_rules | `(tactic| k_mem) => `(tactic| k_extra "L:k_mem")
local macro_rules | `(tactic| k_all) => `(tactic| k_extra "L:k_all")
local macro_rules | `(tactic| k_ne) => `(tactic| k_extra "L:k_ne")
local macro_rules | `(tactic| ktr_room) => `(tactic| k_extra "L:room")
local macro_rules | `(tactic| ktr_units) => `(tactic| k_extra "L:units")
local macro_rules | `(tactic| k_qdec) => `(tactic| decide +kernel)
local macro_rules | `(tactic| k_room) => `(tactic| ktr_room)
local macro_rules | `(tactic| k_units) => `(tactic| ktr_units)
theorem ln_B1_1 : True := by
  k_with_none
  k_with "L:room" => (first | exact room1 hd1 rfl | exact room2 hd1 rfl | exact room3 hd1 rfl | exact room4 hd1 rfl | exact room9 hd1)
  k_with "L:units" => (first | exact unit1 hu1 rfl | exact unit2 hu1 rfl | exact unit3 hu1 rfl | exact unit4 hu1 rfl | exact unit9 hu1)
  k_with "L:k_ne" => (refine neN ?_; (try dsimp only); first | with_reducible assumption | exact Ne.symm (by with_reducible assumption) | exact Nat.ne_of_lt (by walk_at "m lt") | exact Nat.ne_of_gt (by walk_at "m lt"))
  k_with "L:m lt" => (first | with_reducible assumption | with_reducible exact And.left (by assumption) | with_reducible exact And.left (And.right (by assumption)) | with_reducible exact And.left (And.right (And.right (by assumption))) | with_reducible exact And.left (And.right (And.right (And.right (by assumption)))) | with_reducible exact And.left (And.right (And.right (And.right (And.right (by assumption))))) | with_reducible exact And.left (And.right (And.right (And.right (And.right (And.right (by assumption)))))) | with_reducible exact And.left (And.right (And.right (And.right (And.right (And.right (And.right (by assumption))))))) | with_reducible exact And.left (And.right (And.right (And.right (And.right (And.right (And.right (And.right (by assumption)))))))))
  k_with "L:m small" => (refine wpAny_call ?_; k_dflt ktr_enter; k_steps)
  k_with "L:m enter" => (refine wpAny_call ?_; k_dflt ktr_enter)
  trivial
/-- a walk is held here -/
def HoldP (p : Prop) : Prop := p
theorem hold_in {p : Prop} (h : HoldP p) : p := h
theorem hold_out {p : Prop} (h : p) : HoldP p := h
def HoldMark : Prop := True
theorem toNat_a0 (k : Nat) : ((k : Int) + 1 + 0).toNat = k + 1 := rfl
theorem toNat_a1 (k : Nat) : ((k : Int) + 1 + 1).toNat = k + 2 := rfl
theorem op_n (n : Nat) {op : Int} {P : Int → Prop} (h0 : 0 ≤ op) (h1 : op < n) (h : ∀ k : Fin n, P (k.val : Int)) : P op := by
  have e : ((op.toNat : Nat) : Int) = op := Int.toNat_of_nonneg h0
  rw [← e]
  exact h ⟨op.toNat, (Int.toNat_lt h0).mpr h1⟩
theorem op_lt3 {op : Int} (h0 : 0 ≤ op) (h : op < 3) : op = 0 ∨ op = 1 ∨ op = 2 := op_n 3 (P := fun op => op = 0 ∨ op = 1 ∨ op = 2) h0 h (by decide)
theorem op_lt5 {op : Int} (h0 : 0 ≤ op) (h : op < 5) : op = 0 ∨ op = 1 ∨ op = 2 ∨ op = 3 ∨ op = 4 := op_n 5 (P := fun op => op = 0 ∨ op = 1 ∨ op = 2 ∨ op = 3 ∨ op = 4) h0 h (by decide)
theorem op_ge5 {op : Int} (h5 : 5 ≤ op) (h : op < 12) (h9 : op ≠ 9) : op = 5 ∨ op = 6 ∨ op = 7 ∨ op = 8 ∨ op = 10 ∨ op = 11 :=
  op_n 12 (P := fun op => 5 ≤ op → op ≠ 9 → (op = 5 ∨ op = 6 ∨ op = 7 ∨ op = 8 ∨ op = 10 ∨ op = 11)) (Int.le_trans (by decide) h5) h (by decide) h5 h9
theorem op_ge3 {op : Int} (h0 : 0 ≤ op) (h : op < 12) (h3 : ¬ op < 3) (h3' : ¬ op = 3) (h4 : ¬ op = 4) (h9 : ¬ op = 9) : op = 5 ∨ op = 6 ∨ op = 7 ∨ op = 8 ∨ op = 10 ∨ op = 11 :=
  op_n 12 (P := fun op => ¬ op < 3 → ¬ op = 3 → ¬ op = 4 → ¬ op = 9 → (op = 5 ∨ op = 6 ∨ op = 7 ∨ op = 8 ∨ op = 10 ∨ op = 11)) h0 h (by decide) h3 h3' h4 h9
theorem room0 {a b : Nat} (e : Nat.blt a b = true) : a < b := Nat.le_of_ble_eq_true e
theorem lt_add2 {d n a b k : Nat} (h : d + n < k) (e : Nat.ble (a + b) n = true) : d + a + b < k := Nat.lt_of_le_of_lt (by rw [Nat.add_assoc]; exact Nat.add_le_add_left (Nat.le_of_ble_eq_true e) d) h
theorem lt_add3 {d n a b c k : Nat} (h : d + n < k) (e : Nat.ble (a + b + c) n = true) : d + a + b + c < k := by
  rw [Nat.add_assoc d a b]
  exact lt_add2 h e
theorem lt_add4 {d n a b c x k : Nat} (h : d + n < k) (e : Nat.ble (a + b + c + x) n = true) : d + a + b + c + x < k := by
  rw [Nat.add_assoc d a b]
  exact lt_add3 h e
theorem room1 {d n a : Nat} (h : d + n < recursionLimit) (e : Nat.ble a n = true) : d + a < recursionLimit := Nat.lt_of_le_of_lt (Nat.add_le_add_left (Nat.le_of_ble_eq_true e) d) h
theorem room2 {d n a b : Nat} (h : d + n < recursionLimit) (e : Nat.ble (a + b) n = true) : d + a + b < recursionLimit := lt_add2 h e
theorem room3 {d n a b c : Nat} (h : d + n < recursionLimit) (e : Nat.ble (a + b + c) n = true) : d + a + b + c < recursionLimit := lt_add3 h e
theorem room4 {d n a b c x : Nat} (h : d + n < recursionLimit) (e : Nat.ble (a + b + c + x) n = true) : d + a + b + c + x < recursionLimit := lt_add4 h e
theorem room9 {d n : Nat} (h : d + n < recursionLimit) : d < recursionLimit := Nat.lt_of_le_of_lt (Nat.le_add_right d n) h
theorem unit1 {d n a : Nat} (h : d + n < cLine) (e : Nat.ble a n = true) : d + a < cLine := Nat.lt_of_le_of_lt (Nat.add_le_add_left (Nat.le_of_ble_eq_true e) d) h
theorem unit2 {d n a b : Nat} (h : d + n < cLine) (e : Nat.ble (a + b) n = true) : d + a + b < cLine := lt_add2 h e
theorem unit3 {d n a b c : Nat} (h : d + n < cLine) (e : Nat.ble (a + b + c) n = true) : d + a + b + c < cLine := lt_add3 h e
theorem unit4 {d n a b c x : Nat} (h : d + n < cLine) (e : Nat.ble (a + b + c + x) n = true) : d + a + b + c + x < cLine := lt_add4 h e
theorem unit9 {d n : Nat} (h : d + n < cLine) : d < cLine := Nat.lt_of_le_of_lt (Nat.le_add_right d n) h
section
variable {w : World} {p : Program} {loose : List Str} {mean : ExcName → Option Value} {mg mb : Str → Option Value} {dp un : Nat} {gd : Option (List Code)} {cn : Str} {cs : Scope} {L a : Addr} {ccd : Value} {cl : List (Str × Addr)} {outer : List Env} {A₀ : Around} {base h₀ : Heap} {m : Str → Option Value} {news : List (Addr × Obj)} {s : Shared} {Q E : Value → Shared → Prop}
set_option maxHeartbeats 8000000 in
theorem payload_t {n : Int} {t : Tok} (B : Below A₀ base outer h₀) (F : Fr h₀ L s.heap m) (X : (hd.heap_39 w.params).In h₀) (N : News h₀ L s.heap news) (T : Top p loose mean mg mb h₀) (hk : cs.kind = .function) (hd1 : dp + 10 < recursionLimit) (hu1 : un + 100 < cLine)
    (hret : ∀ t' h' tk', Fr h₀ L h' m → News h₀ L h' news → Q (.int (n.fdiv 8) t') { s with heap := h', toks := tk' }) : wpAny (model PySem.Challenge.rw_on0295_01.row.prog w) (ktrTop dp un gd cn cs L a ccd cl outer) (call (.ref 106) [.int n t]) Q E s := by
  walk_at "m small"
  exact hret _ _ _ (by k_asm) (by k_asm)
set_option maxHeartbeats 8000000 in
theorem fix_t {n : Int} {t : Tok} (B : Below A₀ base outer h₀) (F : Fr h₀ L s.heap m) (X : (hd.heap_39 w.params).In h₀) (N : News h₀ L s.heap news) (T : Top p loose mean mg mb h₀) (hk : cs.kind = .function) (hd1 : dp + 10 < recursionLimit) (hu1 : un + 100 < cLine)
    (hret : ∀ t' h' tk', Fr h₀ L h' m → News h₀ L h' news → Q (.int (n * 8) t') { s with heap := h', toks := tk' }) : wpAny (model PySem.Challenge.rw_on0295_01.row.prog w) (ktrTop dp un gd cn cs L a ccd cl outer) (call (.ref 113) [.int n t]) Q E s := by
  walk_at "m small"
  rw [Int.add_zero]
  exact hret _ _ _ (by k_asm) (by k_asm)
set_option maxHeartbeats 8000000 in
theorem ref_t {n : Int} {t : Tok} (B : Below A₀ base outer h₀) (F : Fr h₀ L s.heap m) (X : (hd.heap_39 w.params).In h₀) (N : News h₀ L s.heap news) (T : Top p loose mean mg mb h₀) (hk : cs.kind = .function) (hd1 : dp + 10 < recursionLimit) (hu1 : un + 100 < cLine)
    (hret : ∀ t' h' tk', Fr h₀ L h' m → News h₀ L h' news → Q (.int (n * 8 + 1) t') { s with heap := h', toks := tk' }) : wpAny (model PySem.Challenge.rw_on0295_01.row.prog w) (ktrTop dp un gd cn cs L a ccd cl outer) (call (.ref 120) [.int n t]) Q E s := by
  walk_at "m small"
  exact hret _ _ _ (by k_asm) (by k_asm)
set_option maxHeartbeats 8000000 in
theorem bool_word_t {b : Bool} (B : Below A₀ base outer h₀) (F : Fr h₀ L s.heap m) (X : (hd.heap_39 w.params).In h₀) (N : News h₀ L s.heap news) (T : Top p loose mean mg mb h₀) (hk : cs.kind = .function) (hd1 : dp + 10 < recursionLimit) (hu1 : un + 100 < cLine)
    (hret : ∀ t' h' tk', Fr h₀ L h' m → News h₀ L h' news → Q (.int (if b then 12 else 4) t') { s with heap := h', toks := tk' }) : wpAny (model PySem.Challenge.rw_on0295_01.row.prog w) (ktrTop dp un gd cn cs L a ccd cl outer) (call (.ref 127) [.bool b]) Q E s := by
  cases b <;> walk_at "m small"
  all_goals exact hret _ _ _ (by k_asm) (by k_asm)
set_option maxHeartbeats 8000000 in
theorem header_word_t {k n : Int} {t u : Tok} (B : Below A₀ base outer h₀) (F : Fr h₀ L s.heap m) (X : (hd.heap_39 w.params).In h₀) (N : News h₀ L s.heap news) (T : Top p loose mean mg mb h₀) (hk : cs.kind = .function) (hd1 : dp + 10 < recursionLimit) (hu1 : un + 100 < cLine)
    (hret : ∀ t' h' tk', Fr h₀ L h' m → News h₀ L h' news → Q (.int ((n * 16 + k) * 8 + 5) t') { s with heap := h', toks := tk' }) : wpAny (model PySem.Challenge.rw_on0295_01.row.prog w) (ktrTop dp un gd cn cs L a ccd cl outer) (call (.ref 134) [.int k t, .int n u]) Q E s := by
  walk_at "m small"
  exact hret _ _ _ (by k_asm) (by k_asm)
set_option maxHeartbeats 8000000 in
theorem is_fix_t {n : Int} {t : Tok} (B : Below A₀ base outer h₀) (F : Fr h₀ L s.heap m) (X : (hd.heap_39 w.params).In h₀) (N : News h₀ L s.heap news) (T : Top p loose mean mg mb h₀) (hk : cs.kind = .function) (hd1 : dp + 10 < recursionLimit) (hu1 : un + 100 < cLine)
    (hret : ∀ h' tk', Fr h₀ L h' m → News h₀ L h' news → Q (.bool (n.fmod 8 == 0)) { s with heap := h', toks := tk' }) : wpAny (model PySem.Challenge.rw_on0295_01.row.prog w) (ktrTop dp un gd cn cs L a ccd cl outer) (call (.ref 141) [.int n t]) Q E s := by
  walk_at "m small"
  exact hret _ _ (by k_asm) (by k_asm)
set_option maxHeartbeats 8000000 in
theorem is_ref_t {n : Int} {t : Tok} (B : Below A₀ base outer h₀) (F : Fr h₀ L s.heap m) (X : (hd.heap_39 w.params).In h₀) (N : News h₀ L s.heap news) (T : Top p loose mean mg mb h₀) (hk : cs.kind = .function) (hd1 : dp + 10 < recursionLimit) (hu1 : un + 100 < cLine)
    (hret : ∀ h' tk', Fr h₀ L h' m → News h₀ L h' news → Q (.bool (n.fmod 8 == 1)) { s with heap := h', toks := tk' }) : wpAny (model PySem.Challenge.rw_on0295_01.row.prog w) (ktrTop dp un gd cn cs L a ccd cl outer) (call (.ref 148) [.int n t]) Q E s := by
  walk_at "m small"
  exact hret _ _ (by k_asm) (by k_asm)
set_option maxHeartbeats 8000000 in
theorem is_header_t {n : Int} {t : Tok} (B : Below A₀ base outer h₀) (F : Fr h₀ L s.heap m) (X : (hd.heap_39 w.params).In h₀) (N : News h₀ L s.heap news) (T : Top p loose mean mg mb h₀) (hk : cs.kind = .function) (hd1 : dp + 10 < recursionLimit) (hu1 : un + 100 < cLine)
    (hret : ∀ h' tk', Fr h₀ L h' m → News h₀ L h' news → Q (.bool (n.fmod 8 == 5)) { s with heap := h', toks := tk' }) : wpAny (model PySem.Challenge.rw_on0295_01.row.prog w) (ktrTop dp un gd cn cs L a ccd cl outer) (call (.ref 155) [.int n t]) Q E s := by
  walk_at "m small"
  exact hret _ _ (by k_asm) (by k_asm)
set_option maxHeartbeats 8000000 in
theorem header_kind_t {n : Int} {t : Tok} (B : Below A₀ base outer h₀) (F : Fr h₀ L s.heap m) (X : (hd.heap_39 w.params).In h₀) (N : News h₀ L s.heap news) (T : Top p loose mean mg mb h₀) (hk : cs.kind = .function) (hd1 : dp + 10 < recursionLimit) (hu1 : un + 100 < cLine)
    (hret : ∀ t' h' tk', Fr h₀ L h' m → News h₀ L h' news → Q (.int ((n.fdiv 8).fmod 16) t') { s with heap := h', toks := tk' }) : wpAny (model PySem.Challenge.rw_on0295_01.row.prog w) (ktrTop dp un gd cn cs L a ccd cl outer) (call (.ref 162) [.int n t]) Q E s := by
  walk_at "m small"
  exact hret _ _ _ (by k_asm) (by k_asm)
set_option maxHeartbeats 8000000 in
theorem header_length_t {n : Int} {t : Tok} (B : Below A₀ base outer h₀) (F : Fr h₀ L s.heap m) (X : (hd.heap_39 w.params).In h₀) (N : News h₀ L s.heap news) (T : Top p loose mean mg mb h₀) (hk : cs.kind = .function) (hd1 : dp + 10 < recursionLimit) (hu1 : un + 100 < cLine)
    (hret : ∀ t' h' tk', Fr h₀ L h' m → News h₀ L h' news → Q (.int ((n.fdiv 8).fdiv 16) t') { s with heap := h', toks := tk' }) : wpAny (model PySem.Challenge.rw_on0295_01.row.prog w) (ktrTop dp un gd cn cs L a ccd cl outer) (call (.ref 169) [.int n t]) Q E s := by
  walk_at "m small"
  exact hret _ _ _ (by k_asm) (by k_asm)
end
section
variable {prog : Program} {w : World} {A : Around} {E : Value → Shared → Prop} {s : Shared} {h₀ : Heap} {L l D : Addr} {m : Str → Option Value} {news news' : List (Addr × Obj)}
theorem item_m {value slice : PySem.Expr} {us : List Value} {c : Nat} {k : Int} {u : Tok} {v : Value} {Q : Value → Shared → Prop}
    (N : News h₀ L s.heap news) (hm : (l, listOf us.toArray c) ∈ news) (h0 : 0 ≤ k) (hhi : k < 2 ^ 63) (hx : us[k.toNat]? = some v) (h : Q v s)
    (hs : subscripted slice false (.ref l) (.int k u) = operate [.ref l, .int k u] (getItem (.ref l) (.int k u)) := by with_unfolding_all rfl) :
    wpAny (model prog w) A (subscriptTail value slice (.ref l) (.int k u)) Q E s :=
  have hl : s.heap.IsList l us.toArray := ⟨_, (N _ hm).1, rfl, c, rfl⟩
  tail_any hl.typeIs PySem.F.slot_list_getitem.lookup (wpAny_getItem_list hl h0 hhi (by simpa using hx) h) hs
theorem set_m {us : List Value} {n : Nat} {k : Int} {t : Tok} {v : Value} {Q : Unit → Shared → Prop} (F : Fr h₀ L s.heap m) (N : News h₀ L s.heap news)
    (U : Upd D (listOf us.toArray n) (listOf (us.set k.toNat v).toArray n) news news') (h0 : 0 ≤ k) (h1 : k < us.length) (hfit : k < 2 ^ 63)
    (h : ∀ h', Fr h₀ L h' m → News h₀ L h' news' → Q () { s with heap := h' }) : wpAny (model prog w) A (setItem (.ref D) (.int k t) v) Q E s := by
  obtain ⟨pre, post, rfl, rfl, a, b⟩ := U.split
  have z := N (D, listOf us.toArray n) (List.mem_append.mpr (.inr (.head _)))
  refine ki_setAt z.1 h0 hfit (by rw [List.size_toArray]; exact h1) (h _ (F.change (Heap.SameBut.update ..) z.2.1 z.2.2) (ki_turn _ N a b ?_ ?_))
  · show us.toArray.setIfInBounds k.toNat v = (us.set k.toNat v).toArray
    apply Array.toList_inj.mp
    simp
  · simp
theorem append_m {us : List Value} {n : Nat} {x : Value} {Q : Value → Shared → Prop} (F : Fr h₀ L s.heap m) (N : News h₀ L s.heap news)
    (U : Upd D (listOf us.toArray n) (listOf (us ++ [x]).toArray (n + 1)) news news') (hsz : us.length < 1000)
    (h : ∀ h', Fr h₀ L h' m → News h₀ L h' news' → Q .none { s with heap := h' }) : wpAny (model prog w) A (call (.builtin "list.append") [.ref D, x]) Q E s := by
  have e : us.toArray.push x = (us ++ [x]).toArray := List.push_toArray ..
  exact append_K F N (e ▸ U) h (by rw [List.size_toArray, sizeLine_eq]; omega)
theorem extend_m {us us2 : List Value} {b : Addr} {n n2 : Nat} {Q : Value → Shared → Prop} (F : Fr h₀ L s.heap m) (N : News h₀ L s.heap news) (hb : (b, listOf us2.toArray n2) ∈ news)
    (U : Upd D (listOf us.toArray n) (listOf (us ++ us2).toArray (n + 1)) news news') (hne : 0 < us2.length) (hsz : us.length + us2.length < 2000)
    (h : ∀ h', Fr h₀ L h' m → News h₀ L h' news' → Q .none { s with heap := h' }) : wpAny (model prog w) A (call (.builtin "list.extend") [.ref D, .ref b]) Q E s := by
  have hs := sizeLine_eq
  refine kl_extend (its := us.toArray) (its2 := us2.toArray) F N hb rfl (by simp; intro z; rw [z] at hne; exact absurd hne (Nat.lt_irrefl _)) U ?_ (by simp; omega) (by simp; omega) h
  unfold Builtin.List.listTooLong
  simp
  intro _
  omega
end
theorem news_front {h₀ h : Heap} {L d : Addr} {o : Obj} {news : List (Addr × Obj)} (N : News h₀ L h news) (hm : (d, o) ∈ news) :
    ∃ rest : List (Addr × Obj), News h₀ L h ((d, o) :: rest) ∧ (∀ q ∈ rest, q.1 ≠ d) ∧ (∀ q ∈ news, q.1 ≠ d → q ∈ rest) ∧ ∀ q ∈ rest, q ∈ news := by
  refine ⟨news.filter fun q => decide (q.1 ≠ d), fun q hq => ?_, fun q hq => ?_, fun q hq hn => ?_, fun q hq => ?_⟩
  · rcases List.mem_cons.mp hq with rfl | hq
    · exact N _ hm
    · exact N _ (List.mem_filter.mp hq).1
  · exact of_decide_eq_true (List.mem_filter.mp hq).2
  · exact List.mem_filter.mpr ⟨hq, decide_eq_true hn⟩
  · exact (List.mem_filter.mp hq).1
theorem news_cls {h₀ h : Heap} {L x y : Addr} {o o' : Obj} {news : List (Addr × Obj)} (N : News h₀ L h news) (hx : (x, o) ∈ news) (hy : (y, o') ∈ news) (hc : (o.cls == o'.cls) = false) : x ≠ y := by
  intro e
  have h1 := (N _ hx).1
  have h2 := (N _ hy).1
  dsimp only at h1 h2
  rw [e, h2] at h1
  cases h1
  rw [beq_self_eq_true] at hc
  cases hc
theorem ne_of_l1 {news : List (Addr × Obj)} {l d : Addr} {o : Obj} (l1 : ∀ q ∈ news, q.1 < l) (hm : (d, o) ∈ news) : l ≠ d := Nat.ne_of_gt (l1 _ hm)
theorem allLt_ne {news l : List (Addr × Obj)} {d : Addr} (h : ∀ q ∈ l, q.1 < d) (sub : ∀ q ∈ news, q ∈ l) : ∀ q ∈ news, q.1 ≠ d := fun q hq => Nat.ne_of_lt (h q (sub q hq))
theorem fdiv8_1 (n : Int) : (n * 8 + 1).fdiv 8 = n := by rw [Int.fdiv_eq_ediv_of_nonneg _ (by decide)]; omega
theorem fmod8_1 (n : Int) : (n * 8 + 1).fmod 8 = 1 := by rw [Int.fmod_eq_emod_of_nonneg _ (by decide)]; omega
theorem lt_of_get? {α : Type} {l : List α} {i : Nat} {a : α} (h : l[i]? = some a) : i < l.length := (List.getElem?_eq_some_iff.mp h).1
section
variable {w : World} {p : Program} {loose : List Str} {mean : ExcName → Option Value} {mg mb : Str → Option Value} {dp un : Nat} {gd : Option (List Code)} {cn : Str} {cs : Scope} {L a : Addr} {ccd : Value} {cl : List (Str × Addr)} {outer : List Env} {A₀ : Around} {base h₀ : Heap} {m : Str → Option Value} {news : List (Addr × Obj)} {s : Shared} {Q E : Value → Shared → Prop}
theorem payload_r {n : Int} {t : Tok} (B : Below A₀ base outer h₀) (F : Fr h₀ L s.heap m) (X : (hd.heap_39 w.params).In h₀) (N : News h₀ L s.heap news) (T : Top p loose mean mg mb h₀) (hk : cs.kind = .function) (hd1 : dp + 10 < recursionLimit) (hu1 : un + 100 < cLine)
    (hret : ∀ t' h' tk', Fr h₀ L h' m → News h₀ L h' news → Q (.int n t') { s with heap := h', toks := tk' }) : wpAny (model PySem.Challenge.rw_on0295_01.row.prog w) (ktrTop dp un gd cn cs L a ccd cl outer) (call (.ref 106) [.int (n * 8 + 1) t]) Q E s :=
  payload_t B F X N T hk hd1 hu1 (by rw [fdiv8_1]; exact hret)
theorem is_ref_r {n : Int} {t : Tok} (B : Below A₀ base outer h₀) (F : Fr h₀ L s.heap m) (X : (hd.heap_39 w.params).In h₀) (N : News h₀ L s.heap news) (T : Top p loose mean mg mb h₀) (hk : cs.kind = .function) (hd1 : dp + 10 < recursionLimit) (hu1 : un + 100 < cLine)
    (hret : ∀ h' tk', Fr h₀ L h' m → News h₀ L h' news → Q (.bool true) { s with heap := h', toks := tk' }) : wpAny (model PySem.Challenge.rw_on0295_01.row.prog w) (ktrTop dp un gd cn cs L a ccd cl outer) (call (.ref 148) [.int (n * 8 + 1) t]) Q E s :=
  is_ref_t B F X N T hk hd1 hu1 (by rw [fmod8_1]; exact hret)
theorem is_header_y {n : Int} {t : Tok} (B : Below A₀ base outer h₀) (F : Fr h₀ L s.heap m) (X : (hd.heap_39 w.params).In h₀) (N : News h₀ L s.heap news) (T : Top p loose mean mg mb h₀) (hk : cs.kind = .function) (hd1 : dp + 10 < recursionLimit) (hu1 : un + 100 < cLine) (h : n.fmod 8 = 5)
    (hret : ∀ h' tk', Fr h₀ L h' m → News h₀ L h' news → Q (.bool true) { s with heap := h', toks := tk' }) : wpAny (model PySem.Challenge.rw_on0295_01.row.prog w) (ktrTop dp un gd cn cs L a ccd cl outer) (call (.ref 155) [.int n t]) Q E s :=
  is_header_t B F X N T hk hd1 hu1 (by rw [h]; exact hret)
end
theorem ln_B2_1 : True := by
  k_with "L:m prem" => (first | assumption | exact rfl | omega | decide)
  k_with "L:call ref" => (k_here; (with_reducible show wpAny _ _ (call (Value.ref 106) _ _) _ _ _); k_dflt (refine' payload_t (by k_asm) (by k_asm) (by k_asm) (by k_asm) (by k_asm) (by first | exact rfl | assumption) (by ktr_room) (by ktr_units) ?_; k_whole); intro tz' hz' tkz' Fz' Nz'; (try dsimp only); (try k_sweep))
  k_with "L:call ref" => (k_here; (with_reducible show wpAny _ _ (call (Value.ref 113) _ _) _ _ _); k_dflt (refine' fix_t (by k_asm) (by k_asm) (by k_asm) (by k_asm) (by k_asm) (by first | exact rfl | assumption) (by ktr_room) (by ktr_units) ?_; k_whole); intro tz' hz' tkz' Fz' Nz'; (try dsimp only); (try k_sweep))
  k_with "L:call ref" => (k_here; (with_reducible show wpAny _ _ (call (Value.ref 120) _ _) _ _ _); k_dflt (refine' ref_t (by k_asm) (by k_asm) (by k_asm) (by k_asm) (by k_asm) (by first | exact rfl | assumption) (by ktr_room) (by ktr_units) ?_; k_whole); intro tz' hz' tkz' Fz' Nz'; (try dsimp only); (try k_sweep))
  k_with "L:call ref" => (k_here; (with_reducible show wpAny _ _ (call (Value.ref 127) _ _) _ _ _); k_dflt (refine' bool_word_t (by k_asm) (by k_asm) (by k_asm) (by k_asm) (by k_asm) (by first | exact rfl | assumption) (by ktr_room) (by ktr_units) ?_; k_whole); intro tz' hz' tkz' Fz' Nz'; (try dsimp only); (try k_sweep))
  k_with "L:call ref" => (k_here; (with_reducible show wpAny _ _ (call (Value.ref 134) _ _) _ _ _); k_dflt (refine' header_word_t (by k_asm) (by k_asm) (by k_asm) (by k_asm) (by k_asm) (by first | exact rfl | assumption) (by ktr_room) (by ktr_units) ?_; k_whole); intro tz' hz' tkz' Fz' Nz'; (try dsimp only); (try k_sweep))
  k_with "L:call ref" => (k_here; (with_reducible show wpAny _ _ (call (Value.ref 141) _ _) _ _ _); k_dflt (refine' is_fix_t (by k_asm) (by k_asm) (by k_asm) (by k_asm) (by k_asm) (by first | exact rfl | assumption) (by ktr_room) (by ktr_units) ?_; k_whole); intro hz' tkz' Fz' Nz'; (try dsimp only); (try k_sweep))
  k_with "L:call ref" => (k_here; (with_reducible show wpAny _ _ (call (Value.ref 148) _ _) _ _ _); k_dflt (refine' is_ref_t (by k_asm) (by k_asm) (by k_asm) (by k_asm) (by k_asm) (by first | exact rfl | assumption) (by ktr_room) (by ktr_units) ?_; k_whole); intro hz' tkz' Fz' Nz'; (try dsimp only); (try k_sweep))
  k_with "L:call ref" => (k_here; (with_reducible show wpAny _ _ (call (Value.ref 155) _ _) _ _ _); k_dflt (refine' is_header_t (by k_asm) (by k_asm) (by k_asm) (by k_asm) (by k_asm) (by first | exact rfl | assumption) (by ktr_room) (by ktr_units) ?_; k_whole); intro hz' tkz' Fz' Nz'; (try dsimp only); (try k_sweep))
  k_with "L:call ref" => (k_here; (with_reducible show wpAny _ _ (call (Value.ref 162) _ _) _ _ _); k_dflt (refine' header_kind_t (by k_asm) (by k_asm) (by k_asm) (by k_asm) (by k_asm) (by first | exact rfl | assumption) (by ktr_room) (by ktr_units) ?_; k_whole); intro tz' hz' tkz' Fz' Nz'; (try dsimp only); (try k_sweep))
  k_with "L:call ref" => (k_here; (with_reducible show wpAny _ _ (call (Value.ref 169) _ _) _ _ _); k_dflt (refine' header_length_t (by k_asm) (by k_asm) (by k_asm) (by k_asm) (by k_asm) (by first | exact rfl | assumption) (by ktr_room) (by ktr_units) ?_; k_whole); intro tz' hz' tkz' Fz' Nz'; (try dsimp only); (try k_sweep))
  k_with "L:m idx" => (first | decide | ((try simp only [List.length_append, List.length_cons, List.length_nil, List.length_set]); omega))
  k_with "L:m len" => ((try simp only [List.length_append, List.length_cons, List.length_nil, List.length_set]); omega)
  k_with "L:k_mem" => (assumption)
  k_with "L:k_all" => (first | assumption | (refine allLt_ne (by assumption) ?_; intro q hq; (repeat (refine List.Mem.tail _ ?_)); exact hq))
  k_with "L:newList" => (k_here; k_dflt (refine' newList_K (by k_asm) (by k_asm) ?_; k_whole); intro lz' hz' Fz' Nz' l1; (have l2 := l1); (try k_lt l2); (try k_sweep))
  k_with "L:call builtin:len" => (k_here; (with_reducible show wpAny _ _ (call (Value.builtin "len") [Value.ref _]) _ _ _); k_dflt (refine' kst_len (by k_asm) (by k_mem) (by exact rfl) (by walk_at "m len") ?_; k_whole))
  k_with "L:subscriptTail" => (k_here; (with_reducible show wpAny _ _ (subscriptTail _ _ (Value.ref _) (Value.int _ _)) _ _ _); k_dflt (refine' item_m (by k_asm) (by k_mem) (by walk_at "m idx") (by walk_at "m idx") (by first | assumption | exact rfl | exact (by assumption : 1 < _ → _ = some _) (by omega)) ?_ (by with_unfolding_all rfl); k_whole))
  k_with "L:setItem ref int" => (k_here; (with_reducible show wpAny _ _ (setItem (Value.ref _) (Value.int _ _) _) _ _ _); k_dflt (refine' set_m (by k_asm) (by k_asm) (by k_upd) (by omega) (by walk_at "m len") (by walk_at "m len") ?_; k_whole); intro hz' Fz' Nz'; (try k_sweep))
  k_with "L:call builtin:list.append" => (k_here; (with_reducible show wpAny _ _ (call (Value.builtin _) [Value.ref _, _]) _ _ _); k_dflt (refine' append_m (by k_asm) (by k_asm) (by k_upd) (by walk_at "m len") ?_; k_whole); intro hz' Fz' Nz'; (try k_sweep))
  k_with "L:call builtin:list.extend" => (k_here; (with_reducible show wpAny _ _ (call (Value.builtin _) [Value.ref _, Value.ref _]) _ _ _); k_dflt (refine' extend_m (by k_asm) (by k_asm) (by k_mem) (by k_upd) (by walk_at "m len") (by walk_at "m len") ?_; k_whole); intro hz' Fz' Nz'; (try k_sweep))
  k_with "L:call ref" => (k_here; (with_reducible show wpAny _ _ (call (Value.ref 106) _ _) _ _ _); k_dflt (refine' payload_r (by k_asm) (by k_asm) (by k_asm) (by k_asm) (by k_asm) (by first | exact rfl | assumption) (by ktr_room) (by ktr_units) ?_; k_whole); intro tz' hz' tkz' Fz' Nz'; (try dsimp only); (try k_sweep))
  k_with "L:call ref" => (k_here; (with_reducible show wpAny _ _ (call (Value.ref 148) _ _) _ _ _); k_dflt (refine' is_ref_r (by k_asm) (by k_asm) (by k_asm) (by k_asm) (by k_asm) (by first | exact rfl | assumption) (by ktr_room) (by ktr_units) ?_; k_whole); intro hz' tkz' Fz' Nz'; (try dsimp only); (try k_sweep))
  k_with "L:call ref" => (k_here; (with_reducible show wpAny _ _ (call (Value.ref 155) _ _) _ _ _); k_dflt (refine' is_header_y (by k_asm) (by k_asm) (by k_asm) (by k_asm) (by k_asm) (by first | exact rfl | assumption) (by ktr_room) (by ktr_units) (by walk_at "m prem") ?_; k_whole); intro hz' tkz' Fz' Nz'; (try dsimp only); (try k_sweep))
  trivial
section
variable {w : World} {p : Program} {loose : List Str} {mean : ExcName → Option Value} {mg mb : Str → Option Value} {dp un : Nat} {gd : Option (List Code)} {cn : Str} {cs : Scope} {L a : Addr} {ccd : Value} {cl : List (Str × Addr)} {outer : List Env} {A₀ : Around} {base h₀ : Heap} {m : Str → Option Value} {news : List (Addr × Obj)} {s : Shared} {Q E : Value → Shared → Prop}
variable {hx hdx HC : Addr} {k1 k2 : Int} {t1 t2 t3 : Tok} {dn cn' : Nat} {vs : List Value} {ad : Nat} {hdr : Int} {th : Tok}
set_option maxHeartbeats 8000000 in
theorem used_t (B : Below A₀ base outer h₀) (F : Fr h₀ L s.heap m) (X : (hd.heap_39 w.params).In h₀) (N : News h₀ L s.heap news) (T : Top p loose mean mg mb h₀) (hk : cs.kind = .function) (hd1 : dp + 20 < recursionLimit) (hu1 : un + 200 < cLine)
    (h1 : (hx, instObj 360 hdx) ∈ news) (h2 : (hdx, dictOf [⟨k1, .str "limit" t1, .int 1000 t2⟩, ⟨k2, .str "cells" t3, .ref HC⟩] dn) ∈ news) (h3 : (HC, listOf vs.toArray cn') ∈ news)
    (h5 : vs.length < 900)
    (hret : ∀ t' h' tk', Fr h₀ L h' m → News h₀ L h' news → Q (.int vs.length t') { s with heap := h', toks := tk' }) : wpAny (model PySem.Challenge.rw_on0295_01.row.prog w) (ktrTop dp un gd cn cs L a ccd cl outer) (call (.ref 280) [.ref hx]) Q E s := by
  walk_at "m small"
  exact hret _ _ _ (by k_asm) (by k_asm)
set_option maxHeartbeats 8000000 in
theorem header_at_t {t : Tok} (B : Below A₀ base outer h₀) (F : Fr h₀ L s.heap m) (X : (hd.heap_39 w.params).In h₀) (N : News h₀ L s.heap news) (T : Top p loose mean mg mb h₀) (hk : cs.kind = .function) (hd1 : dp + 20 < recursionLimit) (hu1 : un + 200 < cLine)
    (h1 : (hx, instObj 360 hdx) ∈ news) (h2 : (hdx, dictOf [⟨k1, .str "limit" t1, .int 1000 t2⟩, ⟨k2, .str "cells" t3, .ref HC⟩] dn) ∈ news) (h3 : (HC, listOf vs.toArray cn') ∈ news)
    (h5 : vs.length < 900) (h6 : vs[ad]? = some (.int hdr th)) (h7 : hdr.fmod 8 = 5)
    (hret : ∀ h' tk', Fr h₀ L h' m → News h₀ L h' news → Q (.int hdr th) { s with heap := h', toks := tk' }) : wpAny (model PySem.Challenge.rw_on0295_01.row.prog w) (ktrTop dp un gd cn cs L a ccd cl outer) (call (.ref 301) [.ref hx, .int ((ad : Int) * 8 + 1) t]) Q E s := by
  have h8 := lt_of_get? h6
  walk_at "m small"
  exact hret _ _ (by k_asm) (by k_asm)
end
theorem ln_B2_2 : True := by
  k_with "L:m prem" => (first | assumption | exact rfl | omega | decide)
  k_with "L:call ref" => (k_here; (with_reducible show wpAny _ _ (call (Value.ref 280) _ _) _ _ _); k_dflt (refine' used_t (by k_asm) (by k_asm) (by k_asm) (by k_asm) (by k_asm) (by first | exact rfl | assumption) (by ktr_room) (by ktr_units) (by walk_at "m prem") (by walk_at "m prem") (by walk_at "m prem") (by walk_at "m prem") ?_; k_whole); intro tz' hz' tkz' Fz' Nz'; (try dsimp only); (try k_sweep))
  k_with "L:call ref" => (k_here; (with_reducible show wpAny _ _ (call (Value.ref 301) _ _) _ _ _); k_dflt (refine' header_at_t (by k_asm) (by k_asm) (by k_asm) (by k_asm) (by k_asm) (by first | exact rfl | assumption) (by ktr_room) (by ktr_units) (by walk_at "m prem") (by walk_at "m prem") (by walk_at "m prem") (by walk_at "m prem") (by walk_at "m prem") (by walk_at "m prem") ?_; k_whole); intro hz' tkz' Fz' Nz'; (try dsimp only); (try k_sweep))
  trivial
section
variable {w : World} {p : Program} {loose : List Str} {mean : ExcName → Option Value} {mg mb : Str → Option Value} {dp un : Nat} {gd : Option (List Code)} {cn : Str} {cs : Scope} {L a : Addr} {ccd : Value} {cl : List (Str × Addr)} {outer : List Env} {A₀ : Around} {base h₀ : Heap} {m : Str → Option Value} {news : List (Addr × Obj)} {s : Shared} {Q E : Value → Shared → Prop}
variable {hx hdx HC : Addr} {k1 k2 : Int} {t1 t2 t3 : Tok} {dn cn' : Nat} {vs : List Value} {ad : Nat} {hdr : Int} {th : Tok}
set_option maxHeartbeats 8000000 in
theorem is_kind_n {n kd : Int} {t u : Tok} (B : Below A₀ base outer h₀) (F : Fr h₀ L s.heap m) (X : (hd.heap_39 w.params).In h₀) (N : News h₀ L s.heap news) (T : Top p loose mean mg mb h₀) (hk : cs.kind = .function) (hd1 : dp + 40 < recursionLimit) (hu1 : un + 300 < cLine) (h : n.fmod 8 ≠ 1)
    (h1 : (hx, instObj 360 hdx) ∈ news) (h2 : (hdx, dictOf [⟨k1, .str "limit" t1, .int 1000 t2⟩, ⟨k2, .str "cells" t3, .ref HC⟩] dn) ∈ news)
    (hret : ∀ h' tk', Fr h₀ L h' m → News h₀ L h' news → Q (.bool false) { s with heap := h', toks := tk' }) : wpAny (model PySem.Challenge.rw_on0295_01.row.prog w) (ktrTop dp un gd cn cs L a ccd cl outer) (call (.ref 322) [.ref hx, .int n t, .int kd u]) Q E s := by
  have h9 : (n.fmod 8 == 1) = false := by simpa using h
  walk_at "m small"
  rw [h9]
  exact hret _ _ (by k_asm) (by k_asm)
set_option maxHeartbeats 8000000 in
theorem is_kind_t {kd : Int} {t u : Tok} (B : Below A₀ base outer h₀) (F : Fr h₀ L s.heap m) (X : (hd.heap_39 w.params).In h₀) (N : News h₀ L s.heap news) (T : Top p loose mean mg mb h₀) (hk : cs.kind = .function) (hd1 : dp + 40 < recursionLimit) (hu1 : un + 300 < cLine)
    (h1 : (hx, instObj 360 hdx) ∈ news) (h2 : (hdx, dictOf [⟨k1, .str "limit" t1, .int 1000 t2⟩, ⟨k2, .str "cells" t3, .ref HC⟩] dn) ∈ news) (h3 : (HC, listOf vs.toArray cn') ∈ news)
    (h5 : vs.length < 900) (h6 : vs[ad]? = some (.int hdr th)) (h7 : hdr.fmod 8 = 5)
    (hret : ∀ h' tk', Fr h₀ L h' m → News h₀ L h' news → Q (.bool ((hdr.fdiv 8).fmod 16 == kd)) { s with heap := h', toks := tk' }) : wpAny (model PySem.Challenge.rw_on0295_01.row.prog w) (ktrTop dp un gd cn cs L a ccd cl outer) (call (.ref 322) [.ref hx, .int ((ad : Int) * 8 + 1) t, .int kd u]) Q E s := by
  walk_at "m small"
  exact hret _ _ (by k_asm) (by k_asm)
set_option maxHeartbeats 8000000 in
theorem place_of_t {at' : Int} {t u : Tok} (B : Below A₀ base outer h₀) (F : Fr h₀ L s.heap m) (X : (hd.heap_39 w.params).In h₀) (N : News h₀ L s.heap news) (T : Top p loose mean mg mb h₀) (hk : cs.kind = .function) (hd1 : dp + 40 < recursionLimit) (hu1 : un + 300 < cLine)
    (h1 : (hx, instObj 360 hdx) ∈ news) (h2 : (hdx, dictOf [⟨k1, .str "limit" t1, .int 1000 t2⟩, ⟨k2, .str "cells" t3, .ref HC⟩] dn) ∈ news) (h3 : (HC, listOf vs.toArray cn') ∈ news)
    (h5 : vs.length < 900) (h6 : vs[ad]? = some (.int hdr th)) (h7 : hdr.fmod 8 = 5) (h8 : 0 ≤ at') (h9 : at' < (hdr.fdiv 8).fdiv 16)
    (hret : ∀ t' h' tk', Fr h₀ L h' m → News h₀ L h' news → Q (.int (ad + 1 + at') t') { s with heap := h', toks := tk' }) : wpAny (model PySem.Challenge.rw_on0295_01.row.prog w) (ktrTop dp un gd cn cs L a ccd cl outer) (call (.ref 329) [.ref hx, .int ((ad : Int) * 8 + 1) t, .int at' u]) Q E s := by
  walk_at "m small"
  exact hret _ _ _ (by k_asm) (by k_asm)
end
theorem ln_B2_3 : True := by
  k_with "L:call ref" => (k_here; (with_reducible show wpAny _ _ (call (Value.ref 322) _ _) _ _ _); k_dflt (refine' is_kind_t (by k_asm) (by k_asm) (by k_asm) (by k_asm) (by k_asm) (by first | exact rfl | assumption) (by ktr_room) (by ktr_units) (by walk_at "m prem") (by walk_at "m prem") (by walk_at "m prem") (by walk_at "m prem") (by walk_at "m prem") (by walk_at "m prem") ?_; k_whole); intro hz' tkz' Fz' Nz'; (try dsimp only); (try k_sweep))
  k_with "L:call ref" => (k_here; (with_reducible show wpAny _ _ (call (Value.ref 322) _ _) _ _ _); k_dflt (refine' is_kind_n (by k_asm) (by k_asm) (by k_asm) (by k_asm) (by k_asm) (by first | exact rfl | assumption) (by ktr_room) (by ktr_units) (by walk_at "m prem") (by walk_at "m prem") (by walk_at "m prem") ?_; k_whole); intro hz' tkz' Fz' Nz'; (try dsimp only); (try k_sweep))
  k_with "L:call ref" => (k_here; (with_reducible show wpAny _ _ (call (Value.ref 329) _ _) _ _ _); k_dflt (refine' place_of_t (by k_asm) (by k_asm) (by k_asm) (by k_asm) (by k_asm) (by first | exact rfl | assumption) (by ktr_room) (by ktr_units) (by walk_at "m prem") (by walk_at "m prem") (by walk_at "m prem") (by walk_at "m prem") (by walk_at "m prem") (by walk_at "m prem") (by walk_at "m prem") (by walk_at "m prem") ?_; k_whole); intro tz' hz' tkz' Fz' Nz'; (try dsimp only); (try k_sweep))
  trivial
section
variable {w : World} {p : Program} {loose : List Str} {mean : ExcName → Option Value} {mg mb : Str → Option Value} {dp un : Nat} {gd : Option (List Code)} {cn : Str} {cs : Scope} {L a : Addr} {ccd : Value} {cl : List (Str × Addr)} {outer : List Env} {A₀ : Around} {base h₀ : Heap} {m : Str → Option Value} {news : List (Addr × Obj)} {s : Shared} {Q E : Value → Shared → Prop}
variable {hx hdx HC : Addr} {k1 k2 : Int} {t1 t2 t3 : Tok} {dn cn' : Nat} {vs : List Value} {ad : Nat} {hdr : Int} {th : Tok}
set_option maxHeartbeats 8000000 in
theorem field_t {at' : Int} {v : Value} {t u : Tok} (B : Below A₀ base outer h₀) (F : Fr h₀ L s.heap m) (X : (hd.heap_39 w.params).In h₀) (N : News h₀ L s.heap news) (T : Top p loose mean mg mb h₀) (hk : cs.kind = .function) (hd1 : dp + 60 < recursionLimit) (hu1 : un + 400 < cLine)
    (h1 : (hx, instObj 360 hdx) ∈ news) (h2 : (hdx, dictOf [⟨k1, .str "limit" t1, .int 1000 t2⟩, ⟨k2, .str "cells" t3, .ref HC⟩] dn) ∈ news) (h3 : (HC, listOf vs.toArray cn') ∈ news)
    (h5 : vs.length < 900) (h6 : vs[ad]? = some (.int hdr th)) (h7 : hdr.fmod 8 = 5) (h8 : 0 ≤ at') (h9 : at' < (hdr.fdiv 8).fdiv 16) (ha : (ad : Int) + 1 + at' < 900) (hv : vs[((ad : Int) + 1 + at').toNat]? = some v)
    (hret : ∀ h' tk', Fr h₀ L h' m → News h₀ L h' news → Q v { s with heap := h', toks := tk' }) : wpAny (model PySem.Challenge.rw_on0295_01.row.prog w) (ktrTop dp un gd cn cs L a ccd cl outer) (call (.ref 336) [.ref hx, .int ((ad : Int) * 8 + 1) t, .int at' u]) Q E s := by
  walk_at "m small"
  exact hret _ _ (by k_asm) (by k_asm)
set_option maxHeartbeats 8000000 in
theorem set_field_t {at' : Int} {v : Value} {t u : Tok} (B : Below A₀ base outer h₀) (F : Fr h₀ L s.heap m) (X : (hd.heap_39 w.params).In h₀) (N : News h₀ L s.heap news) (T : Top p loose mean mg mb h₀) (hk : cs.kind = .function) (hd1 : dp + 60 < recursionLimit) (hu1 : un + 400 < cLine)
    (h1 : (hx, instObj 360 hdx) ∈ news) (h2 : (hdx, dictOf [⟨k1, .str "limit" t1, .int 1000 t2⟩, ⟨k2, .str "cells" t3, .ref HC⟩] dn) ∈ news) (h3 : (HC, listOf vs.toArray cn') ∈ news)
    (h5 : vs.length < 900) (h6 : vs[ad]? = some (.int hdr th)) (h7 : hdr.fmod 8 = 5) (h8 : 0 ≤ at') (h9 : at' < (hdr.fdiv 8).fdiv 16) (ha : (ad : Int) + 1 + at' < vs.length)
    (hret : ∀ news' h' tk', Fr h₀ L h' m → News h₀ L h' news' → (HC, listOf (vs.set ((ad : Int) + 1 + at').toNat v).toArray cn') ∈ news' → (∀ q ∈ news, q.1 ≠ HC → q ∈ news') → Q .none { s with heap := h', toks := tk' }) :
    wpAny (model PySem.Challenge.rw_on0295_01.row.prog w) (ktrTop dp un gd cn cs L a ccd cl outer) (call (.ref 343) [.ref hx, .int ((ad : Int) * 8 + 1) t, .int at' u, v]) Q E s := by
  have n1 := news_cls N h1 h3 rfl
  have n2 := news_cls N h2 h3 rfl
  obtain ⟨rest, N2, hr, hs, hb⟩ := news_front N h3
  have e1 : _ ∈ (HC, listOf vs.toArray cn') :: rest := .tail _ (hs _ h1 n1)
  have e2 : _ ∈ (HC, listOf vs.toArray cn') :: rest := .tail _ (hs _ h2 n2)
  have e3 : (HC, listOf vs.toArray cn') ∈ (HC, listOf vs.toArray cn') :: rest := .head _
  clear N hb
  walk_at "m small"
  exact hret _ _ _ (by k_asm) (by k_asm) (List.mem_cons_self ..) (fun q hq hn => List.mem_cons_of_mem _ (hs q hq hn))
end
theorem ln_B3_1 : True := by
  k_with "L:m sub" => (intro q hq hn; first | assumption | (refine (by assumption : ∀ q ∈ _, q.1 ≠ _ → q ∈ _) q ?_ hn; k_mem))
  k_with "L:m prem" => (first | assumption | exact rfl | k_mem | omega | exact (by assumption : 1 < _ → _ = some _) (by omega) | exact ne_of_l1 (by assumption) (by assumption) | ((simp only [List.length_append, List.length_cons, List.length_nil, List.length_set]); omega) | decide)
  k_with "L:call ref" => (k_here; (with_reducible show wpAny _ _ (call (Value.ref 336) _ _) _ _ _); k_dflt (refine' field_t (by k_asm) (by k_asm) (by k_asm) (by k_asm) (by k_asm) (by first | exact rfl | assumption) (by ktr_room) (by ktr_units) (by walk_at "m prem") (by walk_at "m prem") (by walk_at "m prem") (by walk_at "m prem") (by walk_at "m prem") (by walk_at "m prem") (by walk_at "m prem") (by walk_at "m prem") (by walk_at "m prem") (by walk_at "m prem") ?_; k_whole); intro hz' tkz' Fz' Nz'; (try dsimp only); (try k_sweep))
  k_with "L:call ref" => (k_here; (with_reducible show wpAny _ _ (call (Value.ref 343) _ _) _ _ _); k_dflt (refine' set_field_t (by k_asm) (by k_asm) (by k_asm) (by k_asm) (by k_asm) (by first | exact rfl | assumption) (by ktr_room) (by ktr_units) (by walk_at "m prem") (by walk_at "m prem") (by walk_at "m prem") (by walk_at "m prem") (by walk_at "m prem") (by walk_at "m prem") (by walk_at "m prem") (by walk_at "m prem") (by walk_at "m prem") ?_; k_whole); intro nz' hz' tkz' Fz' Nz' hmz' hkz'; (try dsimp only); (try k_sweep))
  trivial
section
variable {w : World} {p : Program} {loose : List Str} {mean : ExcName → Option Value} {mg mb : Str → Option Value} {dp un : Nat} {gd : Option (List Code)} {cn : Str} {cs : Scope} {L a : Addr} {ccd : Value} {cl : List (Str × Addr)} {outer : List Env} {A₀ : Around} {base h₀ : Heap} {m : Str → Option Value} {news : List (Addr × Obj)} {s : Shared} {Q E : Value → Shared → Prop}
variable {hx hdx HC fl : Addr} {k1 k2 : Int} {t1 t2 t3 : Tok} {dn cn' fc : Nat} {vs fs : List Value}
set_option maxHeartbeats 8000000 in
theorem allocate_t {kd : Int} {u : Tok} (B : Below A₀ base outer h₀) (F : Fr h₀ L s.heap m) (X : (hd.heap_39 w.params).In h₀) (N : News h₀ L s.heap news) (T : Top p loose mean mg mb h₀) (hk : cs.kind = .function) (hd1 : dp + 60 < recursionLimit) (hu1 : un + 400 < cLine)
    (h1 : (hx, instObj 360 hdx) ∈ news) (h2 : (hdx, dictOf [⟨k1, .str "limit" t1, .int 1000 t2⟩, ⟨k2, .str "cells" t3, .ref HC⟩] dn) ∈ news) (h3 : (HC, listOf vs.toArray cn') ∈ news)
    (h4 : (fl, listOf fs.toArray fc) ∈ news) (hne : fl ≠ HC) (h5 : vs.length < 800) (h6 : 0 < fs.length) (h7 : fs.length < 10)
    (hret : ∀ th c' t' news' h' tk', Fr h₀ L h' m → News h₀ L h' news' → (HC, listOf (vs ++ [Value.int (((fs.length : Int) * 16 + kd) * 8 + 5) th] ++ fs).toArray c') ∈ news' → (∀ q ∈ news, q.1 ≠ HC → q ∈ news') → Q (.int ((vs.length : Int) * 8 + 1) t') { s with heap := h', toks := tk' }) :
    wpAny (model PySem.Challenge.rw_on0295_01.row.prog w) (ktrTop dp un gd cn cs L a ccd cl outer) (call (.ref 294) [.ref hx, .int kd u, .ref fl]) Q E s := by
  have n1 := news_cls N h1 h3 rfl
  have n2 := news_cls N h2 h3 rfl
  obtain ⟨rest, N2, hr, hs, hb⟩ := news_front N h3
  have e1 := hs _ h1 n1
  have e2 := hs _ h2 n2
  have e4 := hs _ h4 hne
  have e3 := hb
  clear N hb
  walk_at "m small"
  exact hret _ _ _ _ _ _ (by k_asm) (by k_asm) (List.mem_cons_self ..) (fun q hq hn => List.mem_cons_of_mem _ (hs q hq hn))
end
theorem ln_B3_2 : True := by
  k_with "L:call ref" => (k_here; (with_reducible show wpAny _ _ (call (Value.ref 294) _ _) _ _ _); k_dflt (refine' allocate_t (by k_asm) (by k_asm) (by k_asm) (by k_asm) (by k_asm) (by first | exact rfl | assumption) (by ktr_room) (by ktr_units) (by walk_at "m prem") (by walk_at "m prem") (by walk_at "m prem") (by walk_at "m prem") (by walk_at "m prem") (by walk_at "m prem") (by walk_at "m prem") (by walk_at "m prem") ?_; k_whole); intro thz' cz' tz' nz' hz' tkz' Fz' Nz' hmz' hkz'; (try dsimp only); (try k_sweep))
  trivial
section
variable {w : World} {p : Program} {loose : List Str} {mean : ExcName → Option Value} {mg mb : Str → Option Value} {dp un : Nat} {gd : Option (List Code)} {cn : Str} {cs : Scope} {L a : Addr} {ccd : Value} {cl : List (Str × Addr)} {outer : List Env} {A₀ : Around} {base h₀ : Heap} {m : Str → Option Value} {news : List (Addr × Obj)} {s : Shared} {Q E : Value → Shared → Prop}
variable {hx hdx HC : Addr} {k1 k2 : Int} {t1 t2 t3 : Tok} {dn cn' : Nat} {vs : List Value}
set_option maxHeartbeats 8000000 in
theorem cons_t {v1 v2 : Value} (B : Below A₀ base outer h₀) (F : Fr h₀ L s.heap m) (X : (hd.heap_39 w.params).In h₀) (N : News h₀ L s.heap news) (T : Top p loose mean mg mb h₀) (hk : cs.kind = .function) (hd1 : dp + 80 < recursionLimit) (hu1 : un + 500 < cLine)
    (h1 : (hx, instObj 360 hdx) ∈ news) (h2 : (hdx, dictOf [⟨k1, .str "limit" t1, .int 1000 t2⟩, ⟨k2, .str "cells" t3, .ref HC⟩] dn) ∈ news) (h3 : (HC, listOf vs.toArray cn') ∈ news) (h5 : vs.length < 800)
    (hret : ∀ th c' t' news' h' tk', Fr h₀ L h' m → News h₀ L h' news' → (HC, listOf (vs ++ [Value.int 261 th] ++ [v1, v2]).toArray c') ∈ news' → (∀ q ∈ news, q.1 ≠ HC → q ∈ news') → Q (.int ((vs.length : Int) * 8 + 1) t') { s with heap := h', toks := tk' }) :
    wpAny (model PySem.Challenge.rw_on0295_01.row.prog w) (ktrTop dp un gd cn cs L a ccd cl outer) (call (.ref 357) [.ref hx, v1, v2]) Q E s := by
  walk_at "m small"
  exact hret _ _ _ _ _ _ (by k_asm) (by k_asm) (by assumption) (by walk_at "m sub")
end
/-! the flight of an exception of the text's own, its dict kept in sight -/
abbrev exO (C D : Addr) (vs : Array Value) (sl : Array (Option Value)) : Obj := ⟨.ref C, some D, .fields vs, sl⟩
def Tr (h B : Heap) (e C D : Addr) (fl : Value) : Prop :=
  ∃ vs sl T oT ts, h.get? e = some (exO C D vs sl) ∧ vs[1]? = some (.ref T) ∧ B.get? T = none ∧ T ≠ e ∧ h.get? T = some oT ∧ oT.data = .fields ts ∧ ts[3]? = some fl
structure Fl (B : Heap) (l : List Env) (e C D : Addr) (fl : Value) (h : Heap) : Prop where
  st : B.StaysIn h
  nw : B.get? e = none
  fr : h.FunFrames B l
  tr : Tr h B e C D fl
theorem Fl.tail {B h : Heap} {env : Env} {l : List Env} {e C D : Addr} {fl : Value} (x : Fl B (env :: l) e C D fl h) : Fl B l e C D fl h := ⟨x.st, x.nw, x.fr.2.2, x.tr⟩
theorem Fl.at_ {B h : Heap} {l : List Env} {e C D : Addr} {fl : Value} (x : Fl B l e C D fl h) : ∃ vs sl, h.get? e = some (exO C D vs sl) := let ⟨vs, sl, _, _, _, he, _⟩ := x.tr; ⟨vs, sl, he⟩
section
variable {M : Model} {A : Around} {E : Value → Shared → Prop} {s : Shared} {B : Heap} {env : Env} {outer l : List Env} {L e C D : Addr} {vs : Array Value} {sl : Array (Option Value)} {Q : Unit → Shared → Prop}
theorem entry_d {head : Value} {hn : Bool} (hfr : A.frames = some (env :: outer)) (hf : env.frame = some L) (he : s.heap.get? e = some (exO C D vs sl)) (h1 : 1 < vs.size) (hB : B.StaysIn s.heap) (hnew : B.get? e = none) (hl : s.heap.FunFrames B (env :: outer))
    (hq : ∀ h', Fl B (env :: outer) e C D (rawInt L) h' → s.heap.UpToSlots h' → Q () { s with heap := h' }) :
    wpAny M A (do let a ← frameOf env; let pl ← entryPlaceOf L hn; let b ← EntryCells.newEntry head a .none (rawInt L) .none pl; setField (.ref e) 1 b) Q E s := by
  have notFrame : e ∉ (env :: outer).filterMap (·.frame) := fun hm => by
    obtain ⟨_, o, ho, hnf⟩ := hl.mem hm
    rw [he] at ho
    cases ho
    exact hnf vs rfl
  refine wpAny_bind (wpAny_frameOf_fun hfr hl hf fun g1 S => ?_)
  refine wpAny_bind (wpAny_entryPlaceOf fun pl hpl => ?_)
  unfold EntryCells.newEntry newFields
  refine wpAny_bind (wpAny_newObj_type ?_ (hpl.sizeOk5 _ _ _ _ _))
  have he1 : g1.get? e = some (exO C D vs sl) := (S.2.1 e notFrame).trans he
  have hB1 : ∀ b o, B.get? b = some o → g1.get? b = some o := fun b o q => (S.2.1 b fun hm => by rw [(hl.mem hm).1] at q; cases q).trans (hB b o q)
  generalize hT : ({ cls := .type "traceback", dict := none, data := .fields ([head, .ref L, .none, rawInt L, .none] ++ (if pl.isEmpty then List.replicate 6 Value.none else pl)).toArray } : Obj) = oT
  have hTd : oT.data = .fields ([head, .ref L, .none, rawInt L, .none] ++ (if pl.isEmpty then List.replicate 6 Value.none else pl)).toArray := by rw [← hT]
  have hTf : oT.isFreed = false := by rw [← hT]; rfl
  have he2 : (g1.push oT).get? e = some (exO C D vs sl) := Heap.get?_push_of_some _ he1
  have hTe : g1.objs.size ≠ e := Nat.ne_of_gt (Heap.lt_size he1)
  have up : ∀ b o, b ≠ e → g1.get? b = some o → ((g1.push oT).update e (Obj.mapFields (·.setIfInBounds 1 (.ref g1.objs.size)))).get? b = some o := fun b o hb q =>
    (Heap.get?_update_other _ _ (Ne.symm hb)).trans (Heap.get?_push_of_some _ q)
  have ne : ∀ b o, s.heap.get? b = some o → (∀ vs, o.data ≠ .fields vs) → b ≠ e := fun b o q hnf z => by
    rw [z, he] at q
    cases q
    exact hnf vs rfl
  refine wpAny_setField he2 rfl h1 (hq _ ⟨fun b o q => up b o (fun z => by rw [z, hnew] at q; cases q) (hB1 b o q), hnew, hl.of_keeps fun b o q hnf => ?_, ?_⟩ fun b o q hnf => ?_)
  · obtain ⟨sl', q'⟩ := S.2.2 b o q
    exact ⟨_, up b _ (ne b o q hnf) q', rfl⟩
  · refine ⟨vs.setIfInBounds 1 (.ref g1.objs.size), sl, g1.objs.size, oT, _, Heap.get?_update_self _ he2 rfl, by simp [h1], ?_, hTe, (Heap.get?_update_other _ _ (Ne.symm hTe)).trans (Heap.get?_push_size _ hTf), hTd, by simp⟩
    cases q : B.get? g1.objs.size with
    | none => rfl
    | some o => exact absurd (Heap.lt_size (hB1 _ _ q)) (Nat.lt_irrefl _)
  · obtain ⟨sl', q'⟩ := S.2.2 b o q
    exact ⟨sl', up b _ (ne b o q hnf) q'⟩
/-- one part of the newest entry is turned -/
theorem flight_d {fl fl' : Value} {T : Addr} {oT : Obj} {ts : Array Value} (st : B.StaysIn s.heap) (nw : B.get? e = none) (fr : s.heap.FunFrames B l) (he : s.heap.get? e = some (exO C D vs sl)) (h1 : vs[1]? = some (.ref T)) (hT : B.get? T = none) (hTe : T ≠ e)
    (ho : s.heap.get? T = some oT) (hd : oT.data = .fields ts) (h3 : ts[3]? = some fl)
    (hq : ∀ h', Fl B l e C D fl' h' → s.heap.UpToSlots h' → h'.get? e = some (exO C D vs sl) → Q () { s with heap := h' }) : wpAny M A (setField (.ref T) 3 fl') Q E s := by
  have up : ∀ b, b ≠ T → (s.heap.update T (Obj.mapFields (·.setIfInBounds 3 fl'))).get? b = s.heap.get? b := fun b hb => Heap.get?_update_other _ _ (Ne.symm hb)
  have sz : 3 < ts.size := (Array.getElem?_eq_some_iff.mp h3).1
  have ne : ∀ b o, s.heap.get? b = some o → (∀ vs, o.data ≠ .fields vs) → b ≠ T := fun b o q hnf z => by
    rw [z, ho] at q
    cases q
    exact hnf ts hd
  have he' := (up e (Ne.symm hTe)).trans he
  refine wpAny_setField ho hd sz (hq _ ⟨fun b o q => (up b fun z => by rw [z, hT] at q; cases q).trans (st b o q), nw, fr.of_keeps fun b o q hnf => ⟨o, (up b (ne b o q hnf)).trans q, rfl⟩,
    vs, sl, T, _, _, he', h1, hT, hTe, Heap.get?_update_self _ ho (Obj.isFreed_of_fields (Obj.data_mapFields hd _)), Obj.data_mapFields hd _, by simp [sz]⟩ (fun b o q hnf => ⟨o.slots, (up b (ne b o q hnf)).trans q⟩) he')
theorem setFlight_d {fl : Value} (x : Fl B l e C D fl s.heap) (hq : ∀ h', Fl B l e C D .none h' → s.heap.UpToSlots h' → Q () { s with heap := h' }) : wpAny M A (setFlight (.ref e) none) Q E s := by
  obtain ⟨vs, sl, T, oT, ts, he, h1, hT, hTe, ho, hd, h3⟩ := x.tr
  unfold setFlight
  refine wpAny_bind (wpAny_field he rfl h1 ?_)
  rw [if_pos (show (Value.ref T != Value.none) = true from by simp)]
  exact flight_d x.st x.nw x.fr he h1 hT hTe ho hd h3 fun h' y u _ => hq h' y u
theorem note_first (hfr : A.frames = some (env :: outer)) (hf : env.frame = some L) (he : s.heap.get? e = some (exO C D vs sl)) (h1 : vs[1]? = some .none) (hB : B.StaysIn s.heap) (hnew : B.get? e = none) (hl : s.heap.FunFrames B (env :: outer))
    (hq : ∀ h', Fl B (env :: outer) e C D (rawInt L) h' → s.heap.UpToSlots h' → Q () { s with heap := h' }) : wpAny M A (noteFrame (.ref e) env) Q E s := by
  unfold noteFrame
  simp only [hf]
  refine wpAny_bind (wpAny_field he rfl h1 ?_)
  rw [if_neg (by decide)]
  exact entry_d hfr hf he (Array.getElem?_eq_some_iff.mp h1).1 hB hnew hl hq
theorem note_next (hfr : A.frames = some (env :: outer)) (hf : env.frame = some L) (x : Fl B (env :: outer) e C D .none s.heap)
    (hq : ∀ h', Fl B (env :: outer) e C D (rawInt L) h' → s.heap.UpToSlots h' → Q () { s with heap := h' }) : wpAny M A (noteFrame (.ref e) env) Q E s := by
  obtain ⟨vs, sl, T, oT, ts, he, h1, hT, hTe, ho, hd, h3⟩ := x.tr
  unfold noteFrame
  simp only [hf]
  refine wpAny_bind (wpAny_field he rfl h1 ?_)
  rw [if_pos (show (Value.ref T != Value.none) = true from by simp)]
  refine wpAny_bind (wpAny_field ho hd h3 ?_)
  rw [if_neg (show ¬ ((Value.none == rawInt L) = true) from by simp [rawInt])]
  refine wpAny_bind (flight_d (fl' := .none) x.st x.nw x.fr he h1 hT hTe ho hd h3 fun h' y u he' => ?_)
  exact entry_d hfr hf (s := { s with heap := h' }) he' (Array.getElem?_eq_some_iff.mp h1).1 y.st y.nw y.fr fun h'' y' u' => hq h'' y' (u.trans u')
theorem note_again (hf : env.frame = some L) (x : Fl B l e C D (rawInt L) s.heap) (hq : Q () s) : wpAny M A (noteFrame (.ref e) env) Q E s := by
  obtain ⟨vs, sl, T, oT, ts, he, h1, hT, hTe, ho, hd, h3⟩ := x.tr
  unfold noteFrame
  simp only [hf]
  refine wpAny_bind (wpAny_field he rfl h1 ?_)
  rw [if_pos (show (Value.ref T != Value.none) = true from by simp)]
  refine wpAny_bind (wpAny_field ho hd h3 ?_)
  rw [if_pos (show (rawInt L == rawInt L) = true from by simp)]
  exact wpAny_pure hq
end
theorem ln_B5_1 : True := by
  k_with_none
  k_with "L:room" => (first | exact room1 hd1 rfl | exact room2 hd1 rfl | exact room3 hd1 rfl | exact room4 hd1 rfl | exact room9 hd1)
  k_with "L:units" => (first | exact unit1 hu1 rfl | exact unit2 hu1 rfl | exact unit3 hu1 rfl | exact unit4 hu1 rfl | exact unit9 hu1)
  k_with "L:k_ne" => (refine neN ?_; (try dsimp only); first | with_reducible assumption | exact Ne.symm (by with_reducible assumption) | exact Nat.ne_of_lt (by walk_at "m lt") | exact Nat.ne_of_gt (by walk_at "m lt"))
  k_with "L:m lt" => (first | with_reducible assumption | with_reducible exact And.left (by assumption) | with_reducible exact And.left (And.right (by assumption)) | with_reducible exact And.left (And.right (And.right (by assumption))) | with_reducible exact And.left (And.right (And.right (And.right (by assumption)))) | with_reducible exact And.left (And.right (And.right (And.right (And.right (by assumption))))) | with_reducible exact And.left (And.right (And.right (And.right (And.right (And.right (by assumption)))))) | with_reducible exact And.left (And.right (And.right (And.right (And.right (And.right (And.right (by assumption))))))) | with_reducible exact And.left (And.right (And.right (And.right (And.right (And.right (And.right (And.right (by assumption)))))))))
  k_with "L:m small" => (refine wpAny_call ?_; k_dflt ktr_enter; k_steps)
  k_with "L:m enter" => (refine wpAny_call ?_; k_dflt ktr_enter)
  trivial
/-! an own exception is made: its own __init__ is called -/
section
variable {prog : Program} {w : World} {A : Around} {E : Value → Shared → Prop} {R : Result → Shared → Prop} {h : Heap} {g : Array GenState} {d : Drawn} {t : Nat} {os : OsState} {K : Frag}
variable {nm q : Str} {C N fI : Addr} {bs bm : List Value} {sn : List Str} {sub : List Value} {ab : Bool} {col : Option Bool} {dd : Option Addr} {k0 k1 k2 k3 k5 : Option Value} {rest : List Value}
structure ExTail (bm : List Value) : Prop where
  exc : bm.contains (.type "Exception") = true
  base : bm.contains (.type "BaseException") = true
  noAttr : bm.contains (.type "AttributeError") = false
  noName : bm.contains (.type "NameError") = false
theorem new_m (T : ExTail bm) (hC : h.get? C = some (excClassObj nm q C N bs bm true sn sub ab col dd k0 k1 k2 k3 k5 "Exception.__new__"))
    (hq : R (.ok (.ret (.ref (h.objs.size + 1)))) ⟨(h.push { cls := .type "tuple", data := .seq rest.toArray }).push { cls := .ref C, data := .fields #[.ref h.objs.size, .none, .none, .none, .bool false, .none] }, g, d, t, os⟩)
    (hrest : rest.length ≤ sizeLine) : codeAny (model prog w) A (.builtin "Exception.__new__" ⟨.ref C :: rest, []⟩) R ⟨h, g, d, t, os⟩ := by
  have F := PySem.F.excBase_Exception
  have hends := F.ends
  have c1 : (Value.ref C :: bm).contains (.type "Exception") = true := by rw [List.contains_cons, T.exc, Bool.or_true]
  have c2 : (Value.ref C :: bm).contains (.type "AttributeError") = false := by rw [List.contains_cons, T.noAttr]; rfl
  have c3 : (Value.ref C :: bm).contains (.type "NameError") = false := by rw [List.contains_cons, T.noName]; rfl
  refine codeAny_builtinAt F.entry ?_
  unfold Builtin.«BaseException.__new__»
  refine PySem.wpAt_bind ?_
  show PySem.wpAt _ _ _ (stack >>= _) _ _ _
  refine PySem.wpAt_bind (PySem.wpAt_stack fun p below => PySem.wpAt_of_wpAny ?_)
  wp_walk
  refine PySem.wpAt_of_wpAny ?_
  rw [F.owner]
  repeat (first | with_reducible refine wpAny_madeHere_exc F.canon hC ?_ | with_reducible refine wpAny_loadPart_at hC ?_ | (with_reducible refine wpAny_isSubtype_exc hC ?_; first | rw [c1] | rw [c2] | rw [c3]) | wp_step)
  show R _ _
  rw [Heap.size_push]
  exact hq
theorem check_new_m (T : ExTail bm) {M : Model} {Q : Unit → Shared → Prop} (hC : h.get? C = some (excClassObj nm q C N bs bm true sn sub ab col dd k0 k1 k2 k3 k5 "Exception.__new__"))
    (hq : Q () ⟨h, g, d, t, os⟩) : wpAny M A (checkBuiltinCall "Exception.__new__" ⟨.ref C :: rest, []⟩) Q E ⟨h, g, d, t, os⟩ := by
  have F := PySem.F.excBase_Exception
  have c1 : (Value.ref C :: bm).contains (.type "Exception") = true := by rw [List.contains_cons, T.exc, Bool.or_true]
  have hstar := F.noStar
  simp only [checkBuiltinCall, F.newKind, F.newSplit, F.newRow]
  repeat (first | refine wpAny_loadPart_at hC ?_ | (refine wpAny_isSubtype_exc hC ?_; rw [c1]) | refine wpAny_staticBase_exc hC ?_ | refine wpAny_madeBy_exc hC ?_ | simp only [bne_self_eq_false, Bool.false_eq_true, if_false] | wp_step)
  exact hq
theorem made_m (T : ExTail bm) (X : K.In h) {Q : Fin → Shared → Prop} (hK : K.lookup C = some (excClassObj nm q C N bs bm true sn sub ab col dd k0 k1 k2 k3 k5 "Exception.__new__"))
    (hi : findIn K (.ref C) "__init__" = some (some (.ref fI))) (hf : typeIn K (.ref fI) = some (.type "function"))
    (hq : ∀ h' e, Heap.MadeExcOf h h' e (.ref C) rest → wpAny (model prog w) A (call (.ref fI) (.ref e :: rest)) (fun r s' => r = .none ∧ Q (.done (.ret (.ref e))) s') E ⟨h', g, d, t, os⟩) (hrest : rest.length ≤ sizeLine) :
    wpAny (model prog w) A (Builtin.«type.__call__» ⟨.ref C :: rest, []⟩) Q E ⟨h, g, d, t, os⟩ := by
  have hC := X _ _ hK
  repeat (first | with_reducible refine wpAny_loadPart_at hC ?_ | with_reducible refine wpAny_madeBy_exc hC ?_ | wp_step)
  refine codeAny_call_builtin_code (Code.quiet_builtin _ PySem.F.excBase_Exception.quiet) (check_new_m T hC ?_)
  refine new_m T hC ?_ hrest
  show wpAny _ _ _ _ _ _
  generalize hg : (h.push { cls := .type "tuple", data := .seq rest.toArray }).push { cls := .ref C, data := .fields #[.ref h.objs.size, .none, .none, .none, .bool false, .none] } = h2
  have keep : ∀ b o, h.get? b = some o → h2.get? b = some o := fun b o e => by rw [← hg]; exact Heap.get?_push_of_some _ (Heap.get?_push_of_some _ e)
  have X2 : K.In h2 := X.keeps keep
  have hC2 := keep _ _ hC
  have hget : h2.get? (h.objs.size + 1) = some { cls := .ref C, data := .fields #[.ref h.objs.size, .none, .none, .none, .bool false, .none] } := by rw [← hg]; heap_get
  have htup : h2.get? h.objs.size = some { cls := .type "tuple", data := .seq rest.toArray } := by rw [← hg]; exact Heap.get?_push_of_some _ (Heap.get?_push_at rfl rfl)
  have c0 : (Value.ref C :: bm).contains (.ref C) = true := by simp
  unfold isInstance
  repeat (first | with_reducible refine wpAny_loadPart_at hget ?_ | (with_reducible refine wpAny_isSubtype_exc hC2 ?_; rw [c0]) | wp_step)
  show wpAny _ _ (typeLookup (.ref C) _) _ _ _
  refine Looks.here (s := ⟨h2, g, d, t, os⟩) (looks_findIn X2 hi) ?_
  refine wpAny_holding (wpAny_bind ?_)
  refine Looks.here (s := ⟨h2, g, d, t, os⟩) (bind_fn X2 _ hf) ?_
  refine wpAny_bind (wpAny_mono (hq _ (h.objs.size + 1) ⟨keep, Heap.get?_none_of_le (Nat.le_succ _), h.objs.size, hget, Heap.get?_none_of_le (Nat.le_refl _), htup⟩) (fun r s' hr => ?_) fun _ _ x => x)
  obtain ⟨rfl, hQ⟩ := hr
  wp_walk
  exact hQ
theorem exc_call (T : ExTail bm) (X : K.In h) {Q : Value → Shared → Prop} (hK : K.lookup C = some (excClassObj nm q C N bs bm true sn sub ab col dd k0 k1 k2 k3 k5 "Exception.__new__"))
    (hi : findIn K (.ref C) "__init__" = some (some (.ref fI))) (hf : typeIn K (.ref fI) = some (.type "function"))
    (hq : ∀ h' e, Heap.MadeExcOf h h' e (.ref C) rest → wpAny (model prog w) (A.under (.builtin "type.__call__" ⟨.ref C :: rest, []⟩)) (call (.ref fI) (.ref e :: rest)) (fun r s' => r = .none ∧ Q (.ref e) s') E ⟨h', g, d, t, os⟩) (hrest : rest.length ≤ sizeLine) :
    wpAny (model prog w) A (call (.ref C) rest) Q E ⟨h, g, d, t, os⟩ := by
  have hC := X _ _ hK
  have f1 := tc_lookup
  have f2 := tc_bind (.ref C)
  have hT : (⟨h, g, d, t, os⟩ : Shared).TypeIs (.ref C) "type" := ⟨_, hC, rfl⟩
  refine wpAny_call (codeAny_of_tree ?_)
  show wpAny _ _ (callAny (.ref C) _) _ _ _
  repeat (any_goals (first | assumption | with_reducible refine wpAny_loadPart_at hC ?_ | wp_step))
  refine ⟨rfl, ?_⟩
  refine codeAny_call_builtin_at (Code.quiet_builtin _ (by decide +kernel)) entry_typeCall (wpAny_check_type_call_sub hC (made_m T X hK hi hf (fun h' e hm => ?_) hrest))
  exact hq h' e hm
end
/-! attributes of an own exception: stored, read -/
open Builtin Builtin.ObjectAttr in
section
variable {prog : Program} {w : World} {A : Around} {E : Value → Shared → Prop} {R : Result → Shared → Prop} {h : Heap} {g : Array GenState} {d : Drawn} {t : Nat} {os : OsState} {K : Frag}
variable {nm q : Str} {C N e : Addr} {bs bm : List Value} {sn : List Str} {sub : List Value} {ab : Bool} {col : Option Bool} {dd : Option Addr} {k0 k1 k2 k3 k5 : Option Value} {name : Str} {v : Value} {vs : Array Value} {sl : Array (Option Value)}
theorem check_set_m {M : Model} {nameV : Value} {o : Obj} {Q : Unit → Shared → Prop} (hobj : bm.contains (.type "object") = true) (hC : h.get? C = some (excClassObj nm q C N bs bm true sn sub ab col dd k0 k1 k2 k3 k5 "Exception.__new__"))
    (hx : h.get? e = some o) (hc : o.cls = .ref C) (hq : Q () ⟨h, g, d, t, os⟩) : wpAny M A (checkBuiltinCall "object.__setattr__" ⟨[.ref e, nameV, v], []⟩) Q E ⟨h, g, d, t, os⟩ := by
  have SF := PySem.F.store_object
  have c1 : (Value.ref C :: bm).contains (.type "object") = true := by rw [List.contains_cons, hobj, Bool.or_true]
  have ha := SF.args (.ref e) nameV v
  simp only [checkBuiltinCall, SF.kind, SF.split]
  refine wpAny_bind ?_
  unfold isInstance
  repeat (first | (with_reducible refine wpAny_loadPart_at hx ?_; rw [hc]) | (with_reducible refine wpAny_isSubtype_exc hC ?_; rw [c1]) | wp_step)
  exact hq
theorem store_none {tk : Tok} {Q : Fin → Shared → Prop} (X : K.In h) (hp : ∀ self, refuseLoop self "__setattr__" (.ref C :: bm) = pure ()) (hC : h.get? C = some (excClassObj nm q C N bs bm true sn sub ab col dd k0 k1 k2 k3 k5 "Exception.__new__"))
    (hna : findIn K (.ref C) name = some none) (hx : h.get? e = some ⟨.ref C, none, .fields vs, sl⟩)
    (hq : ∀ h' tk' D, h'.get? e = some (exO C D vs sl) → h'.Ns1 D (fun y => if y = name then some v else none) → D = h.objs.size → (∀ b o, b ≠ e → h.get? b = some o → h'.get? b = some o) → Q (.done (.ret .none)) ⟨h', g, d, tk', os⟩) :
    wpAny (model prog w) A (Builtin.«object.__setattr__» ⟨[.ref e, .str name tk, v], []⟩) Q E ⟨h, g, d, t, os⟩ := by
  have hpass := hp (.ref e)
  have hL : Looks (model prog w) h (typeLookup (.ref C) name) none := looks_findIn X hna
  unfold Builtin.«object.__setattr__»
  repeat (first | rw [refuse_eq] | rw [hpass] | with_reducible refine wpAny_loadPart_at hx ?_ | with_reducible refine wpAny_mroOf_exc hC ?_ | with_reducible refine Looks.here hL ?_ | with_reducible refine wpAny_nsSet1 (Heap.Ns1.of_empty ?hnd) ?hk | wp_step)
  case hnd =>
    exact ⟨_, #[], _, (Heap.get?_update_ne _ _ _ _ (Nat.ne_of_gt (Heap.lt_size hx))).trans (Heap.get?_push_at rfl rfl), rfl, fun e he => absurd he (by simp), fun _ => rfl⟩
  intro h' hn' hs
  have hxs : e ≠ h.objs.size := Nat.ne_of_lt (Heap.lt_size hx)
  have hx1 : (h.push { cls := .type "dict", data := .dict #[] }).get? e = some ⟨.ref C, none, .fields vs, sl⟩ := Heap.get?_push_of_some _ hx
  obtain ⟨oD, esD, epD, hoD, hdD, hcD⟩ := hn'.count (Within.cons name v Within.nil)
  refine wpAny_bind (wpAny_lookBehind hoD (by rw [hdD]; exact pastItsLine_dict (Nat.le_trans hcD (by rw [List.length_cons, List.length_nil, sizeLine_eq]; omega))) ?_)
  wp_walk
  refine hq h' _ h.objs.size ((hs.2 e hxs).trans (Heap.get?_update_self _ hx1 rfl)) hn' rfl fun b o hb hbo => ?_
  exact (hs.2 b (Nat.ne_of_lt (Heap.lt_size hbo))).trans ((Heap.get?_update_ne _ _ _ _ hb).trans (Heap.get?_push_of_some _ hbo))
theorem store_some {tk : Tok} {Q : Fin → Shared → Prop} {D : Addr} {mA : Str → Option Value} {ns : List Str} (X : K.In h) (hp : ∀ self, refuseLoop self "__setattr__" (.ref C :: bm) = pure ()) (hC : h.get? C = some (excClassObj nm q C N bs bm true sn sub ab col dd k0 k1 k2 k3 k5 "Exception.__new__"))
    (hna : findIn K (.ref C) name = some none) (hx : h.get? e = some (exO C D vs sl)) (hD : h.Ns1 D mA) (hw : Within mA ns) (hsz : ns.length ≤ 100)
    (hq : ∀ h' tk', h'.Ns1 D (fun y => if y = name then some v else mA y) → (∀ b o, b ≠ D → h.get? b = some o → h'.get? b = some o) → Q (.done (.ret .none)) ⟨h', g, d, tk', os⟩) :
    wpAny (model prog w) A (Builtin.«object.__setattr__» ⟨[.ref e, .str name tk, v], []⟩) Q E ⟨h, g, d, t, os⟩ := by
  have hpass := hp (.ref e)
  have hL : Looks (model prog w) h (typeLookup (.ref C) name) none := looks_findIn X hna
  unfold Builtin.«object.__setattr__»
  repeat (first | rw [refuse_eq] | rw [hpass] | with_reducible refine wpAny_loadPart_at hx ?_ | with_reducible refine wpAny_mroOf_exc hC ?_ | with_reducible refine Looks.here hL ?_ | with_reducible refine wpAny_nsSet1 hD ?hk | wp_step)
  intro h' hn' hs
  obtain ⟨oD, esD, epD, hoD, hdD, hcD⟩ := hn'.count (Within.cons name v hw)
  refine wpAny_bind (wpAny_lookBehind hoD (by rw [hdD]; exact pastItsLine_dict (Nat.le_trans hcD (by rw [List.length_cons, sizeLine_eq]; omega))) ?_)
  wp_walk
  exact hq h' _ hn' fun b o hb hbo => (hs.2 b hb).trans hbo
theorem set_open {Q : Unit → Shared → Prop} {o : Obj} (X : K.In h) (hobj : bm.contains (.type "object") = true) (hC : h.get? C = some (excClassObj nm q C N bs bm true sn sub ab col dd k0 k1 k2 k3 k5 "Exception.__new__"))
    (hs : findIn K (.ref C) "__setattr__" = some (some (.builtin "object.__setattr__"))) (hx : h.get? e = some o) (hc : o.cls = .ref C)
    (hq : ∀ A' tk, wpAny (model prog w) A' (Builtin.«object.__setattr__» ⟨[.ref e, .str name tk, v], []⟩) (fun f s' => f = .done (.ret .none) ∧ Q () s') (fun _ _ => False) ⟨h, g, d, t + 1, os⟩) :
    wpAny (model prog w) A (setAttr (.ref e) name v) Q E ⟨h, g, d, t, os⟩ := by
  have SF := PySem.F.store_object
  have f3 := SF.slot.bind (.ref e)
  have hL : Looks (model prog w) h (typeLookup (.ref C) "__setattr__") (some (.builtin "object.__setattr__")) := looks_findIn X hs
  unfold setAttr callSpecial? specialOf
  repeat (any_goals (first | assumption | (with_reducible refine wpAny_loadPart_at hx ?_; rw [hc]) | with_reducible refine Looks.here hL ?_ | wp_step))
  refine codeAny_call_builtin SF.slot.plain SF.entry (check_set_m hobj hC hx hc ?_)
  refine wpAny_mono (hq _ _) (fun f s' z => ?_) fun _ _ z => z.elim
  obtain ⟨rfl, z⟩ := z
  show wpAny _ _ _ _ _ _
  repeat (any_goals (first | assumption | wp_step))
end
section
variable {prog : Program} {w : World} {A : Around} {E : Value → Shared → Prop} {R : Result → Shared → Prop} {h : Heap} {g : Array GenState} {d : Drawn} {t : Nat} {os : OsState} {K : Frag}
variable {nm q : Str} {C N e D : Addr} {bs bm : List Value} {sn : List Str} {sub : List Value} {ab : Bool} {col : Option Bool} {dd : Option Addr} {k0 k1 k2 k3 k5 : Option Value} {name : Str} {v : Value} {vs : Array Value} {sl : Array (Option Value)} {mA : Str → Option Value}
set_option maxHeartbeats 4000000 in
theorem get_m {expr : Bool} {Q : Value → Shared → Prop} (X : K.In h) (hbase : bm.contains (.type "BaseException") = true) (hC : h.get? C = some (excClassObj nm q C N bs bm true sn sub ab col dd k0 k1 k2 k3 k5 "Exception.__new__"))
    (hg : findIn K (.ref C) "__getattribute__" = some (some (.builtin "BaseException.__getattribute__"))) (hh : findIn K (.ref C) "__getattr__" = some none)
    (hna : findIn K (.ref C) name = some none) (hx : h.get? e = some (exO C D vs sl)) (hD : h.Ns D mA) (hv : mA name = some v) (ho : handedOut v = pure v) (hq : Q v ⟨h, g, d, t + 1, os⟩) :
    wpAny (model prog w) A (getAttr (.ref e) name expr) Q E ⟨h, g, d, t, os⟩ := by
  have FB := PySem.F.attrBase_Exception
  obtain ⟨o, hx, hc, hdt, hdd⟩ : ∃ o : Obj, h.get? e = some o ∧ o.cls = .ref C ∧ o.data = .fields vs ∧ o.dict = some D := ⟨_, hx, rfl, rfl, rfl⟩
  have f3 := FB.ga.bind (.ref e)
  have hx0 : (expr && onTheHeap (Value.builtin "BaseException.__getattribute__")) = false := by cases expr <;> rfl
  have hx2 : (Value.builtin "BaseException.__getattribute__" == Value.builtin "object.__getattribute__") = false := by decide +kernel
  have hx1 : (onTheHeap (Value.ref C) && Value.builtin "BaseException.__getattribute__" == Value.builtin "object.__getattribute__") = false := by rw [hx2]; rfl
  have L1 : Looks (model prog w) h (typeLookup (.ref C) "__getattribute__") (some (.builtin "BaseException.__getattribute__")) := looks_findIn X hg
  have L2 : Looks (model prog w) h (typeLookup (.ref C) "__getattr__") none := looks_findIn X hh
  unfold getAttr
  repeat (any_goals (first | assumption | (with_reducible refine wpAny_loadPart_at hx ?_; rw [hc]) | with_reducible refine Looks.here L1 ?_ | with_reducible refine Looks.here L2 ?_ | wp_step))
  have hk : builtinKind "BaseException.__getattribute__" = some .slot := by decide +kernel
  have hsplit : splitId "BaseException.__getattribute__" = some ("BaseException", "__getattribute__") := by decide +kernel
  have hcB : (Value.ref C :: bm).contains (.type "BaseException") = true := by rw [List.contains_cons, hbase]; rfl
  have ha := PySem.F.args_bexc_ga (.ref e) (.str name t)
  refine codeAny_call_builtin FB.ga.plain PySem.F.entry_bexc_ga ?_
  simp only [checkBuiltinCall, hk, hsplit]
  refine wpAny_bind ?_
  unfold isInstance
  have L3 : Looks (model prog w) h (typeLookup (.ref C) name) none := looks_findIn X hna
  repeat (any_goals (first | assumption | (with_reducible refine wpAny_loadPart_at hx ?_; first | rw [hc, hdd] | rw [hc] | rw [hdt]) | (with_reducible refine wpAny_isSubtype_exc hC ?_; rw [hcB]) | with_reducible refine wpAny_loadPart_at hC ?_ | with_reducible refine Looks.here L3 ?_ | (with_reducible refine wpAny_nsGet hD ?_; rw [hv]) | wp_step))
end
def DObj (o : Obj) (m : Str → Option Value) : Prop := ∃ es ep, o.data = .dict es ep ∧ StrKeys es ∧ UniqKeys es ∧ ∀ name, nsFind es name = m name
theorem DObj.ns1 {o : Obj} {m : Str → Option Value} (x : DObj o m) {h : Heap} {D : Addr} (e : h.get? D = some o) : h.Ns1 D m := let ⟨es, ep, r⟩ := x; ⟨o, es, ep, e, r⟩
theorem DObj.of {m : Str → Option Value} {h : Heap} {D : Addr} (x : h.Ns1 D m) : ∃ o, h.get? D = some o ∧ DObj o m := let ⟨o, es, ep, e, r⟩ := x; ⟨o, e, es, ep, r⟩
section
variable {prog : Program} {w : World} {A : Around} {E : Value → Shared → Prop} {s : Shared} {h₀ : Heap} {L C N' e D : Addr} {m mA : Str → Option Value} {news : List (Addr × Obj)} {K : Frag} {gg : Obj → List (Addr × Obj)}
variable {nm q : Str} {bs bm : List Value} {sn : List Str} {sub : List Value} {ab : Bool} {col : Option Bool} {dd : Option Addr} {k0 k1 k2 k3 k5 : Option Value} {name : Str} {v : Value} {vs : Array Value} {sl : Array (Option Value)} {Q : Unit → Shared → Prop}
theorem setattr0 (F : Fr h₀ L s.heap m) (X : K.In h₀) (N : News h₀ L s.heap news) (U : UpdF e ⟨.ref C, none, .fields vs, sl⟩ news gg)
    (hK : K.lookup C = some (excClassObj nm q C N' bs bm true sn sub ab col dd k0 k1 k2 k3 k5 "Exception.__new__")) (hobj : bm.contains (.type "object") = true) (hp : ∀ self, refuseLoop self "__setattr__" (.ref C :: bm) = pure ())
    (hs : findIn K (.ref C) "__setattr__" = some (some (.builtin "object.__setattr__"))) (hna : findIn K (.ref C) name = some none)
    (hq : ∀ D oD h' tk', Fr h₀ L h' m → News h₀ L h' ((D, oD) :: gg (exO C D vs sl)) → DObj oD (fun y => if y = name then some v else none) → (∀ q ∈ news, q.1 < D) → Q () { s with heap := h', toks := tk' }) :
    wpAny (model prog w) A (setAttr (.ref e) name v) Q E s := by
  obtain ⟨pre, post, rfl, hg, a, b⟩ := U.split
  have he := N (e, ⟨.ref C, none, .fields vs, sl⟩) (List.mem_append_right _ (.head _))
  have X' := X.keeps F.keep
  obtain ⟨hp', g', d', t', os'⟩ := s
  refine set_open X' hobj (X' _ _ hK) hs he.1 rfl fun A' tk => ?_
  refine store_none X' hp (X' _ _ hK) hna he.1 fun h' tk' D x1 x2 x3 x4 => ⟨rfl, ?_⟩
  obtain ⟨oD, y1, y2⟩ := DObj.of x2
  have keep : ∀ b o, h₀.get? b = some o → h'.get? b = some o := fun b o z => x4 b o (fun z' => by rw [z', he.2.2] at z; cases z) (F.keep b o z)
  refine hq D oD h' tk' ⟨F.ns.at' fun o z => x4 L o (fun z' => he.2.1 z'.symm) z, keep, F.above⟩ (fun p hp => ?_) y2 fun p hp => ?_
  · rw [hg] at hp
    have lowD : h₀.get? D = none := by
      cases z : h₀.get? D with
      | none => rfl
      | some o => exact absurd (Heap.lt_size (F.keep _ _ z)) (by rw [x3]; exact Nat.lt_irrefl _)
    have old : ∀ p : Addr × Obj, p ∈ pre ++ (e, ⟨.ref C, none, .fields vs, sl⟩) :: post → p.1 ≠ e → h'.get? p.1 = some p.2 ∧ p.1 ≠ L ∧ h₀.get? p.1 = none := fun p hp hn => ⟨x4 _ _ hn (N p hp).1, (N p hp).2⟩
    rcases List.mem_cons.mp hp with rfl | hp
    · refine ⟨y1, fun z => ?_, lowD⟩
      obtain ⟨o, _, _, z', _⟩ := F.ns
      exact absurd (Heap.lt_size z') (by rw [← (show D = L from z), x3]; exact Nat.lt_irrefl _)
    · rcases List.mem_append.mp hp with hp | hp
      · exact old p (List.mem_append_left _ hp) (a p hp)
      · rcases List.mem_cons.mp hp with rfl | hp
        · exact ⟨x1, he.2⟩
        · exact old p (List.mem_append_right _ (.tail _ hp)) (b p hp)
  · have hlt := Heap.lt_size (N p hp).1
    rw [x3]
    exact hlt
theorem setattr1 {oD : Obj} {ns : List Str} (F : Fr h₀ L s.heap m) (X : K.In h₀) (N : News h₀ L s.heap news) (he : (e, exO C D vs sl) ∈ news) (U : UpdF D oD news gg) (hD : DObj oD mA)
    (hK : K.lookup C = some (excClassObj nm q C N' bs bm true sn sub ab col dd k0 k1 k2 k3 k5 "Exception.__new__")) (hobj : bm.contains (.type "object") = true) (hp : ∀ self, refuseLoop self "__setattr__" (.ref C :: bm) = pure ())
    (hs : findIn K (.ref C) "__setattr__" = some (some (.builtin "object.__setattr__"))) (hna : findIn K (.ref C) name = some none) (hw : Within mA ns) (hsz : ns.length ≤ 100)
    (hq : ∀ oD' h' tk', Fr h₀ L h' m → News h₀ L h' (gg oD') → DObj oD' (fun y => if y = name then some v else mA y) → Q () { s with heap := h', toks := tk' }) :
    wpAny (model prog w) A (setAttr (.ref e) name v) Q E s := by
  obtain ⟨pre, post, rfl, hg, a, b⟩ := U.split
  have hd := N (D, oD) (List.mem_append_right _ (.head _))
  have X' := X.keeps F.keep
  obtain ⟨hp', g', d', t', os'⟩ := s
  refine set_open X' hobj (X' _ _ hK) hs (N _ he).1 rfl fun A' tk => ?_
  refine store_some X' hp (X' _ _ hK) hna (N _ he).1 (hD.ns1 hd.1) hw hsz fun h' tk' x2 x4 => ⟨rfl, ?_⟩
  obtain ⟨oD', y1, y2⟩ := DObj.of x2
  refine hq oD' h' tk' ⟨F.ns.at' fun o z => x4 L o (fun z' => hd.2.1 z'.symm) z, fun b o z => x4 b o (fun z' => by rw [z', hd.2.2] at z; cases z) (F.keep b o z), F.above⟩ (fun p hp => ?_) y2
  rw [hg] at hp
  rcases List.mem_append.mp hp with hp | hp
  · have z := N p (List.mem_append_left _ hp)
    exact ⟨x4 _ _ (a p hp) z.1, z.2⟩
  · rcases List.mem_cons.mp hp with rfl | hp
    · exact ⟨y1, hd.2⟩
    · have z := N p (List.mem_append_right _ (.tail _ hp))
      exact ⟨x4 _ _ (b p hp) z.1, z.2⟩
end
theorem exc_made {h₀ h h' : Heap} {L e : Addr} {m : Str → Option Value} {cls : Value} {args : List Value} {news : List (Addr × Obj)} (F : Fr h₀ L h m) (N : News h₀ L h news) (x : Heap.MadeExcOf h h' e cls args) :
    ∃ t, Fr h₀ L h' m ∧ News h₀ L h' ((e, { cls := cls, data := .fields #[.ref t, .none, .none, .none, .bool false, .none] }) :: (t, { cls := .type "tuple", data := .seq args.toArray }) :: news) ∧ (∀ q ∈ news, q.1 ≠ e) ∧ (∀ q ∈ news, q.1 ≠ t) ∧ t ≠ e := by
  obtain ⟨t, h1, h2, h3⟩ := x.there
  have low : ∀ b, h.get? b = none → h₀.get? b = none ∧ b ≠ L := fun b z => by
    refine ⟨?_, fun y => ?_⟩
    · cases q : h₀.get? b with
      | none => rfl
      | some o => have := F.keep _ _ q; rw [z] at this; cases this
    · obtain ⟨o, _, _, q, _⟩ := F.ns
      rw [← y, z] at q
      cases q
  have ne : ∀ b, h.get? b = none → ∀ q ∈ news, q.1 ≠ b := fun b z q hq y => by
    have := (N q hq).1
    rw [y, z] at this
    cases this
  refine ⟨t, F.keeps x.keeps, fun p hp => ?_, ne _ x.new, ne _ h2, fun y => ?_⟩
  · rcases List.mem_cons.mp hp with rfl | hp
    · exact ⟨h1, (low _ x.new).2, (low _ x.new).1⟩
    · rcases List.mem_cons.mp hp with rfl | hp
      · exact ⟨h3, (low _ h2).2, (low _ h2).1⟩
      · exact ⟨x.keeps _ _ (N p hp).1, (N p hp).2⟩
  · rw [y, h1] at h3
    have z := congrArg Obj.data (Option.some.inj h3)
    cases z
section
variable {prog : Program} {w : World} {A : Around} {E : Value → Shared → Prop} {s : Shared} {h₀ : Heap} {L C fI : Addr} {m : Str → Option Value} {news : List (Addr × Obj)} {K : Frag} {N' : Addr}
variable {nm q : Str} {bs bm : List Value} {sn : List Str} {sub : List Value} {ab : Bool} {col : Option Bool} {dd : Option Addr} {k0 k1 k2 k3 k5 : Option Value} {rest : List Value} {Q : Value → Shared → Prop}
theorem exc_call_K (F : Fr h₀ L s.heap m) (X : K.In h₀) (N : News h₀ L s.heap news) (hK : K.lookup C = some (excClassObj nm q C N' bs bm true sn sub ab col dd k0 k1 k2 k3 k5 "Exception.__new__"))
    (hi : findIn K (.ref C) "__init__" = some (some (.ref fI))) (hf : typeIn K (.ref fI) = some (.type "function")) (T : ExTail bm) (hrest : rest.length ≤ 10)
    (hq : ∀ h' e t, Fr h₀ L h' m → News h₀ L h' ((e, { cls := .ref C, data := .fields #[.ref t, .none, .none, .none, .bool false, .none] }) :: (t, { cls := .type "tuple", data := .seq rest.toArray }) :: news) → (∀ q ∈ news, q.1 ≠ e) → (∀ q ∈ news, q.1 ≠ t) → t ≠ e →
      wpAny (model prog w) (A.under (.builtin "type.__call__" ⟨.ref C :: rest, []⟩)) (call (.ref fI) (.ref e :: rest)) (fun r s' => r = .none ∧ Q (.ref e) s') E { s with heap := h' }) :
    wpAny (model prog w) A (call (.ref C) rest) Q E s := by
  obtain ⟨hp', g', d', t', os'⟩ := s
  refine exc_call T (X.keeps F.keep) hK hi hf (fun h' e x => ?_) (by rw [sizeLine_eq]; omega)
  obtain ⟨t, F', N', a, b, c⟩ := exc_made F N x
  exact hq h' e t F' N' a b c
end
theorem ln_B8_1 : True := by
  k_with "L:m prem" => (first | assumption | exact rfl | omega | decide)
  k_with "L:call ref" => (k_here; (with_reducible show wpAny _ _ (call (Value.ref 106) _ _) _ _ _); k_dflt (refine' payload_t (by k_asm) (by k_asm) (by k_asm) (by k_asm) (by k_asm) (by first | exact rfl | assumption) (by ktr_room) (by ktr_units) ?_; k_whole); intro tz' hz' tkz' Fz' Nz'; (try dsimp only); (try k_sweep))
  k_with "L:call ref" => (k_here; (with_reducible show wpAny _ _ (call (Value.ref 113) _ _) _ _ _); k_dflt (refine' fix_t (by k_asm) (by k_asm) (by k_asm) (by k_asm) (by k_asm) (by first | exact rfl | assumption) (by ktr_room) (by ktr_units) ?_; k_whole); intro tz' hz' tkz' Fz' Nz'; (try dsimp only); (try k_sweep))
  k_with "L:call ref" => (k_here; (with_reducible show wpAny _ _ (call (Value.ref 120) _ _) _ _ _); k_dflt (refine' ref_t (by k_asm) (by k_asm) (by k_asm) (by k_asm) (by k_asm) (by first | exact rfl | assumption) (by ktr_room) (by ktr_units) ?_; k_whole); intro tz' hz' tkz' Fz' Nz'; (try dsimp only); (try k_sweep))
  k_with "L:call ref" => (k_here; (with_reducible show wpAny _ _ (call (Value.ref 127) _ _) _ _ _); k_dflt (refine' bool_word_t (by k_asm) (by k_asm) (by k_asm) (by k_asm) (by k_asm) (by first | exact rfl | assumption) (by ktr_room) (by ktr_units) ?_; k_whole); intro tz' hz' tkz' Fz' Nz'; (try dsimp only); (try k_sweep))
  k_with "L:call ref" => (k_here; (with_reducible show wpAny _ _ (call (Value.ref 134) _ _) _ _ _); k_dflt (refine' header_word_t (by k_asm) (by k_asm) (by k_asm) (by k_asm) (by k_asm) (by first | exact rfl | assumption) (by ktr_room) (by ktr_units) ?_; k_whole); intro tz' hz' tkz' Fz' Nz'; (try dsimp only); (try k_sweep))
  k_with "L:call ref" => (k_here; (with_reducible show wpAny _ _ (call (Value.ref 141) _ _) _ _ _); k_dflt (refine' is_fix_t (by k_asm) (by k_asm) (by k_asm) (by k_asm) (by k_asm) (by first | exact rfl | assumption) (by ktr_room) (by ktr_units) ?_; k_whole); intro hz' tkz' Fz' Nz'; (try dsimp only); (try k_sweep))
  k_with "L:call ref" => (k_here; (with_reducible show wpAny _ _ (call (Value.ref 148) _ _) _ _ _); k_dflt (refine' is_ref_t (by k_asm) (by k_asm) (by k_asm) (by k_asm) (by k_asm) (by first | exact rfl | assumption) (by ktr_room) (by ktr_units) ?_; k_whole); intro hz' tkz' Fz' Nz'; (try dsimp only); (try k_sweep))
  k_with "L:call ref" => (k_here; (with_reducible show wpAny _ _ (call (Value.ref 155) _ _) _ _ _); k_dflt (refine' is_header_t (by k_asm) (by k_asm) (by k_asm) (by k_asm) (by k_asm) (by first | exact rfl | assumption) (by ktr_room) (by ktr_units) ?_; k_whole); intro hz' tkz' Fz' Nz'; (try dsimp only); (try k_sweep))
  k_with "L:call ref" => (k_here; (with_reducible show wpAny _ _ (call (Value.ref 162) _ _) _ _ _); k_dflt (refine' header_kind_t (by k_asm) (by k_asm) (by k_asm) (by k_asm) (by k_asm) (by first | exact rfl | assumption) (by ktr_room) (by ktr_units) ?_; k_whole); intro tz' hz' tkz' Fz' Nz'; (try dsimp only); (try k_sweep))
  k_with "L:call ref" => (k_here; (with_reducible show wpAny _ _ (call (Value.ref 169) _ _) _ _ _); k_dflt (refine' header_length_t (by k_asm) (by k_asm) (by k_asm) (by k_asm) (by k_asm) (by first | exact rfl | assumption) (by ktr_room) (by ktr_units) ?_; k_whole); intro tz' hz' tkz' Fz' Nz'; (try dsimp only); (try k_sweep))
  k_with "L:m idx" => (first | decide | ((try simp only [List.length_append, List.length_cons, List.length_nil, List.length_set]); omega))
  k_with "L:m len" => ((try simp only [List.length_append, List.length_cons, List.length_nil, List.length_set]); omega)
  k_with "L:k_mem" => (assumption)
  k_with "L:k_all" => (first | assumption | (refine allLt_ne (by assumption) ?_; intro q hq; (repeat (refine List.Mem.tail _ ?_)); exact hq))
  k_with "L:newList" => (k_here; k_dflt (refine' newList_K (by k_asm) (by k_asm) ?_; k_whole); intro lz' hz' Fz' Nz' l1; (have l2 := l1); (try k_lt l2); (try k_sweep))
  k_with "L:call builtin:len" => (k_here; (with_reducible show wpAny _ _ (call (Value.builtin "len") [Value.ref _]) _ _ _); k_dflt (refine' kst_len (by k_asm) (by k_mem) (by exact rfl) (by walk_at "m len") ?_; k_whole))
  k_with "L:subscriptTail" => (k_here; (with_reducible show wpAny _ _ (subscriptTail _ _ (Value.ref _) (Value.int _ _)) _ _ _); k_dflt (refine' item_m (by k_asm) (by k_mem) (by walk_at "m idx") (by walk_at "m idx") (by first | assumption | exact rfl | exact (by assumption : 1 < _ → _ = some _) (by omega)) ?_ (by with_unfolding_all rfl); k_whole))
  k_with "L:setItem ref int" => (k_here; (with_reducible show wpAny _ _ (setItem (Value.ref _) (Value.int _ _) _) _ _ _); k_dflt (refine' set_m (by k_asm) (by k_asm) (by k_upd) (by omega) (by walk_at "m len") (by walk_at "m len") ?_; k_whole); intro hz' Fz' Nz'; (try k_sweep))
  k_with "L:call builtin:list.append" => (k_here; (with_reducible show wpAny _ _ (call (Value.builtin _) [Value.ref _, _]) _ _ _); k_dflt (refine' append_m (by k_asm) (by k_asm) (by k_upd) (by walk_at "m len") ?_; k_whole); intro hz' Fz' Nz'; (try k_sweep))
  k_with "L:call builtin:list.extend" => (k_here; (with_reducible show wpAny _ _ (call (Value.builtin _) [Value.ref _, Value.ref _]) _ _ _); k_dflt (refine' extend_m (by k_asm) (by k_asm) (by k_mem) (by k_upd) (by walk_at "m len") (by walk_at "m len") ?_; k_whole); intro hz' Fz' Nz'; (try k_sweep))
  k_with "L:call ref" => (k_here; (with_reducible show wpAny _ _ (call (Value.ref 106) _ _) _ _ _); k_dflt (refine' payload_r (by k_asm) (by k_asm) (by k_asm) (by k_asm) (by k_asm) (by first | exact rfl | assumption) (by ktr_room) (by ktr_units) ?_; k_whole); intro tz' hz' tkz' Fz' Nz'; (try dsimp only); (try k_sweep))
  k_with "L:call ref" => (k_here; (with_reducible show wpAny _ _ (call (Value.ref 148) _ _) _ _ _); k_dflt (refine' is_ref_r (by k_asm) (by k_asm) (by k_asm) (by k_asm) (by k_asm) (by first | exact rfl | assumption) (by ktr_room) (by ktr_units) ?_; k_whole); intro hz' tkz' Fz' Nz'; (try dsimp only); (try k_sweep))
  k_with "L:call ref" => (k_here; (with_reducible show wpAny _ _ (call (Value.ref 155) _ _) _ _ _); k_dflt (refine' is_header_y (by k_asm) (by k_asm) (by k_asm) (by k_asm) (by k_asm) (by first | exact rfl | assumption) (by ktr_room) (by ktr_units) (by walk_at "m prem") ?_; k_whole); intro hz' tkz' Fz' Nz'; (try dsimp only); (try k_sweep))
  trivial
theorem within1 (n1 : Str) (v1 : Value) : PySem.Within (fun y => if y = n1 then some v1 else none) [n1] := PySem.Within.cons _ _ (PySem.Within.nil)
theorem within2 (n1 n2 : Str) (v1 v2 : Value) : PySem.Within (fun y => if y = n1 then some v1 else if y = n2 then some v2 else none) [n1, n2] := PySem.Within.cons _ _ (within1 _ _)
theorem within3 (n1 n2 n3 : Str) (v1 v2 v3 : Value) : PySem.Within (fun y => if y = n1 then some v1 else if y = n2 then some v2 else if y = n3 then some v3 else none) [n1, n2, n3] := PySem.Within.cons _ _ (within2 _ _ _ _)
theorem within4 (n1 n2 n3 n4 : Str) (v1 v2 v3 v4 : Value) : PySem.Within (fun y => if y = n1 then some v1 else if y = n2 then some v2 else if y = n3 then some v3 else if y = n4 then some v4 else none) [n1, n2, n3, n4] := PySem.Within.cons _ _ (within3 _ _ _ _ _ _)
theorem within5 (n1 n2 n3 n4 n5 : Str) (v1 v2 v3 v4 v5 : Value) : PySem.Within (fun y => if y = n1 then some v1 else if y = n2 then some v2 else if y = n3 then some v3 else if y = n4 then some v4 else if y = n5 then some v5 else none) [n1, n2, n3, n4, n5] := PySem.Within.cons _ _ (within4 _ _ _ _ _ _ _ _)
theorem ln_B8_2 : True := by
  k_with "L:m passes" => (intro self; first | (rw [refuseLoop_ref, refuseLoop_ref]; exact PySem.F.store_Exception.passes self) | (rw [refuseLoop_ref]; exact PySem.F.store_Exception.passes self) | exact PySem.F.store_Exception.passes self)
  k_with "L:m inside" => (first | exact within1 _ _ | exact within2 _ _ _ _ | exact within3 _ _ _ _ _ _ | exact within4 _ _ _ _ _ _ _ _ | exact within5 _ _ _ _ _ _ _ _ _ _)
  k_with "L:setAttr ref" => (k_here; k_dflt (refine' setattr1 (by k_asm) (by k_asm) (by k_asm) (by k_mem) (by k_updF) (by assumption) (by k_is) (by decide +kernel) (by walk_at "m passes") (by k_is) (by k_is) (by walk_at "m inside") (by decide) ?_; k_whole); intro oDz' hz' tkz' Fz' Nz' hDz'; (try dsimp only at Nz'); (try k_sweep))
  k_with "L:setAttr ref" => (k_here; k_dflt (refine' setattr0 (by k_asm) (by k_asm) (by k_asm) (by k_updF) (by k_is) (by decide +kernel) (by walk_at "m passes") (by k_is) (by k_is) ?_; k_whole); intro Dz' oDz' hz' tkz' Fz' Nz' hDz' l1; (have l2 := l1); (try k_lt l2); (try dsimp only at Nz'); (try k_sweep))
  trivial
theorem tail77 : ExTail [.ref 38, .type "Exception", .type "BaseException", .type "object"] := ⟨by decide +kernel, by decide +kernel, by decide +kernel, by decide +kernel⟩
theorem tail96 : ExTail [.type "Exception", .type "BaseException", .type "object"] := ⟨by decide +kernel, by decide +kernel, by decide +kernel, by decide +kernel⟩
theorem news_up2 {h₀ h : Heap} {L : Addr} {a b x : Addr × Obj} {r : List (Addr × Obj)} (N : News h₀ L h (a :: b :: x :: r)) : News h₀ L h (x :: a :: b :: r) := fun q hq => N q (by
  simp only [List.mem_cons] at hq ⊢
  rcases hq with h | h | h | h
  · exact Or.inr (Or.inr (Or.inl h))
  · exact Or.inl h
  · exact Or.inr (Or.inl h)
  · exact Or.inr (Or.inr (Or.inr h)))
theorem ne_l1 {ns : List (Addr × Obj)} {x e : Addr} {o : Obj} (l1 : ∀ q ∈ ns, q.1 < x) (h : (e, o) ∈ ns) : x ≠ e := Nat.ne_of_gt (l1 _ h)
theorem news_up1 {h₀ h : Heap} {L : Addr} {a x : Addr × Obj} {r : List (Addr × Obj)} (N : News h₀ L h (a :: x :: r)) : News h₀ L h (x :: a :: r) := fun q hq => N q (by
  simp only [List.mem_cons] at hq ⊢
  rcases hq with h | h | h
  · exact Or.inr (Or.inl h)
  · exact Or.inl h
  · exact Or.inr (Or.inr h))
section
variable {w : World} {p : Program} {loose : List Str} {mean : ExcName → Option Value} {mg mb : Str → Option Value} {dp un : Nat} {gd : Option (List Code)} {cn : Str} {cs : Scope} {L a : Addr} {ccd : Value} {cl : List (Str × Addr)} {outer : List Env} {A₀ : Around} {base h₀ : Heap} {m : Str → Option Value} {news : List (Addr × Obj)} {s : Shared} {Q E : Value → Shared → Prop}
set_option maxHeartbeats 8000000 in
theorem wrong_kind_t {v1 v2 v3 : Value} (B : Below A₀ base outer h₀) (F : Fr h₀ L s.heap m) (X : (hd.heap_39 w.params).In h₀) (N : News h₀ L s.heap news) (T : Top p loose mean mg mb h₀) (hk : cs.kind = .function) (hd1 : dp + 40 < recursionLimit) (hu1 : un + 300 < cLine)
    (hret : ∀ e D t il c oD mA kept h' tk', Fr h₀ L h' m → News h₀ L h' ((e, exO 77 D #[.ref t, .none, .none, .none, .bool false, .none] #[]) :: kept) → (∀ q ∈ kept, q.1 ≠ e) → (∀ q ∈ news, q ∈ kept) → (D, oD) ∈ kept → (il, listOf [v1, v2, v3].toArray c) ∈ kept →
      DObj oD mA → mA "irritants" = some (.ref il) → Q (.ref e) { s with heap := h', toks := tk' }) : wpAny (model PySem.Challenge.rw_on0295_01.row.prog w) (ktrTop dp un gd cn cs L a ccd cl outer) (call (.ref 77) [v1, v2, v3]) Q E s := by
  k_dflt (refine' exc_call_K F X N ?k1 ?k2 ?k3 ?k4 ?k5 ?_; (case k1 => k_is); (case k2 => k_is); (case k3 => k_is); (case k4 => exact tail77); (case k5 => exact Nat.le_of_ble_eq_true rfl))
  intro h' e t F' N' n1 n2 n3
  clear F N
  k_fold
  walk_at "m enter"
  k_steps
  refine hret _ _ _ _ _ _ _ _ _ _ (by k_asm) (news_up2 (by assumption)) ?_ ?_ (.head _) (.tail _ (.head _)) (by assumption) rfl
  · intro q hq
    simp only [List.mem_cons] at hq
    rcases hq with rfl | rfl | rfl | hq <;> first | exact n1 _ hq | exact n3 | (dsimp only; exact ne_l1 (by assumption) (by first | exact .head _ | exact .tail _ (.head _) | exact .tail _ (.tail _ (.head _))))
  · intro q hq
    exact .tail _ (.tail _ (.tail _ hq))
set_option maxHeartbeats 8000000 in
theorem wrong_arity_t {v1 v2 : Value} (B : Below A₀ base outer h₀) (F : Fr h₀ L s.heap m) (X : (hd.heap_39 w.params).In h₀) (N : News h₀ L s.heap news) (T : Top p loose mean mg mb h₀) (hk : cs.kind = .function) (hd1 : dp + 40 < recursionLimit) (hu1 : un + 300 < cLine)
    (hret : ∀ e D t il c oD mA kept h' tk', Fr h₀ L h' m → News h₀ L h' ((e, exO 58 D #[.ref t, .none, .none, .none, .bool false, .none] #[]) :: kept) → (∀ q ∈ kept, q.1 ≠ e) → (∀ q ∈ news, q ∈ kept) → (D, oD) ∈ kept → (il, listOf [v1, v2].toArray c) ∈ kept →
      DObj oD mA → mA "irritants" = some (.ref il) → Q (.ref e) { s with heap := h', toks := tk' }) : wpAny (model PySem.Challenge.rw_on0295_01.row.prog w) (ktrTop dp un gd cn cs L a ccd cl outer) (call (.ref 58) [v1, v2]) Q E s := by
  k_dflt (refine' exc_call_K F X N ?k1 ?k2 ?k3 ?k4 ?k5 ?_; (case k1 => k_is); (case k2 => k_is); (case k3 => k_is); (case k4 => exact tail77); (case k5 => exact Nat.le_of_ble_eq_true rfl))
  intro h' e t F' N' n1 n2 n3
  clear F N
  k_fold
  walk_at "m enter"
  k_steps
  refine hret _ _ _ _ _ _ _ _ _ _ (by k_asm) (news_up2 (by assumption)) ?_ ?_ (.head _) (.tail _ (.head _)) (by assumption) rfl
  · intro q hq
    simp only [List.mem_cons] at hq
    rcases hq with rfl | rfl | rfl | hq <;> first | exact n1 _ hq | exact n3 | (dsimp only; exact ne_l1 (by assumption) (by first | exact .head _ | exact .tail _ (.head _) | exact .tail _ (.tail _ (.head _))))
  · intro q hq
    exact .tail _ (.tail _ (.tail _ hq))
set_option maxHeartbeats 8000000 in
theorem fault_t {v1 : Value} (B : Below A₀ base outer h₀) (F : Fr h₀ L s.heap m) (X : (hd.heap_39 w.params).In h₀) (N : News h₀ L s.heap news) (T : Top p loose mean mg mb h₀) (hk : cs.kind = .function) (hd1 : dp + 40 < recursionLimit) (hu1 : un + 300 < cLine)
    (hret : ∀ e D t oD mA kept h' tk', Fr h₀ L h' m → News h₀ L h' ((e, exO 96 D #[.ref t, .none, .none, .none, .bool false, .none] #[]) :: kept) → (∀ q ∈ kept, q.1 ≠ e) → (∀ q ∈ news, q ∈ kept) → (D, oD) ∈ kept → 
      DObj oD mA → Q (.ref e) { s with heap := h', toks := tk' }) : wpAny (model PySem.Challenge.rw_on0295_01.row.prog w) (ktrTop dp un gd cn cs L a ccd cl outer) (call (.ref 96) [v1]) Q E s := by
  k_dflt (refine' exc_call_K F X N ?k1 ?k2 ?k3 ?k4 ?k5 ?_; (case k1 => k_is); (case k2 => k_is); (case k3 => k_is); (case k4 => exact tail96); (case k5 => exact Nat.le_of_ble_eq_true rfl))
  intro h' e t F' N' n1 n2 n3
  clear F N
  k_fold
  walk_at "m enter"
  k_steps
  refine hret _ _ _ _ _ _ _ _ (by k_asm) (news_up1 (by assumption)) ?_ ?_ (.head _) (by assumption)
  · intro q hq
    simp only [List.mem_cons] at hq
    rcases hq with rfl | rfl | hq <;> first | exact n1 _ hq | exact n3 | (dsimp only; exact ne_l1 (by assumption) (by first | exact .head _ | exact .tail _ (.head _) | exact .tail _ (.tail _ (.head _))))
  · intro q hq
    exact .tail _ (.tail _ hq)
end
/-! raising an own exception that was made with attributes; leaving a frame with it; which clause matches -/
def raiseRest (v : Value) : Sem Flow := do
  let e ← holding [] (excFromValue v "exceptions must derive from BaseException")
  let e ← if ← isType v then holding [e] (raisedFor v e) else raisedInstance e
  setFlight e none
  raiseNew e
section
variable {M : Model} {A : Around} {E : Value → Shared → Prop} {s : Shared} {env : Env} {Q : Flow → Shared → Prop}
theorem raise_open {x : Expr} {pos : Pos} (h : wpAny M A (eval x env) (fun v s₁ => wpAny M A (raiseRest v) Q E s₁) E s) : wpAny M A (exec (.Raise (some x) none pos) env) Q E s := by
  show wpAny M A (do standAt pos; raiseStmt env (some (do let v ← eval x env; standAt pos; pure v)) none) Q E s
  refine wpAny_bind (wpAny_standAt ?_)
  unfold raiseStmt
  dsimp only
  refine wpAny_bind (wpAny_bind (wpAny_mono h (fun v s₁ h₁ => wpAny_bind (wpAny_standAt (wpAny_pure ?_))) fun _ _ x => x))
  refine wpAny_bind (wpAny_pure ?_)
  unfold raiseRest at h₁
  exact h₁
end
section
variable {M : Model} {A : Around} {E : Value → Shared → Prop} {h : Heap} {g : Array GenState} {d : Drawn} {tk : Nat} {os : OsState} {Q : Flow → Shared → Prop}
variable {nm q nm' q' : Str} {C N D e C' N' : Addr} {bs bm bs' bm' : List Value} {sn sn' : List Str} {sub sub' : List Value} {ab ab' : Bool} {col col' : Option Bool} {dd dd' : Option Addr} {k0 k1 k2 k3 k5 k0' k1' k2' k3' k5' : Option Value} {hdct hdct' : Bool} {newId newId' : String} {vs : Array Value} {sl : Array (Option Value)}
theorem raiseRest_d (hC : h.get? C = some (excClassObj nm q C N bs bm hdct sn sub ab col dd k0 k1 k2 k3 k5 newId)) (hbase : bm.contains (.type "BaseException") = true)
    (he : h.get? e = some (exO C D vs sl)) (h1 : vs[1]? = some .none) (hh : A.handled = none) (hE : E (.ref e) ⟨h, g, d, tk, os⟩) : wpAny M A (raiseRest (.ref e)) Q E ⟨h, g, d, tk, os⟩ := by
  have hcB : (Value.ref C :: bm).contains (.type "BaseException") = true := by rw [List.contains_cons, hbase, Bool.or_true]
  obtain ⟨o, he, hc, hd⟩ : ∃ o : Obj, h.get? e = some o ∧ o.cls = .ref C ∧ o.data = .fields vs := ⟨_, he, rfl, rfl⟩
  unfold raiseRest
  repeat (first | with_reducible refine wpAny_field he hd h1 ?_ | (with_reducible refine wpAny_loadPart_at he ?_; first | rw [hc] | rw [hd]) | with_reducible refine wpAny_loadPart_at hC ?_ | (with_reducible refine wpAny_isSubtype_exc hC ?_; rw [hcB]) | wp_step)
  exact wpAny_raiseNew_none hh hE
/-- does the class of a clause, an own class, match? -/
theorem excMatches_d {Q : Bool → Shared → Prop} {b : Bool} (hC : h.get? C = some (excClassObj nm q C N bs bm hdct sn sub ab col dd k0 k1 k2 k3 k5 newId))
    (hC' : h.get? C' = some (excClassObj nm' q' C' N' bs' bm' hdct' sn' sub' ab' col' dd' k0' k1' k2' k3' k5' newId')) (hbase : bm'.contains (.type "BaseException") = true)
    (he : h.get? e = some (exO C D vs sl)) (hb : (Value.ref C :: bm).contains (.ref C') = b) (hq : Q b ⟨h, g, d, tk, os⟩) : wpAny M A (excMatches (.ref e) (.ref C')) Q E ⟨h, g, d, tk, os⟩ := by
  have hcB : (Value.ref C' :: bm').contains (.type "BaseException") = true := by rw [List.contains_cons, hbase, Bool.or_true]
  obtain ⟨o, he, hc⟩ : ∃ o : Obj, h.get? e = some o ∧ o.cls = .ref C := ⟨_, he, rfl⟩
  have f := tc_notTuple
  unfold excMatches
  repeat (first | (with_reducible refine wpAny_loadPart_at he ?_; rw [hc]) | with_reducible refine wpAny_loadPart_at hC' ?_ | (with_reducible refine wpAny_isSubtype_exc hC' ?_; rw [hcB]) | (with_reducible refine wpAny_isSubtype_exc hC ?_; rw [hb]) | wp_step)
  cases b <;> (wp_walk; exact hq)
end
def RaisedD (base : Heap) (l : List Env) (e C D : Addr) (kept : List (Addr × Obj)) (h : Heap) : Prop :=
  ∃ B, base.StaysIn B ∧ (∀ q ∈ kept, B.get? q.1 = some q.2 ∧ base.get? q.1 = none) ∧ Fl B l e C D .none h
section
variable {M : Model} {A : Around} {E : Value → Shared → Prop} {s' : Shared} {base g g₂ h : Heap} {outer : List Env} {L a e C D : Addr} {m : Str → Option Value} {name : Str} {scope : Scope} {cd : Value} {Q : Unit → Shared → Prop} {kept : List (Addr × Obj)} {vs : Array Value} {sl : Array (Option Value)}
theorem leaveD_first (K : Below A base outer g) (F : Fr g L s'.heap m) (N : News g L s'.heap ((e, exO C D vs sl) :: kept)) (hne : ∀ q ∈ kept, q.1 ≠ e) (h1 : vs[1]? = some .none)
    (hQ : ∀ h', RaisedD base outer e C D kept h' → g.UpToSlots h' → Q () { s' with heap := h' }) (hk : scope.kind = .function := by rfl) :
    wpAny M (A.deeper (envOf name scope L a cd)) (leaving (envOf name scope L a cd) (.ref e)) Q E s' := by
  have K' := K.push (name := name) (a := a) (cd := cd) F hk
  have hin : ∀ env ∈ (envOf name scope L a cd :: outer), ∀ b, env.frame = some b → b ∈ e :: (envOf name scope L a cd :: outer).filterMap (·.frame) := fun env he b hb => .tail _ (List.mem_filterMap.mpr ⟨env, he, hb⟩)
  have ne : base.get? e = none := fresh_of_stays K.stays (N _ (.head _)).2.2
  have st : base.StaysIn (hideAll s'.heap (e :: (envOf name scope L a cd :: outer).filterMap (·.frame))) := fun b o q => hideAll_get _ (K'.stays b o q) fun hm => by
    rcases List.mem_cons.mp hm with rfl | hm
    · rw [ne] at q; cases q
    · rw [(K'.frames.mem hm).1] at q; cases q
  have hl : ∀ q ∈ kept, (hideAll s'.heap (e :: (envOf name scope L a cd :: outer).filterMap (·.frame))).get? q.1 = some q.2 ∧ base.get? q.1 = none := fun q hq => by
    have hq' := N q (.tail _ hq)
    refine ⟨hideAll_get _ hq'.1 fun hm => ?_, fresh_of_stays K.stays hq'.2.2⟩
    rcases List.mem_cons.mp hm with z | hm
    · exact hne q hq z
    obtain ⟨env, he, hf⟩ := List.mem_filterMap.mp hm
    rcases List.mem_cons.mp he with rfl | he
    · exact hq'.2.1 (Option.some.inj hf).symm
    · obtain ⟨o, ho, _⟩ := (K.frames.mem (List.mem_filterMap.mpr ⟨env, he, hf⟩)).2
      rw [hq'.2.2] at ho; cases ho
  unfold leaving
  refine wpAny_bind (note_first K'.stack rfl (N _ (.head _)).1 h1 (B := hideAll s'.heap (e :: (envOf name scope L a cd :: outer).filterMap (·.frame))) (fun b o q => of_hideAll _ q) (hideAll_none _ (.head _)) (funFrames_hide K'.frames hin) fun h₁ x u => ?_)
  refine setFlight_d (s := { s' with heap := h₁ }) x fun h₂ y u' => hQ h₂ ⟨_, st, hl, y.tail⟩ ?_
  exact ((Heap.UpToSlots.of_keeps F.keep).trans u).trans u'
theorem leaveD_next (K : Below A base outer g) (F : Fr g L g₂ m) (R : RaisedD base (envOf name scope L a cd :: outer) e C D kept s'.heap) (hsm : g₂.UpToSlots s'.heap)
    (hQ : ∀ h', RaisedD base outer e C D kept h' → g.UpToSlots h' → Q () { s' with heap := h' }) :
    wpAny M (A.deeper (envOf name scope L a cd)) (leaving (envOf name scope L a cd) (.ref e)) Q E s' := by
  obtain ⟨B, hB, hl, x⟩ := R
  unfold leaving
  refine wpAny_bind (note_next (Around.frames_deeper K.stack) rfl x fun h₁ x u => ?_)
  refine setFlight_d (s := { s' with heap := h₁ }) x fun h₂ y u' => hQ h₂ ⟨B, hB, hl, y.tail⟩ ?_
  exact (((Heap.UpToSlots.of_keeps F.keep).trans hsm).trans u).trans u'
end
/-- an own exception with irritants flies: seen from the caller's ground -/
def ExG (base : Heap) (l : List Env) (h₀ : Heap) (L : Addr) (m : Str → Option Value) (news : List (Addr × Obj)) (C e : Addr) (P : Addr → List (Addr × Obj) → Prop) (h' : Heap) : Prop :=
  ∃ D kept g', RaisedD base l e C D kept h' ∧ Fr h₀ L g' m ∧ g'.UpToSlots h' ∧ (∀ q ∈ news, q ∈ kept) ∧ P D kept
def Irr (args : List Value) (D : Addr) (kept : List (Addr × Obj)) : Prop := ∃ oD mA il c, (D, oD) ∈ kept ∧ (il, listOf args.toArray c) ∈ kept ∧ DObj oD mA ∧ mA "irritants" = some (.ref il)
abbrev ExW (base : Heap) (l : List Env) (h₀ : Heap) (L : Addr) (m : Str → Option Value) (news : List (Addr × Obj)) (C e : Addr) (args : List Value) (h' : Heap) : Prop := ExG base l h₀ L m news C e (Irr args) h'
abbrev ExF (base : Heap) (l : List Env) (h₀ : Heap) (L : Addr) (m : Str → Option Value) (news : List (Addr × Obj)) (C e : Addr) (h' : Heap) : Prop := ExG base l h₀ L m news C e (fun _ _ => True) h'
section
variable {prog : Program} {w : World} {M : Model} {A : Around} {E : Value → Shared → Prop} {s s' : Shared} {base h₀ g g₂ h : Heap} {outer : List Env} {L L₀ a e C D il : Addr} {m m₀ : Str → Option Value} {name : Str} {scope : Scope} {cd : Value} {Q : Unit → Shared → Prop} {kept news : List (Addr × Obj)} {vs : Array Value} {sl : Array (Option Value)} {oD : Obj} {mA : Str → Option Value} {c : Nat} {args : List Value} {K : Frag}
theorem leaveX_first {hq : Heap} (K : Below A base outer g) (F : Fr g L s'.heap m) (N : News g L s'.heap ((e, exO C D vs sl) :: kept)) (FG : Fr h₀ L₀ g m₀) (N0 : News h₀ L₀ hq news) (hne : ∀ q ∈ kept, q.1 ≠ e) (h1 : vs[1]? = some .none)
    (hs : ∀ q ∈ news, q ∈ kept) (hD : (D, oD) ∈ kept) (hil : (il, listOf args.toArray c) ∈ kept) (hdo : DObj oD mA) (hmA : mA "irritants" = some (.ref il))
    (hQ : ∀ h', ExW base outer h₀ L₀ m₀ news C e args h' → Q () { s' with heap := h' }) (hk : scope.kind = .function := by rfl) :
    wpAny M (A.deeper (envOf name scope L a cd)) (leaving (envOf name scope L a cd) (.ref e)) Q E s' :=
  leaveD_first K F N hne h1 (fun h' R u => hQ h' ⟨D, kept, g, R, FG, u, hs, oD, mA, il, c, hD, hil, hdo, hmA⟩) hk
theorem leaveF_first {hq : Heap} (K : Below A base outer g) (F : Fr g L s'.heap m) (N : News g L s'.heap ((e, exO C D vs sl) :: kept)) (FG : Fr h₀ L₀ g m₀) (N0 : News h₀ L₀ hq news) (hne : ∀ q ∈ kept, q.1 ≠ e) (h1 : vs[1]? = some .none)
    (hs : ∀ q ∈ news, q ∈ kept) (hQ : ∀ h', ExF base outer h₀ L₀ m₀ news C e h' → Q () { s' with heap := h' }) (hk : scope.kind = .function := by rfl) :
    wpAny M (A.deeper (envOf name scope L a cd)) (leaving (envOf name scope L a cd) (.ref e)) Q E s' :=
  leaveD_first K F N hne h1 (fun h' R u => hQ h' ⟨D, kept, g, R, FG, u, hs, trivial⟩) hk
theorem leaveX_next {hq : Heap} {n1 : List (Addr × Obj)} {P : Addr → List (Addr × Obj) → Prop} (K : Below A base outer g) (FG : Fr h₀ L₀ g m₀) (N0 : News h₀ L₀ hq news) (x : ExG base (envOf name scope L a cd :: outer) g L m n1 C e P s'.heap) (hsub : ∀ q ∈ news, q ∈ n1)
    (hQ : ∀ h', ExG base outer h₀ L₀ m₀ news C e P h' → Q () { s' with heap := h' }) :
    wpAny M (A.deeper (envOf name scope L a cd)) (leaving (envOf name scope L a cd) (.ref e)) Q E s' := by
  obtain ⟨D, kept, g', R, F, u, hs, r⟩ := x
  exact leaveD_next K F R u fun h' R' u' => hQ h' ⟨D, kept, g, R', FG, u', fun q hq => hs q (hsub q hq), r⟩
variable {nm q : Str} {N' : Addr} {bs bm : List Value} {sn : List Str} {sub : List Value} {ab : Bool} {col : Option Bool} {dd : Option Addr} {k0 k1 k2 k3 k5 : Option Value} {hdct : Bool} {newId : String} {Q' : Flow → Shared → Prop}
theorem raiseRest_K (F : Fr h₀ L s.heap m) (X : K.In h₀) (N : News h₀ L s.heap news) (he : (e, exO C D vs sl) ∈ news) (hK : K.lookup C = some (excClassObj nm q C N' bs bm hdct sn sub ab col dd k0 k1 k2 k3 k5 newId)) (hbase : bm.contains (.type "BaseException") = true)
    (h1 : vs[1]? = some .none) (hh : A.handled = none) (hE : E (.ref e) s) : wpAny (model prog w) A (raiseRest (.ref e)) Q' E s := by
  obtain ⟨hp, g, d, tk, os⟩ := s
  exact raiseRest_d ((X.keeps F.keep) _ _ hK) hbase (N _ he).1 h1 hh hE
end
theorem unrEnd_m {h₀ : Heap} {L I : Addr} {it : Obj} {rest : (Str → Option Value) → List (Addr × Obj) → Prop} {s₁ : Shared} {h' : Heap} {tk : Nat} {m' : Str → Option Value} {ns : List (Addr × Obj)} (F : Fr h₀ L h' m') (N : News h₀ L h' ((I, it) :: ns))
    (l1 : ∀ p ∈ ns, p.1 < I) (r : rest m' ns) : UnrEnd h₀ L s₁ I it rest { s₁ with heap := h', toks := tk } := UnrEnd.intro F N ns (fun _ hp => hp) (fun p hp => Nat.ne_of_lt (l1 p hp)) r
theorem sub_tail {α : Type} {a : α} {n k : List α} (h : ∀ q ∈ a :: n, q ∈ k) : ∀ q ∈ n, q ∈ k := fun q hq => h q (.tail _ hq)
theorem news_tl {h₀ h : Heap} {L : Addr} {a : Addr × Obj} {r : List (Addr × Obj)} (N : News h₀ L h (a :: r)) : News h₀ L h r := fun q hq => N q (.tail _ hq)
def rowName (op : Int) : Str := (["add", "subtract", "less", "same", "cons", "car", "cdr", "set-car", "set-cdr", "make-box", "open-box", "fill-box"] : List Str).getD op.toNat ""
def rowMany (op : Int) : Int := [2, 2, 2, 2, 2, 1, 1, 2, 2, 1, 1, 2].getD op.toNat 0
abbrev rowVals (op : Int) : List Value := [.str (rowName op) (437 + 2 * op.toNat), .int (rowMany op) (438 + 2 * op.toNat)]
theorem op_cases {op : Int} (h0 : 0 ≤ op) (h1 : op < 12) : op = 0 ∨ op = 1 ∨ op = 2 ∨ op = 3 ∨ op = 4 ∨ op = 5 ∨ op = 6 ∨ op = 7 ∨ op = 8 ∨ op = 9 ∨ op = 10 ∨ op = 11 := by
  have h : ∀ n : Fin 12, ((n.val : Nat) : Int) = 0 ∨ ((n.val : Nat) : Int) = 1 ∨ ((n.val : Nat) : Int) = 2 ∨ ((n.val : Nat) : Int) = 3 ∨ ((n.val : Nat) : Int) = 4 ∨ ((n.val : Nat) : Int) = 5 ∨ ((n.val : Nat) : Int) = 6 ∨ ((n.val : Nat) : Int) = 7 ∨ ((n.val : Nat) : Int) = 8 ∨ ((n.val : Nat) : Int) = 9 ∨ ((n.val : Nat) : Int) = 10 ∨ ((n.val : Nat) : Int) = 11 := by decide
  have h2 : op.toNat < 12 := (Int.toNat_lt h0).mpr h1
  have e : ((op.toNat : Nat) : Int) = op := Int.toNat_of_nonneg h0
  have := h ⟨op.toNat, h2⟩
  rw [e] at this
  exact this
theorem row_tup {w : World} {h : Heap} (X : (hd.heap_39 w.params).In h) {op : Int} (h0 : 0 ≤ op) (h1 : op < 12) : IsTup h (170 + op.toNat) (rowVals op).toArray := by
  rcases op_cases h0 h1 with rfl | rfl | rfl | rfl | rfl | rfl | rfl | rfl | rfl | rfl | rfl | rfl
  all_goals exact tupK X (by k_is)
section
variable {w : World} {prog : Program} {A : Around} {E : Value → Shared → Prop} {s : Shared} {h₀ : Heap} {L : Addr} {m : Str → Option Value} {news : List (Addr × Obj)} {env : Env}
theorem row_item {value slice : PySem.Expr} {Q : Value → Shared → Prop} {op : Int} {u : Tok} (F : Fr h₀ L s.heap m) (X : (hd.heap_39 w.params).In h₀) (h0 : 0 ≤ op) (h1 : op < 12) (h : Q (.ref (170 + op.toNat)) s)
    (hs : subscripted slice false (.ref 182) (.int op u) = operate [.ref 182, .int op u] (getItem (.ref 182) (.int op u)) := by with_unfolding_all rfl) :
    wpAny (model prog w) A (subscriptTail value slice (.ref 182) (.int op u)) Q E s := by
  have ht : IsTup s.heap 182 ((List.range 12).map fun i => Value.ref (170 + i)).toArray := tupK (X.keeps F.keep) (by k_is)
  refine tail_any ht.typeIs PySem.F.slot_tuple_getitem.lookup (getItem_tuple ht (by omega) (by omega) (seqIndex_of h0 (by simpa using h1)) (x := .ref (170 + op.toNat)) ?_ h) hs
  have : op.toNat < 12 := by omega
  simp [this]
theorem row_name {value slice : PySem.Expr} {Q : Value → Shared → Prop} {op : Int} {u : Tok} (F : Fr h₀ L s.heap m) (X : (hd.heap_39 w.params).In h₀) (h0 : 0 ≤ op) (h1 : op < 12) (h : Q (.str (rowName op) (437 + 2 * op.toNat)) s)
    (hs : subscripted slice false (.ref (170 + op.toNat)) (.int 0 u) = operate [.ref (170 + op.toNat), .int 0 u] (getItem (.ref (170 + op.toNat)) (.int 0 u)) := by with_unfolding_all rfl) :
    wpAny (model prog w) A (subscriptTail value slice (.ref (170 + op.toNat)) (.int 0 u)) Q E s := by
  have ht := row_tup (X.keeps F.keep) h0 h1
  exact tail_any ht.typeIs PySem.F.slot_tuple_getitem.lookup (getItem_tuple ht (by omega) (by omega) (seqIndex_of (by omega) (by simp)) (x := .str (rowName op) (437 + 2 * op.toNat)) rfl h) hs
theorem row_unpack {elts : List PySem.Expr} {k} {pos : Pos} {op : Int} {Q : Unit → Shared → Prop} (F : Fr h₀ L s.heap m) (X : (hd.heap_39 w.params).In h₀) (N : News h₀ L s.heap news) (h0 : 0 ≤ op) (h1 : op < 12)
    (hh : A.handled = none) (hn : (assignEach elts env).length = 2) (hstar : (assignEach elts env).findIdx? (·.1) = none)
    (h : ∀ h', Fr h₀ L h' m → News h₀ L h' news → wpAny (model prog w) A (assignInOrder ((assignEach elts env).map (·.2)) (rowVals op)) Q E { s with heap := h' }) :
    wpAny (model prog w) A (assign (.Tuple elts k pos) env (.ref (170 + op.toNat))) Q E s :=
  unpackN_ F N (row_tup (X.keeps F.keep) h0 h1) hh hn hstar h
end
theorem rowMany_2 {op : Int} (h0 : 0 ≤ op) (h : op ≤ 4) : rowMany op = 2 := by
  rcases op_lt5 h0 (Int.lt_of_le_of_lt h (by decide)) with rfl | rfl | rfl | rfl | rfl
  all_goals rfl
def isBlk (op : Int) : Prop := 5 ≤ op ∧ op < 12 ∧ op ≠ 9
theorem isBlk_of {op : Int} (a : 5 ≤ op) (b : op < 12) (c : op ≠ 9) : isBlk op := ⟨a, b, c⟩
def isGet (op : Int) : Bool := op == 5 || op == 6 || op == 10
def kdOf (op : Int) : Int := if op < 9 then 0 else 4
def hdOf (op : Int) : Int := if op < 9 then 261 else 165
def atOf (op : Int) : Int := if op = 6 ∨ op = 8 then 1 else 0
def reckRes (op w0 w1 : Int) : Int := if op = 2 then (if w0.fdiv 8 < w1.fdiv 8 then 12 else 4) else if op = 0 then (w0.fdiv 8 + w1.fdiv 8) * 8 else (w0.fdiv 8 - w1.fdiv 8) * 8
theorem reck2 {op w0 w1 : Int} (h : op = 2) : reckRes op w0 w1 = (if w0.fdiv 8 < w1.fdiv 8 then 12 else 4) := if_pos h
theorem reck0 {op w0 w1 : Int} (h : ¬ op = 2) (h' : op = 0) : reckRes op w0 w1 = (w0.fdiv 8 + w1.fdiv 8) * 8 := by unfold reckRes; rw [if_neg h, if_pos h']
theorem reck1 {op w0 w1 : Int} (h : ¬ op = 2) (h' : ¬ op = 0) : reckRes op w0 w1 = (w0.fdiv 8 - w1.fdiv 8) * 8 := by unfold reckRes; rw [if_neg h, if_neg h']
theorem ln_B10_1 : True := by
  k_with "L:call ref" => (k_here; (with_reducible show wpAny _ _ (call (Value.ref 77) _ _) _ _ _); k_dflt (refine' wrong_kind_t (by k_asm) (by k_asm) (by k_asm) (by k_asm) (by k_asm) (by first | exact rfl | assumption) (by ktr_room) (by ktr_units) ?_; k_whole); intro ez' Dz' tz' ilz' cz' oDz' mAz' keptz' hz' tkz' Fz' Nz' hnz' hsz' hDz' hilz' hdoz' hmAz'; (try dsimp only); (try k_sweep))
  k_with "L:call ref" => (k_here; (with_reducible show wpAny _ _ (call (Value.ref 58) _ _) _ _ _); k_dflt (refine' wrong_arity_t (by k_asm) (by k_asm) (by k_asm) (by k_asm) (by k_asm) (by first | exact rfl | assumption) (by ktr_room) (by ktr_units) ?_; k_whole); intro ez' Dz' tz' ilz' cz' oDz' mAz' keptz' hz' tkz' Fz' Nz' hnz' hsz' hDz' hilz' hdoz' hmAz'; (try dsimp only); (try k_sweep))
  k_with "L:call ref" => (k_here; (with_reducible show wpAny _ _ (call (Value.ref 96) _ _) _ _ _); k_dflt (refine' fault_t (by k_asm) (by k_asm) (by k_asm) (by k_asm) (by k_asm) (by first | exact rfl | assumption) (by ktr_room) (by ktr_units) ?_; k_whole); intro ez' Dz' tz' oDz' mAz' keptz' hz' tkz' Fz' Nz' hnz' hsz' hDz' hdoz'; (try dsimp only); (try k_sweep))
  k_with "L:exec Raise some none" => (refine raise_open ?_)
  k_with "L:raiseRest ref" => (k_here; k_dflt (refine' raiseRest_K (by k_asm) (by k_asm) (by k_asm) (by exact List.Mem.head _) (by k_is) (by decide +kernel) (by exact rfl) (by exact rfl) ?_; k_whole))
  k_with "L:leaving ref" => (k_here; k_dflt (refine' leaveF_first (by k_asm) (by k_asm) (by k_asm) (by k_asm) (by assumption) (by assumption) (by exact rfl) (by first | assumption | exact sub_tail (by assumption) | exact sub_tail (sub_tail (by assumption)) | exact sub_tail (sub_tail (sub_tail (by assumption)))) ?_ (by exact rfl); k_whole); intro hz' xz')
  k_with "L:leaving ref" => (k_here; k_dflt (refine' leaveX_first (by k_asm) (by k_asm) (by k_asm) (by k_asm) (by assumption) (by assumption) (by exact rfl) (by first | assumption | exact sub_tail (by assumption) | exact sub_tail (sub_tail (by assumption)) | exact sub_tail (sub_tail (sub_tail (by assumption)))) (by assumption) (by assumption) (by assumption) (by assumption) ?_ (by exact rfl); k_whole); intro hz' xz')
  k_with "L:leaving ref" => (k_here; k_dflt (refine' leaveX_next (by k_asm) (by k_asm) (by assumption) (by assumption) (by first | exact fun _ h => h | exact fun _ h => List.Mem.tail _ h | exact fun _ h => List.Mem.tail _ (List.Mem.tail _ h)) ?_; k_whole); intro hz' xz')
  k_with "L:UnrEnd" => (k_dflt (refine' unrEnd_m (by assumption) (by assumption) (by assumption) ?_; k_whole))
  k_with "L:m news" => (first | k_asm | assumption | exact news_tl (by assumption) | exact news_tl (news_tl (by assumption)) | exact news_tl (news_tl (news_tl (by assumption))))
  k_with "L:subscriptTail" => (k_here; (with_reducible show wpAny _ _ (subscriptTail _ _ (Value.ref 182) (Value.int _ _)) _ _ _); k_dflt (refine' row_item (by k_asm) (by k_asm) (by omega) (by omega) ?_ (by with_unfolding_all rfl); k_whole))
  k_with "L:subscriptTail" => (k_here; (with_reducible show wpAny _ _ (subscriptTail _ _ (Value.ref (170 + Int.toNat _)) (Value.int 0 _)) _ _ _); k_dflt (refine' row_name (by k_asm) (by k_asm) (by omega) (by omega) ?_ (by with_unfolding_all rfl); k_whole))
  trivial
section
variable {w : World} {p : Program} {loose : List Str} {mean : ExcName → Option Value} {mg mb : Str → Option Value} {dp un : Nat} {gd : Option (List Code)} {cn : Str} {cs : Scope} {L a : Addr} {ccd : Value} {cl : List (Str × Addr)} {outer : List Env} {A₀ : Around} {base h₀ : Heap} {m : Str → Option Value} {news : List (Addr × Obj)} {s : Shared} {Q E : Value → Shared → Prop}
set_option maxHeartbeats 8000000 in
theorem reckon_s {lib wl : Addr} {t t0 t1 : Tok} {op w0 w1 : Int} {c : Nat} {ws : List Value} (B : Below A₀ base outer h₀) (F : Fr h₀ L s.heap m) (X : (hd.heap_39 w.params).In h₀) (N : News h₀ L s.heap news) (T : Top p loose mean mg mb h₀) (hk : cs.kind = .function) (hd1 : dp + 80 < recursionLimit) (hu1 : un + 500 < cLine) (ho : 0 ≤ op) (ho' : op < 3) (hw : (wl, listOf ws.toArray c) ∈ news) (i0 : ws[0]? = some (Value.int w0 t0)) (i1 : ws[1]? = some (Value.int w1 t1))
    (hexc : ∀ e pl tn tp tw h' tk', ExW base (envX cn cs L a ccd cl :: outer) h₀ L m news 77 e [.str (rowName op) tn, .int pl tp, .int (if pl = 0 then w0 else w1) tw] h' → (pl = 0 ∧ w0.fmod 8 ≠ 0 ∨ pl = 1 ∧ w0.fmod 8 = 0 ∧ w1.fmod 8 ≠ 0) → E (.ref e) { s with heap := h', toks := tk' })
    (hret : ∀ t' h' tk', Fr h₀ L h' m → News h₀ L h' news → w0.fmod 8 = 0 → w1.fmod 8 = 0 → Q (.int (reckRes op w0 w1) t') { s with heap := h', toks := tk' }) : wpAny (model PySem.Challenge.rw_on0295_01.row.prog w) (ktrTop dp un gd cn cs L a ccd cl outer) (call (.ref 245) [.ref lib, .int op t, .ref wl]) Q E s := by
  walk_at "m enter"
  k_steps
  all_goals (try simp only [decide_eq_true_eq])
  all_goals first
    | exact hexc _ 0 _ _ _ _ _ (by assumption) (.inl ⟨rfl, by assumption⟩)
    | exact hexc _ 1 _ _ _ _ _ (by assumption) (.inr ⟨rfl, by assumption, by assumption⟩)
    | (rw [reck2 (by assumption)] at hret; exact hret _ _ _ (by k_asm) (by walk_at "m news") (by assumption) (by assumption))
    | (rw [reck0 (by assumption) (by assumption)] at hret; exact hret _ _ _ (by k_asm) (by walk_at "m news") (by assumption) (by assumption))
    | (rw [reck1 (by assumption) (by assumption)] at hret; exact hret _ _ _ (by k_asm) (by walk_at "m news") (by assumption) (by assumption))
end
theorem ln_B11_1 : True := by
  k_with "L:call ref" => (k_here; (with_reducible show wpAny _ _ (call (Value.ref 106) _ _) _ _ _); k_dflt (refine' payload_t (by k_asm) (by k_asm) (by k_asm) (by k_asm) (by k_asm) (by first | exact rfl | assumption) (by ktr_room) (by ktr_units) ?_; k_whole); intro tz' hz' tkz' Fz' Nz'; (try dsimp only); (try k_sweep))
  k_with "L:call ref" => (k_here; (with_reducible show wpAny _ _ (call (Value.ref 113) _ _) _ _ _); k_dflt (refine' fix_t (by k_asm) (by k_asm) (by k_asm) (by k_asm) (by k_asm) (by first | exact rfl | assumption) (by ktr_room) (by ktr_units) ?_; k_whole); intro tz' hz' tkz' Fz' Nz'; (try dsimp only); (try k_sweep))
  k_with "L:call ref" => (k_here; (with_reducible show wpAny _ _ (call (Value.ref 120) _ _) _ _ _); k_dflt (refine' ref_t (by k_asm) (by k_asm) (by k_asm) (by k_asm) (by k_asm) (by first | exact rfl | assumption) (by ktr_room) (by ktr_units) ?_; k_whole); intro tz' hz' tkz' Fz' Nz'; (try dsimp only); (try k_sweep))
  k_with "L:call ref" => (k_here; (with_reducible show wpAny _ _ (call (Value.ref 127) _ _) _ _ _); k_dflt (refine' bool_word_t (by k_asm) (by k_asm) (by k_asm) (by k_asm) (by k_asm) (by first | exact rfl | assumption) (by ktr_room) (by ktr_units) ?_; k_whole); intro tz' hz' tkz' Fz' Nz'; (try dsimp only); (try k_sweep))
  k_with "L:call ref" => (k_here; (with_reducible show wpAny _ _ (call (Value.ref 134) _ _) _ _ _); k_dflt (refine' header_word_t (by k_asm) (by k_asm) (by k_asm) (by k_asm) (by k_asm) (by first | exact rfl | assumption) (by ktr_room) (by ktr_units) ?_; k_whole); intro tz' hz' tkz' Fz' Nz'; (try dsimp only); (try k_sweep))
  k_with "L:call ref" => (k_here; (with_reducible show wpAny _ _ (call (Value.ref 141) _ _) _ _ _); k_dflt (refine' is_fix_t (by k_asm) (by k_asm) (by k_asm) (by k_asm) (by k_asm) (by first | exact rfl | assumption) (by ktr_room) (by ktr_units) ?_; k_whole); intro hz' tkz' Fz' Nz'; (try dsimp only); (try k_sweep))
  k_with "L:call ref" => (k_here; (with_reducible show wpAny _ _ (call (Value.ref 148) _ _) _ _ _); k_dflt (refine' is_ref_t (by k_asm) (by k_asm) (by k_asm) (by k_asm) (by k_asm) (by first | exact rfl | assumption) (by ktr_room) (by ktr_units) ?_; k_whole); intro hz' tkz' Fz' Nz'; (try dsimp only); (try k_sweep))
  k_with "L:call ref" => (k_here; (with_reducible show wpAny _ _ (call (Value.ref 155) _ _) _ _ _); k_dflt (refine' is_header_t (by k_asm) (by k_asm) (by k_asm) (by k_asm) (by k_asm) (by first | exact rfl | assumption) (by ktr_room) (by ktr_units) ?_; k_whole); intro hz' tkz' Fz' Nz'; (try dsimp only); (try k_sweep))
  k_with "L:call ref" => (k_here; (with_reducible show wpAny _ _ (call (Value.ref 162) _ _) _ _ _); k_dflt (refine' header_kind_t (by k_asm) (by k_asm) (by k_asm) (by k_asm) (by k_asm) (by first | exact rfl | assumption) (by ktr_room) (by ktr_units) ?_; k_whole); intro tz' hz' tkz' Fz' Nz'; (try dsimp only); (try k_sweep))
  k_with "L:call ref" => (k_here; (with_reducible show wpAny _ _ (call (Value.ref 169) _ _) _ _ _); k_dflt (refine' header_length_t (by k_asm) (by k_asm) (by k_asm) (by k_asm) (by k_asm) (by first | exact rfl | assumption) (by ktr_room) (by ktr_units) ?_; k_whole); intro tz' hz' tkz' Fz' Nz'; (try dsimp only); (try k_sweep))
  k_with "L:call ref" => (k_here; (with_reducible show wpAny _ _ (call (Value.ref 106) _ _) _ _ _); k_dflt (refine' payload_r (by k_asm) (by k_asm) (by k_asm) (by k_asm) (by k_asm) (by first | exact rfl | assumption) (by ktr_room) (by ktr_units) ?_; k_whole); intro tz' hz' tkz' Fz' Nz'; (try dsimp only); (try k_sweep))
  k_with "L:call ref" => (k_here; (with_reducible show wpAny _ _ (call (Value.ref 148) _ _) _ _ _); k_dflt (refine' is_ref_r (by k_asm) (by k_asm) (by k_asm) (by k_asm) (by k_asm) (by first | exact rfl | assumption) (by ktr_room) (by ktr_units) ?_; k_whole); intro hz' tkz' Fz' Nz'; (try dsimp only); (try k_sweep))
  k_with "L:call ref" => (k_here; (with_reducible show wpAny _ _ (call (Value.ref 155) _ _) _ _ _); k_dflt (refine' is_header_y (by k_asm) (by k_asm) (by k_asm) (by k_asm) (by k_asm) (by first | exact rfl | assumption) (by ktr_room) (by ktr_units) (by walk_at "m prem") ?_; k_whole); intro hz' tkz' Fz' Nz'; (try dsimp only); (try k_sweep))
  k_with "L:m sub" => (intro q hq hn; first | assumption | (refine (by assumption : ∀ q ∈ _, q.1 ≠ _ → q ∈ _) q ?_ hn; k_mem))
  k_with "L:m prem" => (first | assumption | exact rfl | k_mem | omega | exact (by assumption : 1 < _ → _ = some _) (by omega) | exact ne_of_l1 (by assumption) (by assumption) | ((simp only [List.length_append, List.length_cons, List.length_nil, List.length_set]); omega) | decide)
  k_with "L:call ref" => (k_here; (with_reducible show wpAny _ _ (call (Value.ref 280) _ _) _ _ _); k_dflt (refine' used_t (by k_asm) (by k_asm) (by k_asm) (by k_asm) (by k_asm) (by first | exact rfl | assumption) (by ktr_room) (by ktr_units) (by walk_at "m prem") (by walk_at "m prem") (by walk_at "m prem") (by walk_at "m prem") ?_; k_whole); intro tz' hz' tkz' Fz' Nz'; (try dsimp only); (try k_sweep))
  k_with "L:call ref" => (k_here; (with_reducible show wpAny _ _ (call (Value.ref 301) _ _) _ _ _); k_dflt (refine' header_at_t (by k_asm) (by k_asm) (by k_asm) (by k_asm) (by k_asm) (by first | exact rfl | assumption) (by ktr_room) (by ktr_units) (by walk_at "m prem") (by walk_at "m prem") (by walk_at "m prem") (by walk_at "m prem") (by walk_at "m prem") (by walk_at "m prem") ?_; k_whole); intro hz' tkz' Fz' Nz'; (try dsimp only); (try k_sweep))
  k_with "L:call ref" => (k_here; (with_reducible show wpAny _ _ (call (Value.ref 322) _ _) _ _ _); k_dflt (refine' is_kind_t (by k_asm) (by k_asm) (by k_asm) (by k_asm) (by k_asm) (by first | exact rfl | assumption) (by ktr_room) (by ktr_units) (by walk_at "m prem") (by walk_at "m prem") (by walk_at "m prem") (by walk_at "m prem") (by walk_at "m prem") (by walk_at "m prem") ?_; k_whole); intro hz' tkz' Fz' Nz'; (try dsimp only); (try k_sweep))
  k_with "L:call ref" => (k_here; (with_reducible show wpAny _ _ (call (Value.ref 322) _ _) _ _ _); k_dflt (refine' is_kind_n (by k_asm) (by k_asm) (by k_asm) (by k_asm) (by k_asm) (by first | exact rfl | assumption) (by ktr_room) (by ktr_units) (by walk_at "m prem") (by walk_at "m prem") (by walk_at "m prem") ?_; k_whole); intro hz' tkz' Fz' Nz'; (try dsimp only); (try k_sweep))
  k_with "L:call ref" => (k_here; (with_reducible show wpAny _ _ (call (Value.ref 329) _ _) _ _ _); k_dflt (refine' place_of_t (by k_asm) (by k_asm) (by k_asm) (by k_asm) (by k_asm) (by first | exact rfl | assumption) (by ktr_room) (by ktr_units) (by walk_at "m prem") (by walk_at "m prem") (by walk_at "m prem") (by walk_at "m prem") (by walk_at "m prem") (by walk_at "m prem") (by walk_at "m prem") (by walk_at "m prem") ?_; k_whole); intro tz' hz' tkz' Fz' Nz'; (try dsimp only); (try k_sweep))
  k_with "L:call ref" => (k_here; (with_reducible show wpAny _ _ (call (Value.ref 336) _ _) _ _ _); k_dflt (refine' field_t (by k_asm) (by k_asm) (by k_asm) (by k_asm) (by k_asm) (by first | exact rfl | assumption) (by ktr_room) (by ktr_units) (by walk_at "m prem") (by walk_at "m prem") (by walk_at "m prem") (by walk_at "m prem") (by walk_at "m prem") (by walk_at "m prem") (by walk_at "m prem") (by walk_at "m prem") (by walk_at "m prem") (by walk_at "m prem") ?_; k_whole); intro hz' tkz' Fz' Nz'; (try dsimp only); (try k_sweep))
  k_with "L:call ref" => (k_here; (with_reducible show wpAny _ _ (call (Value.ref 343) _ _) _ _ _); k_dflt (refine' set_field_t (by k_asm) (by k_asm) (by k_asm) (by k_asm) (by k_asm) (by first | exact rfl | assumption) (by ktr_room) (by ktr_units) (by walk_at "m prem") (by walk_at "m prem") (by walk_at "m prem") (by walk_at "m prem") (by walk_at "m prem") (by walk_at "m prem") (by walk_at "m prem") (by walk_at "m prem") (by walk_at "m prem") ?_; k_whole); intro nz' hz' tkz' Fz' Nz' hmz' hkz'; (try dsimp only); (try k_sweep))
  k_with "L:call ref" => (k_here; (with_reducible show wpAny _ _ (call (Value.ref 77) _ _) _ _ _); k_dflt (refine' wrong_kind_t (by k_asm) (by k_asm) (by k_asm) (by k_asm) (by k_asm) (by first | exact rfl | assumption) (by ktr_room) (by ktr_units) ?_; k_whole); intro ez' Dz' tz' ilz' cz' oDz' mAz' keptz' hz' tkz' Fz' Nz' hnz' hsz' hDz' hilz' hdoz' hmAz'; (try dsimp only); (try k_sweep))
  k_with "L:call ref" => (k_here; (with_reducible show wpAny _ _ (call (Value.ref 58) _ _) _ _ _); k_dflt (refine' wrong_arity_t (by k_asm) (by k_asm) (by k_asm) (by k_asm) (by k_asm) (by first | exact rfl | assumption) (by ktr_room) (by ktr_units) ?_; k_whole); intro ez' Dz' tz' ilz' cz' oDz' mAz' keptz' hz' tkz' Fz' Nz' hnz' hsz' hDz' hilz' hdoz' hmAz'; (try dsimp only); (try k_sweep))
  k_with "L:call ref" => (k_here; (with_reducible show wpAny _ _ (call (Value.ref 96) _ _) _ _ _); k_dflt (refine' fault_t (by k_asm) (by k_asm) (by k_asm) (by k_asm) (by k_asm) (by first | exact rfl | assumption) (by ktr_room) (by ktr_units) ?_; k_whole); intro ez' Dz' tz' oDz' mAz' keptz' hz' tkz' Fz' Nz' hnz' hsz' hDz' hdoz'; (try dsimp only); (try k_sweep))
  trivial
def IsKind (vs : List Value) (w kd : Int) (res : Bool) : Prop := (w.fmod 8 ≠ 1 ∧ res = false) ∨ ∃ (ad : Nat) (hdr : Int) (th : Tok), w = (ad : Int) * 8 + 1 ∧ vs[ad]? = some (.int hdr th) ∧ hdr.fmod 8 = 5 ∧ res = ((hdr.fdiv 8).fmod 16 == kd)
section
variable {w : World} {p : Program} {loose : List Str} {mean : ExcName → Option Value} {mg mb : Str → Option Value} {dp un : Nat} {gd : Option (List Code)} {cn : Str} {cs : Scope} {L a : Addr} {ccd : Value} {cl : List (Str × Addr)} {outer : List Env} {A₀ : Around} {base h₀ : Heap} {m : Str → Option Value} {news : List (Addr × Obj)} {s : Shared} {Q E : Value → Shared → Prop}
theorem is_kind_a {hx hdx HC : Addr} {t1 t2 t3 : Tok} {k1 k2 : Int} {dn cn' : Nat} {vs : List Value} {w0 kd : Int} {t u : Tok} {res : Bool} (B : Below A₀ base outer h₀) (F : Fr h₀ L s.heap m) (X : (hd.heap_39 w.params).In h₀) (N : News h₀ L s.heap news) (T : Top p loose mean mg mb h₀) (hk : cs.kind = .function) (hd1 : dp + 40 < recursionLimit) (hu1 : un + 300 < cLine) (h1 : (hx, instObj 360 hdx) ∈ news) (h2 : (hdx, dictOf [⟨k1, .str "limit" t1, .int 1000 t2⟩, ⟨k2, .str "cells" t3, .ref HC⟩] dn) ∈ news) (h3 : (HC, listOf vs.toArray cn') ∈ news) (h5 : vs.length < 900) (hK : IsKind vs w0 kd res)
    (hret : ∀ h' tk', Fr h₀ L h' m → News h₀ L h' news → Q (.bool res) { s with heap := h', toks := tk' }) : wpAny (model PySem.Challenge.rw_on0295_01.row.prog w) (ktrTop dp un gd cn cs L a ccd cl outer) (call (.ref 322) [.ref hx, .int w0 t, .int kd u]) Q E s := by
  rcases hK with ⟨z, rfl⟩ | ⟨ad, hdr, th, rfl, z1, z2, rfl⟩
  · exact is_kind_n B F X N T hk hd1 hu1 z h1 h2 hret
  · exact is_kind_t B F X N T hk hd1 hu1 h1 h2 h3 h5 z1 z2 hret
end
theorem ln_B11_2 : True := by
  k_with "L:call ref" => (k_here; (with_reducible show wpAny _ _ (call (Value.ref 322) _ _) _ _ _); k_dflt (refine' is_kind_a (by k_asm) (by k_asm) (by k_asm) (by k_asm) (by k_asm) (by first | exact rfl | assumption) (by ktr_room) (by ktr_units) (by walk_at "m prem") (by walk_at "m prem") (by walk_at "m prem") (by walk_at "m prem") (by walk_at "m prem") ?_; k_whole); intro hz' tkz' Fz' Nz'; (try dsimp only); (try k_sweep))
  trivial
section
variable {w : World} {p : Program} {loose : List Str} {mean : ExcName → Option Value} {mg mb : Str → Option Value} {dp un : Nat} {gd : Option (List Code)} {cn : Str} {cs : Scope} {L a : Addr} {ccd : Value} {cl : List (Str × Addr)} {outer : List Env} {A₀ : Around} {base h₀ : Heap} {m : Str → Option Value} {news : List (Addr × Obj)} {s : Shared} {Q E : Value → Shared → Prop}
set_option maxHeartbeats 8000000 in
theorem block_no {lx ldx hx hdx HC wl : Addr} {t1 t2 t3 t4 : Tok} {k1 k2 k3 : Int} {dn dn2 cn' c : Nat} {vs ws : List Value} {op w0 : Int} {t t0 : Tok} (B : Below A₀ base outer h₀) (F : Fr h₀ L s.heap m) (X : (hd.heap_39 w.params).In h₀) (N : News h₀ L s.heap news) (T : Top p loose mean mg mb h₀) (hk : cs.kind = .function) (hd1 : dp + 100 < recursionLimit) (hu1 : un + 700 < cLine)
    (g1 : (lx, instObj 255 ldx) ∈ news) (g2 : (ldx, dictOf [⟨k3, .str "heap" t4, .ref hx⟩] dn2) ∈ news) (h1 : (hx, instObj 360 hdx) ∈ news) (h2 : (hdx, dictOf [⟨k1, .str "limit" t1, .int 1000 t2⟩, ⟨k2, .str "cells" t3, .ref HC⟩] dn) ∈ news) (h3 : (HC, listOf vs.toArray cn') ∈ news) (h5 : vs.length < 900) (hw : (wl, listOf ws.toArray c) ∈ news) (h0 : ws[0]? = some (Value.int w0 t0)) (o5 : 5 ≤ op) (o12 : op < 12) (o9 : op ≠ 9) (hK : IsKind vs w0 (kdOf op) false)
    (hexc : ∀ e tn tp h' tk', ExW base (envX cn cs L a ccd cl :: outer) h₀ L m news 77 e [.str (rowName op) tn, .int 0 tp, .int w0 t0] h' → E (.ref e) { s with heap := h', toks := tk' }) : wpAny (model PySem.Challenge.rw_on0295_01.row.prog w) (ktrTop dp un gd cn cs L a ccd cl outer) (call (.ref 252) [.ref lx, .int op t, .ref wl]) Q E s := by
  by_cases h9 : op < 9
  · have hK' : IsKind vs w0 0 false := by unfold kdOf at hK; rw [if_pos h9] at hK; exact hK
    walk_at "m enter"
    k_steps
    all_goals exact hexc _ _ _ _ _ (by assumption)
  · have hK' : IsKind vs w0 4 false := by unfold kdOf at hK; rw [if_neg h9] at hK; exact hK
    walk_at "m enter"
    k_steps
    all_goals exact hexc _ _ _ _ _ (by assumption)
set_option maxHeartbeats 8000000 in
theorem block_get_5 {lx ldx hx hdx HC wl : Addr} {t1 t2 t3 t4 : Tok} {k1 k2 k3 : Int} {dn dn2 cn' c : Nat} {vs ws : List Value} {ad : Nat} {v : Value} {t t0 th : Tok} (B : Below A₀ base outer h₀) (F : Fr h₀ L s.heap m) (X : (hd.heap_39 w.params).In h₀) (N : News h₀ L s.heap news) (T : Top p loose mean mg mb h₀) (hk : cs.kind = .function) (hd1 : dp + 100 < recursionLimit) (hu1 : un + 700 < cLine)
    (g1 : (lx, instObj 255 ldx) ∈ news) (g2 : (ldx, dictOf [⟨k3, .str "heap" t4, .ref hx⟩] dn2) ∈ news) (h1 : (hx, instObj 360 hdx) ∈ news) (h2 : (hdx, dictOf [⟨k1, .str "limit" t1, .int 1000 t2⟩, ⟨k2, .str "cells" t3, .ref HC⟩] dn) ∈ news) (h3 : (HC, listOf vs.toArray cn') ∈ news) (h5 : vs.length < 900) (hw : (wl, listOf ws.toArray c) ∈ news) (h0 : ws[0]? = some (Value.int ((ad : Int) * 8 + 1) t0)) (h6 : vs[ad]? = some (.int 261 th)) (hv : vs[((ad : Int) + 1 + 0).toNat]? = some v)
    (hret : ∀ h' tk', Fr h₀ L h' m → News h₀ L h' news → Q v { s with heap := h', toks := tk' }) : wpAny (model PySem.Challenge.rw_on0295_01.row.prog w) (ktrTop dp un gd cn cs L a ccd cl outer) (call (.ref 252) [.ref lx, .int 5 t, .ref wl]) Q E s := by
  have h7 : ((ad : Int) + 1 + 0) < 900 := by
    have := lt_of_get? hv
    omega
  have hK : IsKind vs ((ad : Int) * 8 + 1) 0 true := .inr ⟨ad, _, _, rfl, h6, rfl, rfl⟩
  walk_at "m enter"
  k_steps
  all_goals first | exact hret _ _ (by k_asm) (by walk_at "m news")
set_option maxHeartbeats 8000000 in
theorem block_get_6 {lx ldx hx hdx HC wl : Addr} {t1 t2 t3 t4 : Tok} {k1 k2 k3 : Int} {dn dn2 cn' c : Nat} {vs ws : List Value} {ad : Nat} {v : Value} {t t0 th : Tok} (B : Below A₀ base outer h₀) (F : Fr h₀ L s.heap m) (X : (hd.heap_39 w.params).In h₀) (N : News h₀ L s.heap news) (T : Top p loose mean mg mb h₀) (hk : cs.kind = .function) (hd1 : dp + 100 < recursionLimit) (hu1 : un + 700 < cLine)
    (g1 : (lx, instObj 255 ldx) ∈ news) (g2 : (ldx, dictOf [⟨k3, .str "heap" t4, .ref hx⟩] dn2) ∈ news) (h1 : (hx, instObj 360 hdx) ∈ news) (h2 : (hdx, dictOf [⟨k1, .str "limit" t1, .int 1000 t2⟩, ⟨k2, .str "cells" t3, .ref HC⟩] dn) ∈ news) (h3 : (HC, listOf vs.toArray cn') ∈ news) (h5 : vs.length < 900) (hw : (wl, listOf ws.toArray c) ∈ news) (h0 : ws[0]? = some (Value.int ((ad : Int) * 8 + 1) t0)) (h6 : vs[ad]? = some (.int 261 th)) (hv : vs[((ad : Int) + 1 + 1).toNat]? = some v)
    (hret : ∀ h' tk', Fr h₀ L h' m → News h₀ L h' news → Q v { s with heap := h', toks := tk' }) : wpAny (model PySem.Challenge.rw_on0295_01.row.prog w) (ktrTop dp un gd cn cs L a ccd cl outer) (call (.ref 252) [.ref lx, .int 6 t, .ref wl]) Q E s := by
  have h7 : ((ad : Int) + 1 + 1) < 900 := by
    have := lt_of_get? hv
    omega
  have hK : IsKind vs ((ad : Int) * 8 + 1) 0 true := .inr ⟨ad, _, _, rfl, h6, rfl, rfl⟩
  walk_at "m enter"
  k_steps
  all_goals first | exact hret _ _ (by k_asm) (by walk_at "m news")
set_option maxHeartbeats 8000000 in
theorem block_set_7 {lx ldx hx hdx HC wl : Addr} {t1 t2 t3 t4 : Tok} {k1 k2 k3 : Int} {dn dn2 cn' c : Nat} {vs ws : List Value} {ad : Nat} {v : Value} {t t0 th : Tok} (B : Below A₀ base outer h₀) (F : Fr h₀ L s.heap m) (X : (hd.heap_39 w.params).In h₀) (N : News h₀ L s.heap news) (T : Top p loose mean mg mb h₀) (hk : cs.kind = .function) (hd1 : dp + 100 < recursionLimit) (hu1 : un + 700 < cLine)
    (g1 : (lx, instObj 255 ldx) ∈ news) (g2 : (ldx, dictOf [⟨k3, .str "heap" t4, .ref hx⟩] dn2) ∈ news) (h1 : (hx, instObj 360 hdx) ∈ news) (h2 : (hdx, dictOf [⟨k1, .str "limit" t1, .int 1000 t2⟩, ⟨k2, .str "cells" t3, .ref HC⟩] dn) ∈ news) (h3 : (HC, listOf vs.toArray cn') ∈ news) (h5 : vs.length < 900) (hw : (wl, listOf ws.toArray c) ∈ news) (hne : wl ≠ HC) (h0 : ws[0]? = some (Value.int ((ad : Int) * 8 + 1) t0)) (h0' : ws[1]? = some v) (h6 : vs[ad]? = some (.int 261 th)) (hv : (ad : Int) + 1 + 0 < vs.length)
    (hret : ∀ t' news' h' tk', Fr h₀ L h' m → News h₀ L h' news' → (HC, listOf (vs.set ((ad : Int) + 1 + 0).toNat v).toArray cn') ∈ news' → (∀ q ∈ news, q.1 ≠ HC → q ∈ news') → Q (.int 28 t') { s with heap := h', toks := tk' }) : wpAny (model PySem.Challenge.rw_on0295_01.row.prog w) (ktrTop dp un gd cn cs L a ccd cl outer) (call (.ref 252) [.ref lx, .int 7 t, .ref wl]) Q E s := by
  have hK : IsKind vs ((ad : Int) * 8 + 1) 0 true := .inr ⟨ad, _, _, rfl, h6, rfl, rfl⟩
  walk_at "m enter"
  k_steps
  all_goals first | exact hret _ _ _ _ (by k_asm) (by walk_at "m news") (by assumption) (by walk_at "m sub")
set_option maxHeartbeats 8000000 in
theorem block_set_8 {lx ldx hx hdx HC wl : Addr} {t1 t2 t3 t4 : Tok} {k1 k2 k3 : Int} {dn dn2 cn' c : Nat} {vs ws : List Value} {ad : Nat} {v : Value} {t t0 th : Tok} (B : Below A₀ base outer h₀) (F : Fr h₀ L s.heap m) (X : (hd.heap_39 w.params).In h₀) (N : News h₀ L s.heap news) (T : Top p loose mean mg mb h₀) (hk : cs.kind = .function) (hd1 : dp + 100 < recursionLimit) (hu1 : un + 700 < cLine)
    (g1 : (lx, instObj 255 ldx) ∈ news) (g2 : (ldx, dictOf [⟨k3, .str "heap" t4, .ref hx⟩] dn2) ∈ news) (h1 : (hx, instObj 360 hdx) ∈ news) (h2 : (hdx, dictOf [⟨k1, .str "limit" t1, .int 1000 t2⟩, ⟨k2, .str "cells" t3, .ref HC⟩] dn) ∈ news) (h3 : (HC, listOf vs.toArray cn') ∈ news) (h5 : vs.length < 900) (hw : (wl, listOf ws.toArray c) ∈ news) (hne : wl ≠ HC) (h0 : ws[0]? = some (Value.int ((ad : Int) * 8 + 1) t0)) (h0' : ws[1]? = some v) (h6 : vs[ad]? = some (.int 261 th)) (hv : (ad : Int) + 1 + 1 < vs.length)
    (hret : ∀ t' news' h' tk', Fr h₀ L h' m → News h₀ L h' news' → (HC, listOf (vs.set ((ad : Int) + 1 + 1).toNat v).toArray cn') ∈ news' → (∀ q ∈ news, q.1 ≠ HC → q ∈ news') → Q (.int 28 t') { s with heap := h', toks := tk' }) : wpAny (model PySem.Challenge.rw_on0295_01.row.prog w) (ktrTop dp un gd cn cs L a ccd cl outer) (call (.ref 252) [.ref lx, .int 8 t, .ref wl]) Q E s := by
  have hK : IsKind vs ((ad : Int) * 8 + 1) 0 true := .inr ⟨ad, _, _, rfl, h6, rfl, rfl⟩
  walk_at "m enter"
  k_steps
  all_goals first | exact hret _ _ _ _ (by k_asm) (by walk_at "m news") (by assumption) (by walk_at "m sub")
set_option maxHeartbeats 8000000 in
theorem block_get_10 {lx ldx hx hdx HC wl : Addr} {t1 t2 t3 t4 : Tok} {k1 k2 k3 : Int} {dn dn2 cn' c : Nat} {vs ws : List Value} {ad : Nat} {v : Value} {t t0 th : Tok} (B : Below A₀ base outer h₀) (F : Fr h₀ L s.heap m) (X : (hd.heap_39 w.params).In h₀) (N : News h₀ L s.heap news) (T : Top p loose mean mg mb h₀) (hk : cs.kind = .function) (hd1 : dp + 100 < recursionLimit) (hu1 : un + 700 < cLine)
    (g1 : (lx, instObj 255 ldx) ∈ news) (g2 : (ldx, dictOf [⟨k3, .str "heap" t4, .ref hx⟩] dn2) ∈ news) (h1 : (hx, instObj 360 hdx) ∈ news) (h2 : (hdx, dictOf [⟨k1, .str "limit" t1, .int 1000 t2⟩, ⟨k2, .str "cells" t3, .ref HC⟩] dn) ∈ news) (h3 : (HC, listOf vs.toArray cn') ∈ news) (h5 : vs.length < 900) (hw : (wl, listOf ws.toArray c) ∈ news) (h0 : ws[0]? = some (Value.int ((ad : Int) * 8 + 1) t0)) (h6 : vs[ad]? = some (.int 165 th)) (hv : vs[((ad : Int) + 1 + 0).toNat]? = some v)
    (hret : ∀ h' tk', Fr h₀ L h' m → News h₀ L h' news → Q v { s with heap := h', toks := tk' }) : wpAny (model PySem.Challenge.rw_on0295_01.row.prog w) (ktrTop dp un gd cn cs L a ccd cl outer) (call (.ref 252) [.ref lx, .int 10 t, .ref wl]) Q E s := by
  have h7 : ((ad : Int) + 1 + 0) < 900 := by
    have := lt_of_get? hv
    omega
  have hK : IsKind vs ((ad : Int) * 8 + 1) 4 true := .inr ⟨ad, _, _, rfl, h6, rfl, rfl⟩
  walk_at "m enter"
  k_steps
  all_goals first | exact hret _ _ (by k_asm) (by walk_at "m news")
set_option maxHeartbeats 8000000 in
theorem block_set_11 {lx ldx hx hdx HC wl : Addr} {t1 t2 t3 t4 : Tok} {k1 k2 k3 : Int} {dn dn2 cn' c : Nat} {vs ws : List Value} {ad : Nat} {v : Value} {t t0 th : Tok} (B : Below A₀ base outer h₀) (F : Fr h₀ L s.heap m) (X : (hd.heap_39 w.params).In h₀) (N : News h₀ L s.heap news) (T : Top p loose mean mg mb h₀) (hk : cs.kind = .function) (hd1 : dp + 100 < recursionLimit) (hu1 : un + 700 < cLine)
    (g1 : (lx, instObj 255 ldx) ∈ news) (g2 : (ldx, dictOf [⟨k3, .str "heap" t4, .ref hx⟩] dn2) ∈ news) (h1 : (hx, instObj 360 hdx) ∈ news) (h2 : (hdx, dictOf [⟨k1, .str "limit" t1, .int 1000 t2⟩, ⟨k2, .str "cells" t3, .ref HC⟩] dn) ∈ news) (h3 : (HC, listOf vs.toArray cn') ∈ news) (h5 : vs.length < 900) (hw : (wl, listOf ws.toArray c) ∈ news) (hne : wl ≠ HC) (h0 : ws[0]? = some (Value.int ((ad : Int) * 8 + 1) t0)) (h0' : ws[1]? = some v) (h6 : vs[ad]? = some (.int 165 th)) (hv : (ad : Int) + 1 + 0 < vs.length)
    (hret : ∀ t' news' h' tk', Fr h₀ L h' m → News h₀ L h' news' → (HC, listOf (vs.set ((ad : Int) + 1 + 0).toNat v).toArray cn') ∈ news' → (∀ q ∈ news, q.1 ≠ HC → q ∈ news') → Q (.int 28 t') { s with heap := h', toks := tk' }) : wpAny (model PySem.Challenge.rw_on0295_01.row.prog w) (ktrTop dp un gd cn cs L a ccd cl outer) (call (.ref 252) [.ref lx, .int 11 t, .ref wl]) Q E s := by
  have hK : IsKind vs ((ad : Int) * 8 + 1) 4 true := .inr ⟨ad, _, _, rfl, h6, rfl, rfl⟩
  walk_at "m enter"
  k_steps
  all_goals first | exact hret _ _ _ _ (by k_asm) (by walk_at "m news") (by assumption) (by walk_at "m sub")
end
section
variable {w : World} {p : Program} {loose : List Str} {mean : ExcName → Option Value} {mg mb : Str → Option Value} {dp un : Nat} {gd : Option (List Code)} {cn : Str} {cs : Scope} {L a : Addr} {ccd : Value} {cl : List (Str × Addr)} {outer : List Env} {A₀ : Around} {base h₀ : Heap} {m : Str → Option Value} {news : List (Addr × Obj)} {s : Shared} {Q E : Value → Shared → Prop}
theorem two_of {op : Int} {n : Nat} (hop : isBlk op) (e : (n : Int) = rowMany op) (z : isGet op = false) : 1 < n := by
  obtain ⟨o1, o2, o3⟩ := hop
  rcases op_ge5 o1 o2 o3 with rfl | rfl | rfl | rfl | rfl | rfl
  all_goals first | (have : (n : Int) = 2 := e; omega) | exact absurd z (by decide)
def BlkIn (vs : List Value) (op w0 : Int) : Prop := IsKind vs w0 (kdOf op) false ∨ ∃ (ad : Nat) (th th' : Tok) (v : Int), w0 = (ad : Int) * 8 + 1 ∧ vs[ad]? = some (.int (hdOf op) th) ∧ vs[((ad : Int) + 1 + atOf op).toNat]? = some (.int v th')
def BlkOut (vs : List Value) (op w0 : Int) (w1 : Value) (r : Int) (vs' : List Value) : Prop :=
  ∃ (ad : Nat) (th : Tok), w0 = (ad : Int) * 8 + 1 ∧ vs[ad]? = some (.int (hdOf op) th) ∧ (if isGet op then (∃ th', vs[((ad : Int) + 1 + atOf op).toNat]? = some (.int r th')) ∧ vs' = vs else r = 28 ∧ vs' = vs.set ((ad : Int) + 1 + atOf op).toNat w1)
theorem blk_any {lx ldx hx hdx HC wl : Addr} {t1 t2 t3 t4 : Tok} {k1 k2 k3 : Int} {dn dn2 cn' c : Nat} {vs ws : List Value} {op w0 w1 : Int} {t t0 t01 : Tok} (B : Below A₀ base outer h₀) (F : Fr h₀ L s.heap m) (X : (hd.heap_39 w.params).In h₀) (N : News h₀ L s.heap news) (T : Top p loose mean mg mb h₀) (hk : cs.kind = .function) (hd1 : dp + 100 < recursionLimit) (hu1 : un + 700 < cLine)
    (g1 : (lx, instObj 255 ldx) ∈ news) (g2 : (ldx, dictOf [⟨k3, .str "heap" t4, .ref hx⟩] dn2) ∈ news) (h1 : (hx, instObj 360 hdx) ∈ news) (h2 : (hdx, dictOf [⟨k1, .str "limit" t1, .int 1000 t2⟩, ⟨k2, .str "cells" t3, .ref HC⟩] dn) ∈ news) (h3 : (HC, listOf vs.toArray cn') ∈ news) (h5 : vs.length < 900) (hw : (wl, listOf ws.toArray c) ∈ news) (hne : wl ≠ HC) (hop : isBlk op) (h0 : ws[0]? = some (Value.int w0 t0)) (h0' : isGet op = false → ws[1]? = some (Value.int w1 t01)) (hK : BlkIn vs op w0)
    (hexc : ∀ e tn tp h' tk', ExW base (envX cn cs L a ccd cl :: outer) h₀ L m news 77 e [.str (rowName op) tn, .int 0 tp, .int w0 t0] h' → IsKind vs w0 (kdOf op) false → E (.ref e) { s with heap := h', toks := tk' })
    (hret : ∀ (r : Int) (t' : Tok) vs' cn'' news' h' tk', Fr h₀ L h' m → News h₀ L h' news' → BlkOut vs op w0 (.int w1 t01) r vs' → (HC, listOf vs'.toArray cn'') ∈ news' → (∀ q ∈ news, q.1 ≠ HC → q ∈ news') → Q (.int r t') { s with heap := h', toks := tk' }) : wpAny (model PySem.Challenge.rw_on0295_01.row.prog w) (ktrTop dp un gd cn cs L a ccd cl outer) (call (.ref 252) [.ref lx, .int op t, .ref wl]) Q E s := by
  obtain ⟨o1, o2, o3⟩ := hop
  rcases hK with z | ⟨ad, th, th', v, rfl, z1, z2⟩
  · exact block_no B F X N T hk hd1 hu1 g1 g2 h1 h2 h3 h5 hw h0 o1 o2 o3 z fun e tn tp h' tk' x => hexc e tn tp h' tk' x z
  rcases op_ge5 o1 o2 o3 with rfl | rfl | rfl | rfl | rfl | rfl
  · exact block_get_5 B F X N T hk hd1 hu1 g1 g2 h1 h2 h3 h5 hw h0 z1 z2 fun h' tk' F' N' => hret v _ vs cn' _ _ _ F' N' ⟨ad, th, rfl, z1, ⟨th', z2⟩, rfl⟩ h3 fun _ h _ => h
  · exact block_get_6 B F X N T hk hd1 hu1 g1 g2 h1 h2 h3 h5 hw h0 z1 z2 fun h' tk' F' N' => hret v _ vs cn' _ _ _ F' N' ⟨ad, th, rfl, z1, ⟨th', z2⟩, rfl⟩ h3 fun _ h _ => h
  · refine block_set_7 B F X N T hk hd1 hu1 g1 g2 h1 h2 h3 h5 hw hne h0 (h0' rfl) z1 ?_ fun t' n' h' tk' F' N' a b => hret 28 t' _ cn' n' h' tk' F' N' ⟨ad, th, rfl, z1, rfl, rfl⟩ a b
    have := lt_of_get? z2
    simp [atOf] at this
    omega
  · refine block_set_8 B F X N T hk hd1 hu1 g1 g2 h1 h2 h3 h5 hw hne h0 (h0' rfl) z1 ?_ fun t' n' h' tk' F' N' a b => hret 28 t' _ cn' n' h' tk' F' N' ⟨ad, th, rfl, z1, rfl, rfl⟩ a b
    have := lt_of_get? z2
    simp [atOf] at this
    omega
  · exact block_get_10 B F X N T hk hd1 hu1 g1 g2 h1 h2 h3 h5 hw h0 z1 z2 fun h' tk' F' N' => hret v _ vs cn' _ _ _ F' N' ⟨ad, th, rfl, z1, ⟨th', z2⟩, rfl⟩ h3 fun _ h _ => h
  · refine block_set_11 B F X N T hk hd1 hu1 g1 g2 h1 h2 h3 h5 hw hne h0 (h0' rfl) z1 ?_ fun t' n' h' tk' F' N' a b => hret 28 t' _ cn' n' h' tk' F' N' ⟨ad, th, rfl, z1, rfl, rfl⟩ a b
    have := lt_of_get? z2
    simp [atOf] at this
    omega
end
theorem ln_B13_1 : True := by
  k_with_none
  k_with "L:room" => (first | exact room1 hd1 rfl | exact room2 hd1 rfl | exact room3 hd1 rfl | exact room4 hd1 rfl | exact room9 hd1)
  k_with "L:units" => (first | exact unit1 hu1 rfl | exact unit2 hu1 rfl | exact unit3 hu1 rfl | exact unit4 hu1 rfl | exact unit9 hu1)
  k_with "L:k_ne" => (refine neN ?_; (try dsimp only); first | with_reducible assumption | exact Ne.symm (by with_reducible assumption) | exact Nat.ne_of_lt (by walk_at "m lt") | exact Nat.ne_of_gt (by walk_at "m lt"))
  k_with "L:m lt" => (first | with_reducible assumption | with_reducible exact And.left (by assumption) | with_reducible exact And.left (And.right (by assumption)) | with_reducible exact And.left (And.right (And.right (by assumption))) | with_reducible exact And.left (And.right (And.right (And.right (by assumption)))) | with_reducible exact And.left (And.right (And.right (And.right (And.right (by assumption))))) | with_reducible exact And.left (And.right (And.right (And.right (And.right (And.right (by assumption)))))) | with_reducible exact And.left (And.right (And.right (And.right (And.right (And.right (And.right (by assumption))))))) | with_reducible exact And.left (And.right (And.right (And.right (And.right (And.right (And.right (And.right (by assumption)))))))))
  k_with "L:m small" => (refine wpAny_call ?_; k_dflt ktr_enter; k_steps)
  k_with "L:m enter" => (refine wpAny_call ?_; k_dflt ktr_enter)
  k_with "L:m prem" => (first | assumption | exact rfl | omega | decide)
  k_with "L:call ref" => (k_here; (with_reducible show wpAny _ _ (call (Value.ref 106) _ _) _ _ _); k_dflt (refine' payload_t (by k_asm) (by k_asm) (by k_asm) (by k_asm) (by k_asm) (by first | exact rfl | assumption) (by ktr_room) (by ktr_units) ?_; k_whole); intro tz' hz' tkz' Fz' Nz'; (try dsimp only); (try k_sweep))
  k_with "L:call ref" => (k_here; (with_reducible show wpAny _ _ (call (Value.ref 113) _ _) _ _ _); k_dflt (refine' fix_t (by k_asm) (by k_asm) (by k_asm) (by k_asm) (by k_asm) (by first | exact rfl | assumption) (by ktr_room) (by ktr_units) ?_; k_whole); intro tz' hz' tkz' Fz' Nz'; (try dsimp only); (try k_sweep))
  k_with "L:call ref" => (k_here; (with_reducible show wpAny _ _ (call (Value.ref 120) _ _) _ _ _); k_dflt (refine' ref_t (by k_asm) (by k_asm) (by k_asm) (by k_asm) (by k_asm) (by first | exact rfl | assumption) (by ktr_room) (by ktr_units) ?_; k_whole); intro tz' hz' tkz' Fz' Nz'; (try dsimp only); (try k_sweep))
  k_with "L:call ref" => (k_here; (with_reducible show wpAny _ _ (call (Value.ref 127) _ _) _ _ _); k_dflt (refine' bool_word_t (by k_asm) (by k_asm) (by k_asm) (by k_asm) (by k_asm) (by first | exact rfl | assumption) (by ktr_room) (by ktr_units) ?_; k_whole); intro tz' hz' tkz' Fz' Nz'; (try dsimp only); (try k_sweep))
  k_with "L:call ref" => (k_here; (with_reducible show wpAny _ _ (call (Value.ref 134) _ _) _ _ _); k_dflt (refine' header_word_t (by k_asm) (by k_asm) (by k_asm) (by k_asm) (by k_asm) (by first | exact rfl | assumption) (by ktr_room) (by ktr_units) ?_; k_whole); intro tz' hz' tkz' Fz' Nz'; (try dsimp only); (try k_sweep))
  k_with "L:call ref" => (k_here; (with_reducible show wpAny _ _ (call (Value.ref 141) _ _) _ _ _); k_dflt (refine' is_fix_t (by k_asm) (by k_asm) (by k_asm) (by k_asm) (by k_asm) (by first | exact rfl | assumption) (by ktr_room) (by ktr_units) ?_; k_whole); intro hz' tkz' Fz' Nz'; (try dsimp only); (try k_sweep))
  k_with "L:call ref" => (k_here; (with_reducible show wpAny _ _ (call (Value.ref 148) _ _) _ _ _); k_dflt (refine' is_ref_t (by k_asm) (by k_asm) (by k_asm) (by k_asm) (by k_asm) (by first | exact rfl | assumption) (by ktr_room) (by ktr_units) ?_; k_whole); intro hz' tkz' Fz' Nz'; (try dsimp only); (try k_sweep))
  k_with "L:call ref" => (k_here; (with_reducible show wpAny _ _ (call (Value.ref 155) _ _) _ _ _); k_dflt (refine' is_header_t (by k_asm) (by k_asm) (by k_asm) (by k_asm) (by k_asm) (by first | exact rfl | assumption) (by ktr_room) (by ktr_units) ?_; k_whole); intro hz' tkz' Fz' Nz'; (try dsimp only); (try k_sweep))
  k_with "L:call ref" => (k_here; (with_reducible show wpAny _ _ (call (Value.ref 162) _ _) _ _ _); k_dflt (refine' header_kind_t (by k_asm) (by k_asm) (by k_asm) (by k_asm) (by k_asm) (by first | exact rfl | assumption) (by ktr_room) (by ktr_units) ?_; k_whole); intro tz' hz' tkz' Fz' Nz'; (try dsimp only); (try k_sweep))
  k_with "L:call ref" => (k_here; (with_reducible show wpAny _ _ (call (Value.ref 169) _ _) _ _ _); k_dflt (refine' header_length_t (by k_asm) (by k_asm) (by k_asm) (by k_asm) (by k_asm) (by first | exact rfl | assumption) (by ktr_room) (by ktr_units) ?_; k_whole); intro tz' hz' tkz' Fz' Nz'; (try dsimp only); (try k_sweep))
  k_with "L:m idx" => (first | decide | ((try simp only [List.length_append, List.length_cons, List.length_nil, List.length_set]); omega))
  k_with "L:m len" => ((try simp only [List.length_append, List.length_cons, List.length_nil, List.length_set]); omega)
  k_with "L:k_mem" => (assumption)
  k_with "L:k_all" => (first | assumption | (refine allLt_ne (by assumption) ?_; intro q hq; (repeat (refine List.Mem.tail _ ?_)); exact hq))
  k_with "L:newList" => (k_here; k_dflt (refine' newList_K (by k_asm) (by k_asm) ?_; k_whole); intro lz' hz' Fz' Nz' l1; (have l2 := l1); (try k_lt l2); (try k_sweep))
  k_with "L:call builtin:len" => (k_here; (with_reducible show wpAny _ _ (call (Value.builtin "len") [Value.ref _]) _ _ _); k_dflt (refine' kst_len (by k_asm) (by k_mem) (by exact rfl) (by walk_at "m len") ?_; k_whole))
  k_with "L:subscriptTail" => (k_here; (with_reducible show wpAny _ _ (subscriptTail _ _ (Value.ref _) (Value.int _ _)) _ _ _); k_dflt (refine' item_m (by k_asm) (by k_mem) (by walk_at "m idx") (by walk_at "m idx") (by first | assumption | exact rfl | exact (by assumption : 1 < _ → _ = some _) (by omega)) ?_ (by with_unfolding_all rfl); k_whole))
  k_with "L:setItem ref int" => (k_here; (with_reducible show wpAny _ _ (setItem (Value.ref _) (Value.int _ _) _) _ _ _); k_dflt (refine' set_m (by k_asm) (by k_asm) (by k_upd) (by omega) (by walk_at "m len") (by walk_at "m len") ?_; k_whole); intro hz' Fz' Nz'; (try k_sweep))
  k_with "L:call builtin:list.append" => (k_here; (with_reducible show wpAny _ _ (call (Value.builtin _) [Value.ref _, _]) _ _ _); k_dflt (refine' append_m (by k_asm) (by k_asm) (by k_upd) (by walk_at "m len") ?_; k_whole); intro hz' Fz' Nz'; (try k_sweep))
  k_with "L:call builtin:list.extend" => (k_here; (with_reducible show wpAny _ _ (call (Value.builtin _) [Value.ref _, Value.ref _]) _ _ _); k_dflt (refine' extend_m (by k_asm) (by k_asm) (by k_mem) (by k_upd) (by walk_at "m len") (by walk_at "m len") ?_; k_whole); intro hz' Fz' Nz'; (try k_sweep))
  k_with "L:call ref" => (k_here; (with_reducible show wpAny _ _ (call (Value.ref 106) _ _) _ _ _); k_dflt (refine' payload_r (by k_asm) (by k_asm) (by k_asm) (by k_asm) (by k_asm) (by first | exact rfl | assumption) (by ktr_room) (by ktr_units) ?_; k_whole); intro tz' hz' tkz' Fz' Nz'; (try dsimp only); (try k_sweep))
  k_with "L:call ref" => (k_here; (with_reducible show wpAny _ _ (call (Value.ref 148) _ _) _ _ _); k_dflt (refine' is_ref_r (by k_asm) (by k_asm) (by k_asm) (by k_asm) (by k_asm) (by first | exact rfl | assumption) (by ktr_room) (by ktr_units) ?_; k_whole); intro hz' tkz' Fz' Nz'; (try dsimp only); (try k_sweep))
  k_with "L:call ref" => (k_here; (with_reducible show wpAny _ _ (call (Value.ref 155) _ _) _ _ _); k_dflt (refine' is_header_y (by k_asm) (by k_asm) (by k_asm) (by k_asm) (by k_asm) (by first | exact rfl | assumption) (by ktr_room) (by ktr_units) (by walk_at "m prem") ?_; k_whole); intro hz' tkz' Fz' Nz'; (try dsimp only); (try k_sweep))
  k_with "L:m sub" => (intro q hq hn; first | assumption | (refine (by assumption : ∀ q ∈ _, q.1 ≠ _ → q ∈ _) q ?_ hn; k_mem))
  k_with "L:m prem" => (first | assumption | exact rfl | k_mem | omega | exact (by assumption : 1 < _ → _ = some _) (by omega) | exact ne_of_l1 (by assumption) (by assumption) | ((simp only [List.length_append, List.length_cons, List.length_nil, List.length_set]); omega) | decide)
  k_with "L:call ref" => (k_here; (with_reducible show wpAny _ _ (call (Value.ref 280) _ _) _ _ _); k_dflt (refine' used_t (by k_asm) (by k_asm) (by k_asm) (by k_asm) (by k_asm) (by first | exact rfl | assumption) (by ktr_room) (by ktr_units) (by walk_at "m prem") (by walk_at "m prem") (by walk_at "m prem") (by walk_at "m prem") ?_; k_whole); intro tz' hz' tkz' Fz' Nz'; (try dsimp only); (try k_sweep))
  k_with "L:call ref" => (k_here; (with_reducible show wpAny _ _ (call (Value.ref 301) _ _) _ _ _); k_dflt (refine' header_at_t (by k_asm) (by k_asm) (by k_asm) (by k_asm) (by k_asm) (by first | exact rfl | assumption) (by ktr_room) (by ktr_units) (by walk_at "m prem") (by walk_at "m prem") (by walk_at "m prem") (by walk_at "m prem") (by walk_at "m prem") (by walk_at "m prem") ?_; k_whole); intro hz' tkz' Fz' Nz'; (try dsimp only); (try k_sweep))
  k_with "L:call ref" => (k_here; (with_reducible show wpAny _ _ (call (Value.ref 322) _ _) _ _ _); k_dflt (refine' is_kind_t (by k_asm) (by k_asm) (by k_asm) (by k_asm) (by k_asm) (by first | exact rfl | assumption) (by ktr_room) (by ktr_units) (by walk_at "m prem") (by walk_at "m prem") (by walk_at "m prem") (by walk_at "m prem") (by walk_at "m prem") (by walk_at "m prem") ?_; k_whole); intro hz' tkz' Fz' Nz'; (try dsimp only); (try k_sweep))
  k_with "L:call ref" => (k_here; (with_reducible show wpAny _ _ (call (Value.ref 322) _ _) _ _ _); k_dflt (refine' is_kind_n (by k_asm) (by k_asm) (by k_asm) (by k_asm) (by k_asm) (by first | exact rfl | assumption) (by ktr_room) (by ktr_units) (by walk_at "m prem") (by walk_at "m prem") (by walk_at "m prem") ?_; k_whole); intro hz' tkz' Fz' Nz'; (try dsimp only); (try k_sweep))
  k_with "L:call ref" => (k_here; (with_reducible show wpAny _ _ (call (Value.ref 329) _ _) _ _ _); k_dflt (refine' place_of_t (by k_asm) (by k_asm) (by k_asm) (by k_asm) (by k_asm) (by first | exact rfl | assumption) (by ktr_room) (by ktr_units) (by walk_at "m prem") (by walk_at "m prem") (by walk_at "m prem") (by walk_at "m prem") (by walk_at "m prem") (by walk_at "m prem") (by walk_at "m prem") (by walk_at "m prem") ?_; k_whole); intro tz' hz' tkz' Fz' Nz'; (try dsimp only); (try k_sweep))
  k_with "L:call ref" => (k_here; (with_reducible show wpAny _ _ (call (Value.ref 336) _ _) _ _ _); k_dflt (refine' field_t (by k_asm) (by k_asm) (by k_asm) (by k_asm) (by k_asm) (by first | exact rfl | assumption) (by ktr_room) (by ktr_units) (by walk_at "m prem") (by walk_at "m prem") (by walk_at "m prem") (by walk_at "m prem") (by walk_at "m prem") (by walk_at "m prem") (by walk_at "m prem") (by walk_at "m prem") (by walk_at "m prem") (by walk_at "m prem") ?_; k_whole); intro hz' tkz' Fz' Nz'; (try dsimp only); (try k_sweep))
  k_with "L:call ref" => (k_here; (with_reducible show wpAny _ _ (call (Value.ref 343) _ _) _ _ _); k_dflt (refine' set_field_t (by k_asm) (by k_asm) (by k_asm) (by k_asm) (by k_asm) (by first | exact rfl | assumption) (by ktr_room) (by ktr_units) (by walk_at "m prem") (by walk_at "m prem") (by walk_at "m prem") (by walk_at "m prem") (by walk_at "m prem") (by walk_at "m prem") (by walk_at "m prem") (by walk_at "m prem") (by walk_at "m prem") ?_; k_whole); intro nz' hz' tkz' Fz' Nz' hmz' hkz'; (try dsimp only); (try k_sweep))
  k_with "L:m passes" => (intro self; first | (rw [refuseLoop_ref, refuseLoop_ref]; exact PySem.F.store_Exception.passes self) | (rw [refuseLoop_ref]; exact PySem.F.store_Exception.passes self) | exact PySem.F.store_Exception.passes self)
  k_with "L:m inside" => (first | exact within1 _ _ | exact within2 _ _ _ _ | exact within3 _ _ _ _ _ _ | exact within4 _ _ _ _ _ _ _ _ | exact within5 _ _ _ _ _ _ _ _ _ _)
  k_with "L:setAttr ref" => (k_here; k_dflt (refine' setattr1 (by k_asm) (by k_asm) (by k_asm) (by k_mem) (by k_updF) (by assumption) (by k_is) (by decide +kernel) (by walk_at "m passes") (by k_is) (by k_is) (by walk_at "m inside") (by decide) ?_; k_whole); intro oDz' hz' tkz' Fz' Nz' hDz'; (try dsimp only at Nz'); (try k_sweep))
  k_with "L:setAttr ref" => (k_here; k_dflt (refine' setattr0 (by k_asm) (by k_asm) (by k_asm) (by k_updF) (by k_is) (by decide +kernel) (by walk_at "m passes") (by k_is) (by k_is) ?_; k_whole); intro Dz' oDz' hz' tkz' Fz' Nz' hDz' l1; (have l2 := l1); (try k_lt l2); (try dsimp only at Nz'); (try k_sweep))
  k_with "L:call ref" => (k_here; (with_reducible show wpAny _ _ (call (Value.ref 77) _ _) _ _ _); k_dflt (refine' wrong_kind_t (by k_asm) (by k_asm) (by k_asm) (by k_asm) (by k_asm) (by first | exact rfl | assumption) (by ktr_room) (by ktr_units) ?_; k_whole); intro ez' Dz' tz' ilz' cz' oDz' mAz' keptz' hz' tkz' Fz' Nz' hnz' hsz' hDz' hilz' hdoz' hmAz'; (try dsimp only); (try k_sweep))
  k_with "L:call ref" => (k_here; (with_reducible show wpAny _ _ (call (Value.ref 58) _ _) _ _ _); k_dflt (refine' wrong_arity_t (by k_asm) (by k_asm) (by k_asm) (by k_asm) (by k_asm) (by first | exact rfl | assumption) (by ktr_room) (by ktr_units) ?_; k_whole); intro ez' Dz' tz' ilz' cz' oDz' mAz' keptz' hz' tkz' Fz' Nz' hnz' hsz' hDz' hilz' hdoz' hmAz'; (try dsimp only); (try k_sweep))
  k_with "L:call ref" => (k_here; (with_reducible show wpAny _ _ (call (Value.ref 96) _ _) _ _ _); k_dflt (refine' fault_t (by k_asm) (by k_asm) (by k_asm) (by k_asm) (by k_asm) (by first | exact rfl | assumption) (by ktr_room) (by ktr_units) ?_; k_whole); intro ez' Dz' tz' oDz' mAz' keptz' hz' tkz' Fz' Nz' hnz' hsz' hDz' hdoz'; (try dsimp only); (try k_sweep))
  k_with "L:exec Raise some none" => (refine raise_open ?_)
  k_with "L:raiseRest ref" => (k_here; k_dflt (refine' raiseRest_K (by k_asm) (by k_asm) (by k_asm) (by exact List.Mem.head _) (by k_is) (by decide +kernel) (by exact rfl) (by exact rfl) ?_; k_whole))
  k_with "L:leaving ref" => (k_here; k_dflt (refine' leaveF_first (by k_asm) (by k_asm) (by k_asm) (by k_asm) (by assumption) (by assumption) (by exact rfl) (by first | assumption | exact sub_tail (by assumption) | exact sub_tail (sub_tail (by assumption)) | exact sub_tail (sub_tail (sub_tail (by assumption)))) ?_ (by exact rfl); k_whole); intro hz' xz')
  k_with "L:leaving ref" => (k_here; k_dflt (refine' leaveX_first (by k_asm) (by k_asm) (by k_asm) (by k_asm) (by assumption) (by assumption) (by exact rfl) (by first | assumption | exact sub_tail (by assumption) | exact sub_tail (sub_tail (by assumption)) | exact sub_tail (sub_tail (sub_tail (by assumption)))) (by assumption) (by assumption) (by assumption) (by assumption) ?_ (by exact rfl); k_whole); intro hz' xz')
  k_with "L:leaving ref" => (k_here; k_dflt (refine' leaveX_next (by k_asm) (by k_asm) (by assumption) (by assumption) (by first | exact fun _ h => h | exact fun _ h => List.Mem.tail _ h | exact fun _ h => List.Mem.tail _ (List.Mem.tail _ h)) ?_; k_whole); intro hz' xz')
  k_with "L:UnrEnd" => (k_dflt (refine' unrEnd_m (by assumption) (by assumption) (by assumption) ?_; k_whole))
  k_with "L:m news" => (first | k_asm | assumption | exact news_tl (by assumption) | exact news_tl (news_tl (by assumption)) | exact news_tl (news_tl (news_tl (by assumption))))
  k_with "L:call ref" => (k_here; (with_reducible show wpAny _ _ (call (Value.ref 245) _ _) _ _ _); k_dflt (refine' reckon_s (by k_asm) (by k_asm) (by k_asm) (by k_asm) (by k_asm) (by first | exact rfl | assumption) (by ktr_room) (by ktr_units) (by walk_at "m prem") (by walk_at "m prem") (by walk_at "m prem") (by walk_at "m prem") (by walk_at "m prem") ?_ ?_; k_whole); all_goals (intros; (try dsimp only); (try k_sweep)))
  k_with "L:call ref" => (k_here; (with_reducible show wpAny _ _ (call (Value.ref 252) _ _) _ _ _); k_dflt (refine' blk_any (by k_asm) (by k_asm) (by k_asm) (by k_asm) (by k_asm) (by first | exact rfl | assumption) (by ktr_room) (by ktr_units) (by walk_at "m prem") (by walk_at "m prem") (by walk_at "m prem") (by walk_at "m prem") (by walk_at "m prem") (by walk_at "m prem") (by walk_at "m prem") (by walk_at "m prem") (by walk_at "m prem") (by walk_at "m prem") (by walk_at "m prem") (by walk_at "m prem") ?_ ?_; k_whole); all_goals (intros; (try dsimp only); (try k_sweep)))
  k_with "L:call ref" => (k_here; (with_reducible show wpAny _ _ (call (Value.ref 294) _ _) _ _ _); k_dflt (refine' allocate_t (by k_asm) (by k_asm) (by k_asm) (by k_asm) (by k_asm) (by first | exact rfl | assumption) (by ktr_room) (by ktr_units) (by walk_at "m prem") (by walk_at "m prem") (by walk_at "m prem") (by walk_at "m prem") (by walk_at "m prem") (by walk_at "m prem") (by walk_at "m prem") (by walk_at "m prem") ?_; k_whole); intro thz' cz' tz' nz' hz' tkz' Fz' Nz' hmz' hkz'; (try dsimp only); (try k_sweep))
  k_with "L:call ref" => (k_here; (with_reducible show wpAny _ _ (call (Value.ref 357) _ _) _ _ _); k_dflt (refine' cons_t (by k_asm) (by k_asm) (by k_asm) (by k_asm) (by k_asm) (by first | exact rfl | assumption) (by ktr_room) (by ktr_units) (by walk_at "m prem") (by walk_at "m prem") (by walk_at "m prem") (by walk_at "m prem") ?_; k_whole); intro thz' cz' tz' nz' hz' tkz' Fz' Nz' hmz' hkz'; (try dsimp only); (try k_sweep))
  k_with "L:subscriptTail" => (k_here; (with_reducible show wpAny _ _ (subscriptTail _ _ (Value.ref 182) (Value.int _ _)) _ _ _); k_dflt (refine' row_item (by k_asm) (by k_asm) (by omega) (by omega) ?_ (by with_unfolding_all rfl); k_whole))
  k_with "L:assign Tuple" => (k_here; (with_reducible show wpAny _ _ (assign (Expr.Tuple _ _ _) _ (Value.ref (170 + Int.toNat _))) _ _ _); k_dflt (refine' row_unpack (by k_asm) (by k_asm) (by k_asm) (by omega) (by omega) (by exact rfl) (by exact rfl) (by exact rfl) ?_); intro hz' Fz' Nz'; (try dsimp only); (try k_sweep))
  k_with "L:m prem" => (first | assumption | exact rfl | k_mem | omega | exact (by assumption : 1 < _ → _ = some _) (by omega) | exact (by assumption : isBlk _ → _) (isBlk_of (by omega) (by omega) (by omega)) | exact isBlk_of (by omega) (by omega) (by omega) | exact fun z => (by assumption : 1 < _ → _ = some _) (two_of (isBlk_of (by omega) (by omega) (by omega)) (by omega) z) | exact ne_of_l1 (by assumption) (by assumption) | ((simp only [List.length_append, List.length_cons, List.length_nil, List.length_set]); omega) | decide)
  trivial
/-- what run gives: the word told and the cells afterwards -/
def RunOut (vs : List Value) (op w0 w1 : Int) (t0 t1 : Tok) (r : Int) (vs' : List Value) : Prop :=
  if op < 3 then w0.fmod 8 = 0 ∧ w1.fmod 8 = 0 ∧ r = reckRes op w0 w1 ∧ vs' = vs
  else if op = 3 then r = (if w0 = w1 then 12 else 4) ∧ vs' = vs
  else if op = 4 then r = (vs.length : Int) * 8 + 1 ∧ ∃ th, vs' = vs ++ [Value.int 261 th] ++ [Value.int w0 t0, Value.int w1 t1]
  else if op = 9 then r = (vs.length : Int) * 8 + 1 ∧ ∃ th, vs' = vs ++ [Value.int 165 th] ++ [Value.int w0 t0]
  else BlkOut vs op w0 (.int w1 t1) r vs'
section
variable {w : World} {p : Program} {loose : List Str} {mean : ExcName → Option Value} {mg mb : Str → Option Value} {dp un : Nat} {gd : Option (List Code)} {cn : Str} {cs : Scope} {L a : Addr} {ccd : Value} {cl : List (Str × Addr)} {outer : List Env} {A₀ : Around} {base h₀ : Heap} {m : Str → Option Value} {news : List (Addr × Obj)} {s : Shared} {Q E : Value → Shared → Prop}
set_option maxHeartbeats 8000000 in
theorem run_t {lx ldx hx hdx HC wl : Addr} {t1 t2 t3 t4 : Tok} {k1 k2 k3 : Int} {dn dn2 cn' c : Nat} {vs ws : List Value} {op w0 w1 : Int} {t t0 t01 : Tok} (B : Below A₀ base outer h₀) (F : Fr h₀ L s.heap m) (X : (hd.heap_39 w.params).In h₀) (N : News h₀ L s.heap news) (T : Top p loose mean mg mb h₀) (hk : cs.kind = .function) (hd1 : dp + 120 < recursionLimit) (hu1 : un + 900 < cLine) (ho0 : 0 ≤ op) (ho : op ≤ 12)
    (g1 : (lx, instObj 255 ldx) ∈ news) (g2 : (ldx, dictOf [⟨k3, .str "heap" t4, .ref hx⟩] dn2) ∈ news) (h1 : (hx, instObj 360 hdx) ∈ news) (h2 : (hdx, dictOf [⟨k1, .str "limit" t1, .int 1000 t2⟩, ⟨k2, .str "cells" t3, .ref HC⟩] dn) ∈ news) (h3 : (HC, listOf vs.toArray cn') ∈ news) (h5 : vs.length < 800) (hw : (wl, listOf ws.toArray c) ∈ news) (hne : wl ≠ HC) (hl : ws.length < 10) (i0 : ws[0]? = some (Value.int w0 t0)) (i1 : 1 < ws.length → ws[1]? = some (Value.int w1 t01)) (hB : isBlk op → BlkIn vs op w0)
    (hexf : ∀ e h' tk', ExF base (envX cn cs L a ccd cl :: outer) h₀ L m news 96 e h' → op = 12 → E (.ref e) { s with heap := h', toks := tk' })
    (hexa : ∀ e tn tp h' tk', ExW base (envX cn cs L a ccd cl :: outer) h₀ L m news 58 e [.str (rowName op) tn, .int ws.length tp] h' → op < 12 → (ws.length : Int) ≠ rowMany op → E (.ref e) { s with heap := h', toks := tk' })
    (hexk : ∀ e tn pl tp tw h' tk', ExW base (envX cn cs L a ccd cl :: outer) h₀ L m news 77 e [.str (rowName op) tn, .int pl tp, .int (if pl = 0 then w0 else w1) tw] h' → op < 12 → (ws.length : Int) = rowMany op → (op < 3 ∧ (pl = 0 ∧ w0.fmod 8 ≠ 0 ∨ pl = 1 ∧ w0.fmod 8 = 0 ∧ w1.fmod 8 ≠ 0) ∨ isBlk op ∧ pl = 0 ∧ IsKind vs w0 (kdOf op) false) → E (.ref e) { s with heap := h', toks := tk' })
    (hret : ∀ (r : Int) (t' : Tok) vs' cn'' news' h' tk', Fr h₀ L h' m → News h₀ L h' news' → op < 12 → (ws.length : Int) = rowMany op → RunOut vs op w0 w1 t0 t01 r vs' → (HC, listOf vs'.toArray cn'') ∈ news' → (∀ q ∈ news, q.1 ≠ HC → q ∈ news') → Q (.int r t') { s with heap := h', toks := tk' }) : wpAny (model PySem.Challenge.rw_on0295_01.row.prog w) (ktrTop dp un gd cn cs L a ccd cl outer) (call (.ref 238) [.ref lx, .int op t, .ref wl]) Q E s := by
  have hm2 : op ≤ 4 → rowMany op = 2 := rowMany_2 ho0
  walk_at "m enter"
  k_steps
  all_goals (try simp only [beq_iff_eq])
  all_goals first
    | exact hexf _ _ _ (by assumption) (by omega)
    | exact hexa _ _ _ _ _ (by assumption) (by omega) (by omega)
    | exact hexk _ _ _ _ _ _ _ (by assumption) (by omega) (by omega) (.inl ⟨by omega, by assumption⟩)
    | exact hexk _ _ 0 _ _ _ _ (by assumption) (by omega) (by omega) (.inr ⟨isBlk_of (by omega) (by omega) (by omega), rfl, by assumption⟩)
    | (refine hret _ _ vs _ _ _ _ (by k_asm) (by walk_at "m news") (by omega) (by omega) ?_ (by assumption) (by walk_at "m sub"); (first | (unfold RunOut; rw [if_pos (by omega)]; exact ⟨by assumption, by assumption, rfl, rfl⟩) | (unfold RunOut; rw [if_neg (by omega), if_pos (by omega)]; exact ⟨rfl, rfl⟩)))
    | (refine hret _ _ _ _ _ _ _ (by k_asm) (by walk_at "m news") (by omega) (by omega) ?_ (by assumption) (by walk_at "m sub"); (first | (unfold RunOut; rw [if_neg (by omega), if_neg (by omega), if_neg (by omega), if_neg (by omega)]; assumption) | (unfold RunOut; rw [if_neg (by omega), if_neg (by omega), if_pos (by omega)]; exact ⟨rfl, _, rfl⟩) | (unfold RunOut; rw [if_neg (by omega), if_neg (by omega), if_neg (by omega), if_pos (by omega)]; exact ⟨rfl, _, rfl⟩)))
end
theorem ln_B14_1 : True := by
  k_with_none
  k_with "L:room" => (first | exact room1 hd1 rfl | exact room2 hd1 rfl | exact room3 hd1 rfl | exact room4 hd1 rfl | exact room9 hd1)
  k_with "L:units" => (first | exact unit1 hu1 rfl | exact unit2 hu1 rfl | exact unit3 hu1 rfl | exact unit4 hu1 rfl | exact unit9 hu1)
  k_with "L:k_ne" => (refine neN ?_; (try dsimp only); first | with_reducible assumption | exact Ne.symm (by with_reducible assumption) | exact Nat.ne_of_lt (by walk_at "m lt") | exact Nat.ne_of_gt (by walk_at "m lt"))
  k_with "L:m lt" => (first | with_reducible assumption | with_reducible exact And.left (by assumption) | with_reducible exact And.left (And.right (by assumption)) | with_reducible exact And.left (And.right (And.right (by assumption))) | with_reducible exact And.left (And.right (And.right (And.right (by assumption)))) | with_reducible exact And.left (And.right (And.right (And.right (And.right (by assumption))))) | with_reducible exact And.left (And.right (And.right (And.right (And.right (And.right (by assumption)))))) | with_reducible exact And.left (And.right (And.right (And.right (And.right (And.right (And.right (by assumption))))))) | with_reducible exact And.left (And.right (And.right (And.right (And.right (And.right (And.right (And.right (by assumption)))))))))
  k_with "L:m small" => (refine wpAny_call ?_; k_dflt ktr_enter; k_steps)
  k_with "L:m enter" => (refine wpAny_call ?_; k_dflt ktr_enter)
  k_with "L:m prem" => (first | assumption | exact rfl | omega | decide)
  k_with "L:call ref" => (k_here; (with_reducible show wpAny _ _ (call (Value.ref 106) _ _) _ _ _); k_dflt (refine' payload_t (by k_asm) (by k_asm) (by k_asm) (by k_asm) (by k_asm) (by first | exact rfl | assumption) (by ktr_room) (by ktr_units) ?_; k_whole); intro tz' hz' tkz' Fz' Nz'; (try dsimp only); (try k_sweep))
  k_with "L:call ref" => (k_here; (with_reducible show wpAny _ _ (call (Value.ref 113) _ _) _ _ _); k_dflt (refine' fix_t (by k_asm) (by k_asm) (by k_asm) (by k_asm) (by k_asm) (by first | exact rfl | assumption) (by ktr_room) (by ktr_units) ?_; k_whole); intro tz' hz' tkz' Fz' Nz'; (try dsimp only); (try k_sweep))
  k_with "L:call ref" => (k_here; (with_reducible show wpAny _ _ (call (Value.ref 120) _ _) _ _ _); k_dflt (refine' ref_t (by k_asm) (by k_asm) (by k_asm) (by k_asm) (by k_asm) (by first | exact rfl | assumption) (by ktr_room) (by ktr_units) ?_; k_whole); intro tz' hz' tkz' Fz' Nz'; (try dsimp only); (try k_sweep))
  k_with "L:call ref" => (k_here; (with_reducible show wpAny _ _ (call (Value.ref 127) _ _) _ _ _); k_dflt (refine' bool_word_t (by k_asm) (by k_asm) (by k_asm) (by k_asm) (by k_asm) (by first | exact rfl | assumption) (by ktr_room) (by ktr_units) ?_; k_whole); intro tz' hz' tkz' Fz' Nz'; (try dsimp only); (try k_sweep))
  k_with "L:call ref" => (k_here; (with_reducible show wpAny _ _ (call (Value.ref 134) _ _) _ _ _); k_dflt (refine' header_word_t (by k_asm) (by k_asm) (by k_asm) (by k_asm) (by k_asm) (by first | exact rfl | assumption) (by ktr_room) (by ktr_units) ?_; k_whole); intro tz' hz' tkz' Fz' Nz'; (try dsimp only); (try k_sweep))
  k_with "L:call ref" => (k_here; (with_reducible show wpAny _ _ (call (Value.ref 141) _ _) _ _ _); k_dflt (refine' is_fix_t (by k_asm) (by k_asm) (by k_asm) (by k_asm) (by k_asm) (by first | exact rfl | assumption) (by ktr_room) (by ktr_units) ?_; k_whole); intro hz' tkz' Fz' Nz'; (try dsimp only); (try k_sweep))
  k_with "L:call ref" => (k_here; (with_reducible show wpAny _ _ (call (Value.ref 148) _ _) _ _ _); k_dflt (refine' is_ref_t (by k_asm) (by k_asm) (by k_asm) (by k_asm) (by k_asm) (by first | exact rfl | assumption) (by ktr_room) (by ktr_units) ?_; k_whole); intro hz' tkz' Fz' Nz'; (try dsimp only); (try k_sweep))
  k_with "L:call ref" => (k_here; (with_reducible show wpAny _ _ (call (Value.ref 155) _ _) _ _ _); k_dflt (refine' is_header_t (by k_asm) (by k_asm) (by k_asm) (by k_asm) (by k_asm) (by first | exact rfl | assumption) (by ktr_room) (by ktr_units) ?_; k_whole); intro hz' tkz' Fz' Nz'; (try dsimp only); (try k_sweep))
  k_with "L:call ref" => (k_here; (with_reducible show wpAny _ _ (call (Value.ref 162) _ _) _ _ _); k_dflt (refine' header_kind_t (by k_asm) (by k_asm) (by k_asm) (by k_asm) (by k_asm) (by first | exact rfl | assumption) (by ktr_room) (by ktr_units) ?_; k_whole); intro tz' hz' tkz' Fz' Nz'; (try dsimp only); (try k_sweep))
  k_with "L:call ref" => (k_here; (with_reducible show wpAny _ _ (call (Value.ref 169) _ _) _ _ _); k_dflt (refine' header_length_t (by k_asm) (by k_asm) (by k_asm) (by k_asm) (by k_asm) (by first | exact rfl | assumption) (by ktr_room) (by ktr_units) ?_; k_whole); intro tz' hz' tkz' Fz' Nz'; (try dsimp only); (try k_sweep))
  k_with "L:m idx" => (first | decide | ((try simp only [List.length_append, List.length_cons, List.length_nil, List.length_set]); omega))
  k_with "L:m len" => ((try simp only [List.length_append, List.length_cons, List.length_nil, List.length_set]); omega)
  k_with "L:k_mem" => (assumption)
  k_with "L:k_all" => (first | assumption | (refine allLt_ne (by assumption) ?_; intro q hq; (repeat (refine List.Mem.tail _ ?_)); exact hq))
  k_with "L:newList" => (k_here; k_dflt (refine' newList_K (by k_asm) (by k_asm) ?_; k_whole); intro lz' hz' Fz' Nz' l1; (have l2 := l1); (try k_lt l2); (try k_sweep))
  k_with "L:call builtin:len" => (k_here; (with_reducible show wpAny _ _ (call (Value.builtin "len") [Value.ref _]) _ _ _); k_dflt (refine' kst_len (by k_asm) (by k_mem) (by exact rfl) (by walk_at "m len") ?_; k_whole))
  k_with "L:subscriptTail" => (k_here; (with_reducible show wpAny _ _ (subscriptTail _ _ (Value.ref _) (Value.int _ _)) _ _ _); k_dflt (refine' item_m (by k_asm) (by k_mem) (by walk_at "m idx") (by walk_at "m idx") (by first | assumption | exact rfl | exact (by assumption : 1 < _ → _ = some _) (by omega)) ?_ (by with_unfolding_all rfl); k_whole))
  k_with "L:setItem ref int" => (k_here; (with_reducible show wpAny _ _ (setItem (Value.ref _) (Value.int _ _) _) _ _ _); k_dflt (refine' set_m (by k_asm) (by k_asm) (by k_upd) (by omega) (by walk_at "m len") (by walk_at "m len") ?_; k_whole); intro hz' Fz' Nz'; (try k_sweep))
  k_with "L:call builtin:list.append" => (k_here; (with_reducible show wpAny _ _ (call (Value.builtin _) [Value.ref _, _]) _ _ _); k_dflt (refine' append_m (by k_asm) (by k_asm) (by k_upd) (by walk_at "m len") ?_; k_whole); intro hz' Fz' Nz'; (try k_sweep))
  k_with "L:call builtin:list.extend" => (k_here; (with_reducible show wpAny _ _ (call (Value.builtin _) [Value.ref _, Value.ref _]) _ _ _); k_dflt (refine' extend_m (by k_asm) (by k_asm) (by k_mem) (by k_upd) (by walk_at "m len") (by walk_at "m len") ?_; k_whole); intro hz' Fz' Nz'; (try k_sweep))
  k_with "L:call ref" => (k_here; (with_reducible show wpAny _ _ (call (Value.ref 106) _ _) _ _ _); k_dflt (refine' payload_r (by k_asm) (by k_asm) (by k_asm) (by k_asm) (by k_asm) (by first | exact rfl | assumption) (by ktr_room) (by ktr_units) ?_; k_whole); intro tz' hz' tkz' Fz' Nz'; (try dsimp only); (try k_sweep))
  k_with "L:call ref" => (k_here; (with_reducible show wpAny _ _ (call (Value.ref 148) _ _) _ _ _); k_dflt (refine' is_ref_r (by k_asm) (by k_asm) (by k_asm) (by k_asm) (by k_asm) (by first | exact rfl | assumption) (by ktr_room) (by ktr_units) ?_; k_whole); intro hz' tkz' Fz' Nz'; (try dsimp only); (try k_sweep))
  k_with "L:call ref" => (k_here; (with_reducible show wpAny _ _ (call (Value.ref 155) _ _) _ _ _); k_dflt (refine' is_header_y (by k_asm) (by k_asm) (by k_asm) (by k_asm) (by k_asm) (by first | exact rfl | assumption) (by ktr_room) (by ktr_units) (by walk_at "m prem") ?_; k_whole); intro hz' tkz' Fz' Nz'; (try dsimp only); (try k_sweep))
  k_with "L:m sub" => (intro q hq hn; first | assumption | (refine (by assumption : ∀ q ∈ _, q.1 ≠ _ → q ∈ _) q ?_ hn; k_mem))
  k_with "L:m prem" => (first | assumption | exact rfl | k_mem | omega | exact (by assumption : 1 < _ → _ = some _) (by omega) | exact ne_of_l1 (by assumption) (by assumption) | ((simp only [List.length_append, List.length_cons, List.length_nil, List.length_set]); omega) | decide)
  k_with "L:call ref" => (k_here; (with_reducible show wpAny _ _ (call (Value.ref 280) _ _) _ _ _); k_dflt (refine' used_t (by k_asm) (by k_asm) (by k_asm) (by k_asm) (by k_asm) (by first | exact rfl | assumption) (by ktr_room) (by ktr_units) (by walk_at "m prem") (by walk_at "m prem") (by walk_at "m prem") (by walk_at "m prem") ?_; k_whole); intro tz' hz' tkz' Fz' Nz'; (try dsimp only); (try k_sweep))
  k_with "L:call ref" => (k_here; (with_reducible show wpAny _ _ (call (Value.ref 301) _ _) _ _ _); k_dflt (refine' header_at_t (by k_asm) (by k_asm) (by k_asm) (by k_asm) (by k_asm) (by first | exact rfl | assumption) (by ktr_room) (by ktr_units) (by walk_at "m prem") (by walk_at "m prem") (by walk_at "m prem") (by walk_at "m prem") (by walk_at "m prem") (by walk_at "m prem") ?_; k_whole); intro hz' tkz' Fz' Nz'; (try dsimp only); (try k_sweep))
  k_with "L:call ref" => (k_here; (with_reducible show wpAny _ _ (call (Value.ref 322) _ _) _ _ _); k_dflt (refine' is_kind_t (by k_asm) (by k_asm) (by k_asm) (by k_asm) (by k_asm) (by first | exact rfl | assumption) (by ktr_room) (by ktr_units) (by walk_at "m prem") (by walk_at "m prem") (by walk_at "m prem") (by walk_at "m prem") (by walk_at "m prem") (by walk_at "m prem") ?_; k_whole); intro hz' tkz' Fz' Nz'; (try dsimp only); (try k_sweep))
  k_with "L:call ref" => (k_here; (with_reducible show wpAny _ _ (call (Value.ref 322) _ _) _ _ _); k_dflt (refine' is_kind_n (by k_asm) (by k_asm) (by k_asm) (by k_asm) (by k_asm) (by first | exact rfl | assumption) (by ktr_room) (by ktr_units) (by walk_at "m prem") (by walk_at "m prem") (by walk_at "m prem") ?_; k_whole); intro hz' tkz' Fz' Nz'; (try dsimp only); (try k_sweep))
  k_with "L:call ref" => (k_here; (with_reducible show wpAny _ _ (call (Value.ref 329) _ _) _ _ _); k_dflt (refine' place_of_t (by k_asm) (by k_asm) (by k_asm) (by k_asm) (by k_asm) (by first | exact rfl | assumption) (by ktr_room) (by ktr_units) (by walk_at "m prem") (by walk_at "m prem") (by walk_at "m prem") (by walk_at "m prem") (by walk_at "m prem") (by walk_at "m prem") (by walk_at "m prem") (by walk_at "m prem") ?_; k_whole); intro tz' hz' tkz' Fz' Nz'; (try dsimp only); (try k_sweep))
  k_with "L:call ref" => (k_here; (with_reducible show wpAny _ _ (call (Value.ref 336) _ _) _ _ _); k_dflt (refine' field_t (by k_asm) (by k_asm) (by k_asm) (by k_asm) (by k_asm) (by first | exact rfl | assumption) (by ktr_room) (by ktr_units) (by walk_at "m prem") (by walk_at "m prem") (by walk_at "m prem") (by walk_at "m prem") (by walk_at "m prem") (by walk_at "m prem") (by walk_at "m prem") (by walk_at "m prem") (by walk_at "m prem") (by walk_at "m prem") ?_; k_whole); intro hz' tkz' Fz' Nz'; (try dsimp only); (try k_sweep))
  k_with "L:call ref" => (k_here; (with_reducible show wpAny _ _ (call (Value.ref 343) _ _) _ _ _); k_dflt (refine' set_field_t (by k_asm) (by k_asm) (by k_asm) (by k_asm) (by k_asm) (by first | exact rfl | assumption) (by ktr_room) (by ktr_units) (by walk_at "m prem") (by walk_at "m prem") (by walk_at "m prem") (by walk_at "m prem") (by walk_at "m prem") (by walk_at "m prem") (by walk_at "m prem") (by walk_at "m prem") (by walk_at "m prem") ?_; k_whole); intro nz' hz' tkz' Fz' Nz' hmz' hkz'; (try dsimp only); (try k_sweep))
  k_with "L:m passes" => (intro self; first | (rw [refuseLoop_ref, refuseLoop_ref]; exact PySem.F.store_Exception.passes self) | (rw [refuseLoop_ref]; exact PySem.F.store_Exception.passes self) | exact PySem.F.store_Exception.passes self)
  k_with "L:m inside" => (first | exact within1 _ _ | exact within2 _ _ _ _ | exact within3 _ _ _ _ _ _ | exact within4 _ _ _ _ _ _ _ _ | exact within5 _ _ _ _ _ _ _ _ _ _)
  k_with "L:setAttr ref" => (k_here; k_dflt (refine' setattr1 (by k_asm) (by k_asm) (by k_asm) (by k_mem) (by k_updF) (by assumption) (by k_is) (by decide +kernel) (by walk_at "m passes") (by k_is) (by k_is) (by walk_at "m inside") (by decide) ?_; k_whole); intro oDz' hz' tkz' Fz' Nz' hDz'; (try dsimp only at Nz'); (try k_sweep))
  k_with "L:setAttr ref" => (k_here; k_dflt (refine' setattr0 (by k_asm) (by k_asm) (by k_asm) (by k_updF) (by k_is) (by decide +kernel) (by walk_at "m passes") (by k_is) (by k_is) ?_; k_whole); intro Dz' oDz' hz' tkz' Fz' Nz' hDz' l1; (have l2 := l1); (try k_lt l2); (try dsimp only at Nz'); (try k_sweep))
  k_with "L:call ref" => (k_here; (with_reducible show wpAny _ _ (call (Value.ref 77) _ _) _ _ _); k_dflt (refine' wrong_kind_t (by k_asm) (by k_asm) (by k_asm) (by k_asm) (by k_asm) (by first | exact rfl | assumption) (by ktr_room) (by ktr_units) ?_; k_whole); intro ez' Dz' tz' ilz' cz' oDz' mAz' keptz' hz' tkz' Fz' Nz' hnz' hsz' hDz' hilz' hdoz' hmAz'; (try dsimp only); (try k_sweep))
  k_with "L:call ref" => (k_here; (with_reducible show wpAny _ _ (call (Value.ref 58) _ _) _ _ _); k_dflt (refine' wrong_arity_t (by k_asm) (by k_asm) (by k_asm) (by k_asm) (by k_asm) (by first | exact rfl | assumption) (by ktr_room) (by ktr_units) ?_; k_whole); intro ez' Dz' tz' ilz' cz' oDz' mAz' keptz' hz' tkz' Fz' Nz' hnz' hsz' hDz' hilz' hdoz' hmAz'; (try dsimp only); (try k_sweep))
  k_with "L:call ref" => (k_here; (with_reducible show wpAny _ _ (call (Value.ref 96) _ _) _ _ _); k_dflt (refine' fault_t (by k_asm) (by k_asm) (by k_asm) (by k_asm) (by k_asm) (by first | exact rfl | assumption) (by ktr_room) (by ktr_units) ?_; k_whole); intro ez' Dz' tz' oDz' mAz' keptz' hz' tkz' Fz' Nz' hnz' hsz' hDz' hdoz'; (try dsimp only); (try k_sweep))
  k_with "L:exec Raise some none" => (refine raise_open ?_)
  k_with "L:raiseRest ref" => (k_here; k_dflt (refine' raiseRest_K (by k_asm) (by k_asm) (by k_asm) (by exact List.Mem.head _) (by k_is) (by decide +kernel) (by exact rfl) (by exact rfl) ?_; k_whole))
  k_with "L:leaving ref" => (k_here; k_dflt (refine' leaveF_first (by k_asm) (by k_asm) (by k_asm) (by k_asm) (by assumption) (by assumption) (by exact rfl) (by first | assumption | exact sub_tail (by assumption) | exact sub_tail (sub_tail (by assumption)) | exact sub_tail (sub_tail (sub_tail (by assumption)))) ?_ (by exact rfl); k_whole); intro hz' xz')
  k_with "L:leaving ref" => (k_here; k_dflt (refine' leaveX_first (by k_asm) (by k_asm) (by k_asm) (by k_asm) (by assumption) (by assumption) (by exact rfl) (by first | assumption | exact sub_tail (by assumption) | exact sub_tail (sub_tail (by assumption)) | exact sub_tail (sub_tail (sub_tail (by assumption)))) (by assumption) (by assumption) (by assumption) (by assumption) ?_ (by exact rfl); k_whole); intro hz' xz')
  k_with "L:leaving ref" => (k_here; k_dflt (refine' leaveX_next (by k_asm) (by k_asm) (by assumption) (by assumption) (by first | exact fun _ h => h | exact fun _ h => List.Mem.tail _ h | exact fun _ h => List.Mem.tail _ (List.Mem.tail _ h)) ?_; k_whole); intro hz' xz')
  k_with "L:UnrEnd" => (k_dflt (refine' unrEnd_m (by assumption) (by assumption) (by assumption) ?_; k_whole))
  k_with "L:m news" => (first | k_asm | assumption | exact news_tl (by assumption) | exact news_tl (news_tl (by assumption)) | exact news_tl (news_tl (news_tl (by assumption))))
  k_with "L:call ref" => (k_here; (with_reducible show wpAny _ _ (call (Value.ref 322) _ _) _ _ _); k_dflt (refine' is_kind_a (by k_asm) (by k_asm) (by k_asm) (by k_asm) (by k_asm) (by first | exact rfl | assumption) (by ktr_room) (by ktr_units) (by walk_at "m prem") (by walk_at "m prem") (by walk_at "m prem") (by walk_at "m prem") (by walk_at "m prem") ?_; k_whole); intro hz' tkz' Fz' Nz'; (try dsimp only); (try k_sweep))
  k_with "L:m prem" => (first | with_reducible assumption | exact rfl | k_mem | omega | assumption | decide)
  trivial
/-- a word that the library may be handed: no reference, or one to a box or to a pair of such words -/
def GoodW (vs : List Value) (G : Int → Prop) : Prop := ∀ w, G w → w.fmod 8 ≠ 1 ∨ (∃ (ad : Nat) (th : Tok), w = (ad : Int) * 8 + 1 ∧ vs[ad]? = some (.int 165 th)) ∨
  ∃ (ad : Nat) (th ta td : Tok) (a d : Int), w = (ad : Int) * 8 + 1 ∧ vs[ad]? = some (.int 261 th) ∧ vs[ad + 1]? = some (.int a ta) ∧ vs[ad + 2]? = some (.int d td) ∧ G d
/-- so many pairs on from a word, and their firsts -/
inductive Steps (vs : List Value) (w0 : Int) : Nat → Int → List Value → Prop
  | nil : Steps vs w0 0 w0 []
  | snoc {k ad : Nat} {th ta td : Tok} {a d : Int} {acc : List Value} : Steps vs w0 k ((ad : Int) * 8 + 1) acc → vs[ad]? = some (.int 261 th) → vs[ad + 1]? = some (.int a ta) → vs[ad + 2]? = some (.int d td) → Steps vs w0 (k + 1) d (acc ++ [.int a ta])
theorem Steps.length {vs : List Value} {w0 x : Int} {k : Nat} {acc : List Value} (h : Steps vs w0 k x acc) : acc.length = k := by
  induction h with
  | nil => rfl
  | snoc _ _ _ _ ih => rw [List.length_append, ih]; rfl
theorem ref_inj {a b : Nat} (h : (a : Int) * 8 + 1 = (b : Int) * 8 + 1) : a = b := by omega
theorem Steps.det {vs : List Value} {w0 x : Int} {k : Nat} {acc : List Value} (h : Steps vs w0 k x acc) : ∀ {y : Int} {acc' : List Value}, Steps vs w0 k y acc' → x = y ∧ acc = acc' := by
  induction h with
  | nil => intro y acc' h'; cases h'; exact ⟨rfl, rfl⟩
  | snoc h1 h2 h3 h4 ih =>
    intro y acc' h'
    cases h' with
    | snoc g1 g2 g3 g4 =>
      obtain ⟨e1, rfl⟩ := ih g1
      have e := ref_inj e1
      subst e
      rw [h3] at g3
      rw [h4] at g4
      cases g3
      cases g4
      exact ⟨rfl, rfl⟩
theorem Steps.pre {vs : List Value} {w0 y : Int} {n : Nat} {acc' : List Value} (h : Steps vs w0 n y acc') : ∀ {k : Nat} {x : Int} {acc : List Value}, k < n → Steps vs w0 k x acc → ∃ (ad : Nat) (th : Tok), x = (ad : Int) * 8 + 1 ∧ vs[ad]? = some (.int 261 th) := by
  induction h with
  | nil => intro k x acc hk; exact absurd hk (Nat.not_lt_zero _)
  | snoc h1 h2 h3 h4 ih =>
    intro k x acc hk hs
    rcases Nat.lt_or_eq_of_le (Nat.le_of_lt_succ hk) with hk | rfl
    · exact ih hk hs
    · exact ⟨_, _, (hs.det h1).1, h2⟩
theorem no_steps_stop {vs : List Value} {w0 x : Int} {k : Nat} {acc : List Value} (h : Steps vs w0 k x acc) (hn : ¬ ∃ (ad : Nat) (th : Tok), x = (ad : Int) * 8 + 1 ∧ vs[ad]? = some (.int 261 th)) (hx : x ≠ 20) (n : Nat) : ∀ k' acc', ¬ (k' ≤ n ∧ Steps vs w0 k' 20 acc') := by
  rintro k' acc' ⟨_, h'⟩
  rcases Nat.lt_trichotomy k' k with q | rfl | q
  · obtain ⟨ad, _, e, _⟩ := h.pre q h'
    omega
  · exact hx (h.det h').1
  · exact hn (h'.pre q h)
theorem no_steps_left {vs : List Value} {w0 : Int} {k ad n : Nat} {acc : List Value} (h : Steps vs w0 k ((ad : Int) * 8 + 1) acc) (hk : n ≤ k) : ∀ k' acc', ¬ (k' ≤ n ∧ Steps vs w0 k' 20 acc') := by
  rintro k' acc' ⟨hle, h'⟩
  rcases Nat.lt_or_eq_of_le (Nat.le_trans hle hk) with q | rfl
  · obtain ⟨ad, _, e, _⟩ := h.pre q h'
    omega
  · have := (h.det h').1
    omega
theorem goodKind {vs : List Value} {G : Int → Prop} (g : GoodW vs G) {w : Int} (h : G w) : IsKind vs w 0 false ∧ (¬ ∃ (ad : Nat) (th : Tok), w = (ad : Int) * 8 + 1 ∧ vs[ad]? = some (.int 261 th)) ∨
    ∃ (ad : Nat) (th ta td : Tok) (a d : Int), w = (ad : Int) * 8 + 1 ∧ vs[ad]? = some (.int 261 th) ∧ vs[ad + 1]? = some (.int a ta) ∧ vs[ad + 2]? = some (.int d td) ∧ G d := by
  rcases g w h with z | ⟨ad, th, e, z⟩ | z
  · refine .inl ⟨.inl ⟨z, rfl⟩, fun ⟨ad, th, e, _⟩ => z ?_⟩
    rw [e, fmod8_1]
  · refine .inl ⟨.inr ⟨ad, 165, th, e, z, rfl, rfl⟩, fun ⟨ad', th', e', z'⟩ => ?_⟩
    have : ad = ad' := by omega
    subst this
    rw [z] at z'
    cases z'
  · exact .inr z
theorem fr_ext {h₀ h : Heap} {L : Addr} {m m' : Str → Option Value} (F : Fr h₀ L h m) (e : ∀ y, m y = m' y) : Fr h₀ L h m' := (funext e : m = m') ▸ F
section
variable {prog : Program} {w : World} {A : Around} {E : Value → Shared → Prop} {s : Shared} {h₀ : Heap} {L l : Addr} {news : List (Addr × Obj)}
theorem item_last {value slice : PySem.Expr} {us : List Value} {c : Nat} {u : Tok} {v : Value} {Q : Value → Shared → Prop}
    (N : News h₀ L s.heap news) (hm : (l, listOf us.toArray c) ∈ news) (hx : us.getLast? = some v) (hl : us.length < 1000) (h : Q v s)
    (hs : subscripted slice false (.ref l) (.int (-1) u) = operate [.ref l, .int (-1) u] (getItem (.ref l) (.int (-1) u)) := by with_unfolding_all rfl) :
    wpAny (model prog w) A (subscriptTail value slice (.ref l) (.int (-1) u)) Q E s := by
  have hl' : s.heap.IsList l us.toArray := ⟨_, (N _ hm).1, rfl, c, rfl⟩
  have hp : 0 < us.length := by
    cases us with
    | nil => cases hx
    | cons => simp
  refine tail_any hl'.typeIs PySem.F.slot_list_getitem.lookup (wpAny_getItem_list_neg (x := v) hl' (by omega) (by simp; omega) (by omega) ?_ h) hs
  rw [List.getLast?_eq_getElem?] at hx
  have e : (-1 + ((us.toArray.size : Nat) : Int)).toNat = us.length - 1 := by simp; omega
  rw [e]
  simpa using hx
end
theorem ln_B14_2 : True := by
  k_with "L:subscriptTail" => (k_here; (with_reducible show wpAny _ _ (subscriptTail _ _ (Value.ref _) (Value.int (-1) _)) _ _ _); k_dflt (refine' item_last (by k_asm) (by k_mem) (by first | with_reducible assumption | exact rfl | assumption) (by walk_at "m len") ?_ (by with_unfolding_all rfl); k_whole))
  trivial
def spreadM (m : Str → Option Value) (here : Int) (t1 : Tok) (left : Int) (t2 : Tok) : Str → Option Value :=
  fun y => if y = "here" then some (.int here t1) else if y = "left" then some (.int left t2) else m y
def SpreadStop (Q : Flow → Shared → Prop) (b : Bool) (s₂ : Shared) : Prop := b = false ∧ Q .next s₂
def SpreadStep (h₀ : Heap) (L : Addr) (s : Shared) (m : Str → Option Value) (n0 : Nat) (fl : Addr) (us : List Value) (news₀ : List (Addr × Obj)) (k : Nat) (d : Int) (x : Value) (f : Flow) (s₃ : Shared) : Prop :=
  f = .next ∧ ∃ h' tk m₂ ta tb c, s₃ = { s with heap := h', toks := tk } ∧ Fr h₀ L h' m₂ ∧ (∀ y, m₂ y = spreadM m d ta ((n0 : Int) - ((k : Int) + 1)) tb y) ∧ News h₀ L h' ((fl, listOf (us ++ [x]).toArray c) :: news₀)
theorem spread_step {h₀ : Heap} {L : Addr} {s : Shared} {m : Str → Option Value} {n0 : Nat} {fl : Addr} {us : List Value} {news₀ : List (Addr × Obj)} {k : Nat} {d a x₀ l₀ : Int} {x : Value} {h' : Heap} {tk c : Nat} {ta tb t1 t2 : Tok}
    (F : Fr h₀ L h' (fun y => if y = "left" then some (.int a tb) else if y = "here" then some (.int d ta) else spreadM m x₀ t1 l₀ t2 y)) (e : a = (n0 : Int) - ((k : Int) + 1)) (N : News h₀ L h' ((fl, listOf (us.toArray.push x) c) :: news₀)) :
    SpreadStep h₀ L s m n0 fl us news₀ k d x .next { s with heap := h', toks := tk } := by
  subst e
  refine ⟨rfl, h', tk, _, ta, tb, c, rfl, F, fun y => ?_, by rw [← List.push_toArray]; exact N⟩
  unfold spreadM
  by_cases q1 : y = "left"
  · subst q1
    rfl
  · by_cases q2 : y = "here"
    · subst q2
      rfl
    · simp only [if_neg q1, if_neg q2]
section
variable {prog : Program} {w : World} {A : Around} {E : Value → Shared → Prop} {Q : Flow → Shared → Prop} {s : Shared} {env : Env} {h₀ h₉ : Heap} {L L₉ fl : Addr} {m : Str → Option Value} {news₀ led : List (Addr × Obj)} {vs mid : List Value} {G : Int → Prop} {w1 : Int} {t01 tl : Tok} {n0 c0 : Nat}
theorem spread_loop {test : PySem.Expr} {body : List Stmt} {pos : Pos} {hq : Heap} {m₉ : Str → Option Value} (F : Fr h₀ L s.heap m) (N : News h₀ L s.heap led) (FG : Fr h₉ L₉ h₀ m₉) (N0 : News h₉ L₉ hq news₀) (hg : GoodW vs G) (e0 : m "here" = some (.int w1 t01)) (e1 : m "left" = some (.int (n0 : Nat) tl)) (e2 : m "found" = some (.ref fl))
    (hG : G w1) (h5 : vs.length < 800) (hfl : (fl, listOf mid.toArray c0) ∈ led) (hmid : mid.length ≤ 10) (hn0 : n0 ≤ vs.length) (hsub : ∀ q ∈ news₀, q ∈ led)
    (stop : ∀ (k : Nat) here acc h₁ tk₁ ta tb ca, Fr h₀ L h₁ (spreadM m here ta ((n0 : Int) - (k : Int)) tb) → News h₀ L h₁ ((fl, listOf (mid ++ acc).toArray ca) :: news₀) → Steps vs w1 k here acc → IsKind vs here 0 false → (¬ ∃ (ad : Nat) (th : Tok), here = (ad : Int) * 8 + 1 ∧ vs[ad]? = some (.int 261 th)) → k ≤ n0 →
      wpAny (model prog w) A (isTrue test env (eval test env)) (SpreadStop Q) E { s with heap := h₁, toks := tk₁ })
    (turn : ∀ (k ad : Nat) (th tA tD : Tok) (a d : Int) acc h₁ tk₁ ta tb ca, Fr h₀ L h₁ (spreadM m ((ad : Int) * 8 + 1) ta ((n0 : Int) - (k : Int)) tb) → News h₀ L h₁ ((fl, listOf (mid ++ acc).toArray ca) :: news₀) → Steps vs w1 k ((ad : Int) * 8 + 1) acc → IsKind vs ((ad : Int) * 8 + 1) 0 true →
      vs[ad]? = some (.int 261 th) → vs[((ad : Int) + 1 + 0).toNat]? = some (.int a tA) → vs[((ad : Int) + 1 + 1).toNat]? = some (.int d tD) → G d → k ≤ n0 → (mid ++ acc).length < 900 → (ad : Int) + 1 + 0 < 900 → (ad : Int) + 1 + 1 < 900 →
      wpAny (model prog w) A (isTrue test env (eval test env)) (fun b s₂ => if b = true then wpAny (model prog w) A (execs body env) (SpreadStep h₀ L s m n0 fl (mid ++ acc) news₀ k d (.int a tA)) E s₂ ∧ k < n0 else Q .next s₂) E { s with heap := h₁, toks := tk₁ })
    (hE : PassesOwn (model prog w) A env E := by passes_own) : wpAny (model prog w) A (exec (.While test body [] pos) env) Q E s := by
  let J : Nat → (Str → Option Value) → List (Addr × Obj) → Prop := fun n m₁ news₁ => ∃ (k : Nat) (here : Int) (acc : List Value) (ta tb : Tok) (ca : Nat), n + k = n0 ∧ m₁ = spreadM m here ta ((n0 : Int) - (k : Int)) tb ∧ news₁ = (fl, listOf (mid ++ acc).toArray ca) :: news₀ ∧ Steps vs w1 k here acc ∧ G here
  have F' : Fr h₀ L s.heap (spreadM m w1 t01 ((n0 : Int) - ((0 : Nat) : Int)) tl) := fr_ext F fun y => by
    unfold spreadM
    by_cases q1 : y = "here"
    · rw [if_pos q1, q1, e0]
    · by_cases q2 : y = "left"
      · rw [if_neg q1, if_pos q2, q2, e1]
        simp
      · rw [if_neg q1, if_neg q2]
  have N' : News h₀ L s.heap ((fl, listOf (mid ++ []).toArray c0) :: news₀) := fun q hq => by
    rcases List.mem_cons.mp hq with rfl | hq
    · rw [List.append_nil]; exact N _ hfl
    · exact N q (hsub q hq)
  refine While_inv2 J (n₀ := n0) F' N' ⟨0, w1, [], t01, tl, c0, rfl, rfl, rfl, .nil, hG⟩ ?_ hE
  rintro n m₁ news₁ h₁ tk₁ F₁ N₁ ⟨k, here, acc, ta, tb, ca, e, rfl, rfl, st, gh⟩
  have hk : k ≤ n0 := by omega
  rcases goodKind hg gh with ⟨z1, z2⟩ | ⟨ad, th, tA, tD, a, d, rfl, z1, z2, z3, gd⟩
  · refine wpAny_mono (stop k here acc h₁ tk₁ ta tb ca F₁ N₁ st z1 z2 hk) (fun b s₂ h => ?_) fun _ _ x => x
    obtain ⟨rfl, h⟩ := h
    exact h
  · refine wpAny_mono (turn k ad th tA tD a d acc h₁ tk₁ ta tb ca F₁ N₁ st (.inr ⟨ad, 261, th, rfl, z1, rfl, rfl⟩) z1 (by rw [show ((ad : Int) + 1 + 0).toNat = ad + 1 from rfl]; exact z2) (by rw [show ((ad : Int) + 1 + 1).toNat = ad + 2 from rfl]; exact z3) gd hk (by have := st.length; rw [List.length_append]; omega) (by have := lt_of_get? z3; omega) (by have := lt_of_get? z3; omega)) (fun b s₂ h => ?_) fun _ _ x => x
    cases b with
    | false => exact h
    | true =>
      rw [if_pos rfl] at h ⊢
      refine wpAny_mono h.1 (fun f s₃ h' => ?_) fun _ _ x => x
      obtain ⟨rfl, h', tk, m₂, ta', tb', c', rfl, F₂, e₂, N₂⟩ := h'
      have hlt := h.2
      refine ⟨h', tk, _, _, n - 1, rfl, fr_ext F₂ e₂, N₂, by omega, k + 1, d, acc ++ [.int a tA], ta', tb', c', by omega, by rw [show (((k + 1 : Nat) : Int)) = (k : Int) + 1 by omega], by rw [List.append_assoc], .snoc st z1 z2 z3, gd⟩
end
theorem ln_B14_3 : True := by
  k_with "L:exec While" => (k_here; k_dflt (refine' spread_loop (by k_asm) (by k_asm) (by assumption) (by assumption) (by assumption) (by exact rfl) (by exact rfl) (by exact rfl) (by assumption) (by assumption) (by k_mem) (by first | with_reducible assumption | exact Nat.le_of_ble_eq_true rfl) (by exact Nat.le_refl _) (by first | exact fun _ h => List.Mem.tail _ h | exact fun _ h => List.Mem.tail _ (List.Mem.tail _ h) | exact fun _ h => List.Mem.tail _ (List.Mem.tail _ (List.Mem.tail _ h))) ?_ ?_); all_goals (intros; (try dsimp only)))
  k_with "L:SpreadStop" => (refine ⟨rfl, ?_⟩)
  k_with "L:m len" => (first | with_reducible assumption | ((try simp only [List.length_append, List.length_cons, List.length_nil, List.length_set]); omega))
  trivial
theorem pick_mid (a b : Value) (mid : List Value) : kms_pick (a :: (mid ++ [b])) (some 1) (some (-1)) = mid := by
  have e1 : kms_lo (some 1) (a :: (mid ++ [b])).length = 1 := by simp [kms_lo]
  have e2 : kms_hi (some (-1)) (a :: (mid ++ [b])).length = mid.length + 1 := by simp [kms_hi]
  unfold kms_pick
  rw [e1, e2]
  simp
theorem last_mid (a b : Value) (mid : List Value) : (a :: (mid ++ [b])).getLast? = some b := by
  rw [← List.cons_append, List.getLast?_append]
  rfl
theorem slice_m {prog : Program} {w : World} {A : Around} {E : Value → Shared → Prop} {s : Shared} {h₀ : Heap} {L l : Addr} {m : Str → Option Value} {news : List (Addr × Obj)} {value slice : PySem.Expr} {us zs : List Value} {c : Nat} {vl vu : Value} {lo hi : Option Int} {Q : Value → Shared → Prop}
    (F : Fr h₀ L s.heap m) (N : News h₀ L s.heap news) (hm : (l, listOf us.toArray c) ∈ news) (pl : IsPart vl lo) (pu : IsPart vu hi) (e : kms_pick us lo hi = zs) (hz : us.length < 1000)
    (h : ∀ D h', Fr h₀ L h' m → News h₀ L h' ((D, listOf zs.toArray 0) :: news) → (∀ p ∈ news, p.1 < D) → Q (.ref D) { s with heap := h' })
    (hs : subscripted slice false (.ref l) (.ref s.heap.objs.size) = operate [.ref s.heap.objs.size, .ref l] (getItem (.ref l) (.ref s.heap.objs.size))) (ht : ∀ r, letTemporaryGo value (.ref l) r = pure ()) :
    wpAny (model prog w) A (subscriptTail value slice (.ref l) (.ref s.heap.objs.size)) Q E { s with heap := s.heap.push { cls := .type "slice", data := .fields #[vl, vu, .none] } } :=
  kms_slice_lit F N ⟨_, (N _ hm).1, rfl, c, rfl⟩ pl pu e h hs ht (by rw [sizeLine_eq, List.size_toArray]; omega)
theorem ln_B14_4 : True := by
  k_with "L:subscriptTail Name Slice ref ref" => (k_here; k_dflt (refine' slice_m (by k_asm) (by k_asm) (by k_mem) (by kmk_part) (by kmk_part) (by exact pick_mid _ _ _) (by walk_at "m len") ?_ (by with_unfolding_all rfl) (by kmk_pure); k_whole); intro Dz' hz' Fz' Nz' l1; (try k_lt l1); (try k_sweep))
  trivial
section
variable {w : World} {p : Program} {loose : List Str} {mean : ExcName → Option Value} {mg mb : Str → Option Value} {dp un : Nat} {gd : Option (List Code)} {cn : Str} {cs : Scope} {L a : Addr} {ccd : Value} {cl : List (Str × Addr)} {outer : List Env} {A₀ : Around} {base h₀ : Heap} {m : Str → Option Value} {news : List (Addr × Obj)} {s : Shared} {Q E : Value → Shared → Prop}
set_option maxHeartbeats 2000000 in
theorem spread_t {lx ldx hx hdx HC wl : Addr} {t1 t2 t3 t4 : Tok} {k1 k2 k3 : Int} {dn dn2 cn' c : Nat} {vs mid : List Value} {G : Int → Prop} {w0 w1 : Int} {t0 t01 : Tok} (B : Below A₀ base outer h₀) (F : Fr h₀ L s.heap m) (X : (hd.heap_39 w.params).In h₀) (N : News h₀ L s.heap news) (T : Top p loose mean mg mb h₀) (hk : cs.kind = .function) (hd1 : dp + 120 < recursionLimit) (hu1 : un + 900 < cLine)
    (g1 : (lx, instObj 255 ldx) ∈ news) (g2 : (ldx, dictOf [⟨k3, .str "heap" t4, .ref hx⟩] dn2) ∈ news)
    (h1 : (hx, instObj 360 hdx) ∈ news) (h2 : (hdx, dictOf [⟨k1, .str "limit" t1, .int 1000 t2⟩, ⟨k2, .str "cells" t3, .ref HC⟩] dn) ∈ news) (h3 : (HC, listOf vs.toArray cn') ∈ news)
    (h5 : vs.length < 800) (hmid : mid.length ≤ 10) (hw : (wl, listOf (Value.int w0 t0 :: (mid ++ [Value.int w1 t01])).toArray c) ∈ news) (hg : GoodW vs G) (hG : G w1)
    (hexk : ∀ e tn tp h' tk', ExW base (envX cn cs L a ccd cl :: outer) h₀ L m news 77 e [.str "apply" tn, .int (((Value.int w0 t0 :: (mid ++ [Value.int w1 t01])).length : Int) - 1) tp, .int w1 t01] h' → (∀ k acc, ¬ (k ≤ vs.length ∧ Steps vs w1 k 20 acc)) → E (.ref e) { s with heap := h', toks := tk' })
    (hret : ∀ r fl c1 k acc news' h' tk', Fr h₀ L h' m → News h₀ L h' news' → (∀ q ∈ news, q ∈ news') → (fl, listOf (mid ++ acc).toArray c1) ∈ news' → (r, { cls := .type "tuple", data := .seq #[Value.int w0 t0, .ref fl] }) ∈ news' → Steps vs w1 k 20 acc → Q (.ref r) { s with heap := h', toks := tk' }) : wpAny (model PySem.Challenge.rw_on0295_01.row.prog w) (ktrTop dp un gd cn cs L a ccd cl outer) (call (.ref 231) [.ref lx, .ref wl]) Q E s := by
  have hlast : (Value.int w0 t0 :: (mid ++ [Value.int w1 t01])).getLast? = some (Value.int w1 t01) := last_mid _ _ _
  walk_at "m enter"
  k_steps
  all_goals (try simp only [decide_eq_true_eq, bne_iff_ne, ne_eq, Decidable.not_not] at *)
  all_goals first
    | exact spread_step (by assumption) (by omega) (by assumption)
    | exact hexk _ _ _ _ _ (by assumption) (no_steps_stop (by assumption) (by assumption) (by assumption) _)
    | exact hexk _ _ _ _ _ (by assumption) (no_steps_left (by assumption) (by omega))
    | (exfalso; omega)
    | (subst_vars; exact hret _ _ _ _ _ _ _ _ (by k_asm) (by walk_at "m news") (fun q hq => .tail _ (.tail _ hq)) (.tail _ (.head _)) (.head _) (by assumption))
end
/-! an own exception is caught in a def that the bottom frame calls -/
section
variable {prog : Program} {w : World} {A₀ A : Around} {s : Shared} {base h₀ : Heap} {outer : List Env} {L : Addr} {m : Str → Option Value} {env : Env} {news : List (Addr × Obj)} {K : Frag}
  {R : Result → Shared → Prop} {name qual : Str} {params : Arguments} {body : List Stmt} {scope : Scope} {dV kV doc pm cdv ct oc : Value} {an od : Option Addr} {osl : Array (Option Value)} {f : Addr} {args : Args} {binds : List (Str × Value)}
  {p : Program} {loose : List Str} {mean : ExcName → Option Value} {mg mb : Str → Option Value}
/-- a def is entered, the way back left open -/
theorem code_open (B : Below A₀ base outer h₀) (F : Fr h₀ L s.heap m) (X₀ : K.In h₀) (N : News h₀ L s.heap news) (T : Top p loose mean mg mb h₀) (hA : A.frames = some (env :: outer)) (hf : env.frame = some L) (hke : env.scope.kind = .function)
    (ho : K.lookup f = some ⟨oc, od, .func (fnOf name qual params body scope dV kV doc pm an cdv ct), osl⟩) (hcd : codeIn K cdv qual = true) (hroom : A.depth < recursionLimit)
    (hbind : BindsTo s (fnOf name qual params body scope dV kV doc pm an cdv ct) args binds) (hloc : ∀ y ∈ binds, scope.names.lookup y.1 = some .local)
    (h : ∀ g L' h₁, (∀ v s', LeaveK h₀ L m g R v s' → R (.ok (.ret v)) s') → Fr h₀ L g m → Fr g L' h₁ (fun y => binds.reverse.lookup y) → News g L' h₁ news → Below A base (env :: outer) g → K.In g → Top p loose mean mg mb g →
      wpAny (model prog w) (A.deeper (envOf qual scope L' f cdv)) (execs body (envOf qual scope L' f cdv))
        (fun fl s' => R (.ok (.ret (match fl with | .ret v => v | _ => .none))) s')
        (fun e s' => wpAny (model prog w) (A.deeper (envOf qual scope L' f cdv)) (leaving (envOf qual scope L' f cdv) e) (fun _ s'' => R (.error e) s'') (fun e' s'' => R (.error e') s'') s')
        { s with heap := h₁, toks := s.toks + binds.length })
    (hco : scope.isCoroutine = false) (hgen : scope.isGenerator = false) (hk : scope.kind = .function)
    (hcell : ∀ x ∈ scope.names, x.2 ≠ .cell) : codeAny (model prog w) A (.call (.ref f) args) R s := by
  obtain ⟨FG, BG, st, lv⟩ := groundX (R := R) B F N hA hf hke
  refine codeAny_call_def (fd := fnX name qual params body scope [] dV kV doc pm an cdv ct) (body := body) (binds := binds) hroom ((X₀.keeps F.keep) _ _ ho) rfl (T.nolimit.keeps F.keep) (codeRec_of (X₀.keeps F.keep) hcd) rfl hbind hcell hloc (fun h₁ hns hk₁ => ?_) hco hgen hk
  exact h _ s.heap.objs.size h₁ lv FG ⟨hns, fun b o e => hk₁ b o (of_hideAll _ e), Nat.le_of_eq (hideAll_size _ _)⟩
    (fun p hp => ⟨hk₁ _ _ (N p hp).1, Nat.ne_of_lt (Heap.lt_size (N p hp).1), hideAll_none _ (List.mem_map_of_mem hp)⟩) BG (X₀.keeps st) (T.keeps st)
end
section
variable {M : Model} {A : Around} {E : Value → Shared → Prop} {s : Shared} {base g : Heap} {outer l : List Env} {L L₂ e C : Addr} {m : Str → Option Value} {env : Env} {news : List (Addr × Obj)} {P : Addr → List (Addr × Obj) → Prop}
theorem lands_note {Q : Unit → Shared → Prop} (x : ExG base (env :: outer) g L m news C e P s.heap) (hfr : A.frames = some (env :: outer)) (hf : env.frame = some L₂)
    (k : ∀ h', ExG base (env :: outer) g L m news C e P h' → Q () { s with heap := h' }) :
    wpAny M A (noteFrame (.ref e) env) (fun _ s₂ => wpAny M A (setFlight (.ref e) none) Q E s₂) E s := by
  obtain ⟨D, kept, g', ⟨B, hB, hl, x⟩, F, u, hs, r⟩ := x
  refine note_next hfr hf x fun h₁ x₁ u₁ => ?_
  exact setFlight_d (s := { s with heap := h₁ }) x₁ fun h₂ x₂ u₂ => k h₂ ⟨D, kept, g', ⟨B, hB, hl, x₂⟩, F, (u.trans u₁).trans u₂, hs, r⟩
theorem exg_flight {Q : Unit → Shared → Prop} (x : ExG base l g L m news C e P s.heap)
    (k : ∀ h', ExG base l g L m news C e P h' → Q () { s with heap := h' }) : wpAny M A (setFlight (.ref e) none) Q E s := by
  obtain ⟨D, kept, g', ⟨B, hB, hl, x⟩, F, u, hs, r⟩ := x
  exact setFlight_d x fun h₂ x₂ u₂ => k h₂ ⟨D, kept, g', ⟨B, hB, hl, x₂⟩, F, u.trans u₂, hs, r⟩
theorem exg_fr {Lw : Addr} {mw : Str → Option Value} {h : Heap} (FG : Fr base Lw g mw) (x : ExG base l g L m news C e P h) : Fr base L h m := by
  obtain ⟨D, kept, g', ⟨B, hB, hl, x⟩, F, u, hs, r⟩ := x
  have hg := F.above
  exact ⟨u.ns F.ns, fun b o q => x.st b o (hB b o q), Nat.le_trans FG.above (Nat.le_trans (Nat.le_of_lt FG.ns.lt) hg)⟩
theorem exg_at {h : Heap} (x : ExG base l g L m news C e P h) : ∃ D vs sl, h.get? e = some (exO C D vs sl) := by
  obtain ⟨D, kept, g', ⟨B, hB, hl, x⟩, F, u, hs, r⟩ := x
  obtain ⟨vs, sl, q⟩ := x.at_
  exact ⟨D, vs, sl, q⟩
/-- the bottom frame's dict, as it stands -/
def BotIs (base : Heap) (Lw : Addr) (mw : Str → Option Value) (o : Obj) : Prop := ∀ h : Heap, h.get? Lw = some o → base.StaysIn h → Fr base Lw h mw
theorem exg_news {Lw : Addr} {mw : Str → Option Value} {h : Heap} (FG : Fr base Lw g mw) (hf : env.frame = some L) (hw : Lw ∈ outer.filterMap (·.frame)) (x : ExG base (env :: outer) g L m news C e P h) :
    ∃ D vs sl oL kept, News base L h ((e, exO C D vs sl) :: (Lw, oL) :: kept) ∧ BotIs base Lw mw oL ∧ (∀ q ∈ kept, q.1 ≠ Lw) ∧ (∀ q ∈ news, q ∈ kept) ∧ P D kept := by
  obtain ⟨D, kept, g', ⟨B, hB, hl, x⟩, F, u, hs, r⟩ := x
  have hg := F.above
  obtain ⟨vs, sl, he⟩ := x.at_
  obtain ⟨oW, es, ep, hW, hWd, hWk, hWf⟩ := FG.ns
  obtain ⟨sl', hW₂⟩ := u _ _ (F.keep _ _ hW) (fun vs q => by rw [hWd] at q; cases q)
  have nB : ∀ a, a ∈ (env :: outer).filterMap (·.frame) → B.get? a = none := fun a ha => (x.fr.mem ha).1
  have hLm : L ∈ (env :: outer).filterMap (·.frame) := List.mem_filterMap.mpr ⟨env, .head _, hf⟩
  have hWm : Lw ∈ (env :: outer).filterMap (·.frame) := by
    obtain ⟨env', h1, h2⟩ := List.mem_filterMap.mp hw
    exact List.mem_filterMap.mpr ⟨env', .tail _ h1, h2⟩
  have up : ∀ a, B.get? a = none → base.get? a = none := fun a ha => by
    cases q : base.get? a with
    | none => rfl
    | some o => have := hB a o q; rw [ha] at this; cases this
  have heL : e ≠ L := fun z => by
    obtain ⟨o, es', n', q, hd, _⟩ := F.ns
    obtain ⟨sl'', q'⟩ := u _ _ q (fun vs y => by rw [hd] at y; cases y)
    rw [z, q'] at he
    have := congrArg Obj.data (Option.some.inj he)
    dsimp only at this
    rw [hd] at this
    cases this
  refine ⟨D, vs, sl, { oW with slots := sl' }, kept, fun q hq => ?_, fun h' hh' st => ⟨⟨_, es, ep, hh', hWd, hWk, hWf⟩, st, FG.above⟩, fun q hq z => ?_, hs, r⟩
  · rcases List.mem_cons.mp hq with rfl | hq
    · exact ⟨he, heL, up _ x.nw⟩
    · rcases List.mem_cons.mp hq with rfl | hq
      · exact ⟨hW₂, Nat.ne_of_lt (Nat.lt_of_lt_of_le (Heap.lt_size hW) hg), up _ (nB _ hWm)⟩
      · exact ⟨x.st _ _ (hl q hq).1, fun z => (by have := (hl q hq).1; rw [z, nB _ hLm] at this; cases this), (hl q hq).2⟩
  · have := (hl q hq).1
    rw [z, nB _ hWm] at this
    cases this
end
section
variable {prog : Program} {w : World} {A : Around} {E : Value → Shared → Prop} {s : Shared} {base g : Heap} {outer : List Env} {L a e C C' Lw : Addr} {m mw : Str → Option Value} {news : List (Addr × Obj)} {P : Addr → List (Addr × Obj) → Prop} {K : Frag}
  {name : Str} {scope : Scope} {cd : Value} {p : Program} {loose : List Str} {mean : ExcName → Option Value} {mg mb : Str → Option Value} {x n : Str} {np pos : Pos} {rest : List ExceptHandler} {body suite : List Stmt} {b₀ : Stmt} {on : Option Str} {Q : Flow → Shared → Prop}
  {nm q nm' q' : Str} {N N' : Addr} {bs bm bs' bm' : List Value} {sn sn' : List Str} {sub sub' : List Value} {ab ab' : Bool} {col col' : Option Bool} {dd dd' : Option Addr} {k0 k1 k2 k3 k5 k0' k1' k2' k3' k5' : Option Value} {hdct hdct' : Bool} {newId newId' : String}
theorem handle_no (y : ExG base (envOf name scope L a cd :: outer) g L m news C e P s.heap) (FG : Fr base Lw g mw) (X : K.In base) (T : TopRead p loose mg mb base) (ex : nsIn K mainGlobals x = some (some (.ref C')))
    (hK : K.lookup C = some (excClassObj nm q C N bs bm hdct sn sub ab col dd k0 k1 k2 k3 k5 newId)) (hK' : K.lookup C' = some (excClassObj nm' q' C' N' bs' bm' hdct' sn' sub' ab' col' dd' k0' k1' k2' k3' k5' newId')) (hbase : bm'.contains (.type "BaseException") = true)
    (hb : (Value.ref C :: bm).contains (.ref C') = false) (h : wpAny (model prog w) A (handleBy (.ref e) (envOf name scope L a cd) rest) Q E s)
    (hk : scope.kind = .function := by rfl) (hx : (envOf name scope L a cd).kindOf x = some .globalImplicit := by rfl) (hd : (x == ("__debug__" : Str)) = false := by decide) :
    wpAny (model prog w) A (handleBy (.ref e) (envOf name scope L a cd) (.ExceptHandler (some (.Name x np)) on body pos :: rest)) Q E s := by
  have F := exg_fr FG y
  obtain ⟨D, vs, sl, he⟩ := exg_at y
  refine wpAny_handleBy_cons (codeAny_handlers_test (name_K F X T ex ?_ hk hx hd)) (by intro q; cases q)
  obtain ⟨hp, gg, d, tk, os⟩ := s
  exact excMatches_d (F.keep _ _ (X _ _ hK)) (F.keep _ _ (X _ _ hK')) hbase he hb h
theorem handle_as (y : ExG base (envOf name scope L a cd :: outer) g L m news C e P s.heap) (FG : Fr base Lw g mw) (X : K.In base) (T : TopRead p loose mg mb base) (ex : nsIn K mainGlobals x = some (some (.ref C))) (hw : Lw ∈ outer.filterMap (·.frame))
    (hK : K.lookup C = some (excClassObj nm q C N bs bm hdct sn sub ab col dd k0 k1 k2 k3 k5 newId)) (hbase : bm.contains (.type "BaseException") = true)
    (k : ∀ h' tk D vs sl oL kept, Fr base L h' (fun y => if y = n then some (.ref e) else m y) → News base L h' ((e, exO C D vs sl) :: (Lw, oL) :: kept) → BotIs base Lw mw oL → (∀ q ∈ kept, q.1 ≠ Lw) → (∀ q ∈ news, q ∈ kept) → P D kept →
      wpAny (model prog w) (A.mark (some (.ref e))) (execs (b₀ :: suite) (envOf name scope L a cd))
        (fun f s₄ => wpAny (model prog w) A (do bindName (envOf name scope L a cd) n .none; unbindBehindTheSuite (envOf name scope L a cd) n pos) (fun _ s₅ => Q f s₅) E s₄)
        (AsSuiteRaised (model prog w) (A.mark (some (.ref e))) (envOf name scope L a cd) n pos (notedBy (model prog w) (A.mark (some (.ref e))) (envOf name scope L a cd) (cameBackBy (model prog w) A (envOf name scope L a cd) E)))
        { s with heap := h', toks := tk })
    (hk : scope.kind = .function := by rfl) (hlo : (envOf name scope L a cd).kindOf n = some .local := by rfl) (hx : (envOf name scope L a cd).kindOf x = some .globalImplicit := by rfl) (hd : (x == ("__debug__" : Str)) = false := by decide) :
    wpAny (model prog w) A (handleBy (.ref e) (envOf name scope L a cd) (.ExceptHandler (some (.Name x np)) (some n) (b₀ :: suite) pos :: rest)) Q E s := by
  have F := exg_fr FG y
  obtain ⟨D, vs, sl, he⟩ := exg_at y
  refine wpAny_handleBy_cons (codeAny_handlers_test (name_K F X T ex ?_ hk hx hd)) (by intro q; cases q)
  obtain ⟨hp, gg, d, tk, os⟩ := s
  refine excMatches_d (b := true) (F.keep _ _ (X _ _ hK)) (F.keep _ _ (X _ _ hK)) hbase he (by simp) (codeAny_handlers_suite_as ?_)
  refine exg_flight y fun h' y' => ?_
  obtain ⟨D, vs, sl, oL, kept, N', bo, nw, hs, r⟩ := exg_news FG rfl hw y'
  refine stN (exg_fr FG y') N' (fun h₇ F₇ N₇ => ?_) hk hlo
  exact k h₇ _ D vs sl oL kept F₇ N₇ bo nw hs r
theorem handle_plain (y : ExG base (envOf name scope L a cd :: outer) g L m news C e P s.heap) (FG : Fr base Lw g mw) (X : K.In base) (T : TopRead p loose mg mb base) (ex : nsIn K mainGlobals x = some (some (.ref C))) (hw : Lw ∈ outer.filterMap (·.frame))
    (hK : K.lookup C = some (excClassObj nm q C N bs bm hdct sn sub ab col dd k0 k1 k2 k3 k5 newId)) (hbase : bm.contains (.type "BaseException") = true)
    (k : ∀ h' D vs sl oL kept, Fr base L h' m → News base L h' ((e, exO C D vs sl) :: (Lw, oL) :: kept) → BotIs base Lw mw oL → (∀ q ∈ kept, q.1 ≠ Lw) → (∀ q ∈ news, q ∈ kept) → P D kept →
      wpAny (model prog w) (A.mark (some (.ref e))) (execs (b₀ :: suite) (envOf name scope L a cd)) Q E { s with heap := h' })
    (hk : scope.kind = .function := by rfl) (hx : (envOf name scope L a cd).kindOf x = some .globalImplicit := by rfl) (hd : (x == ("__debug__" : Str)) = false := by decide)
    (hE : PassesOwnAt (model prog w) (A.mark (some (.ref e))) A (envOf name scope L a cd) E := by passes_own) :
    wpAny (model prog w) A (handleBy (.ref e) (envOf name scope L a cd) (.ExceptHandler (some (.Name x np)) none (b₀ :: suite) pos :: rest)) Q E s := by
  have F := exg_fr FG y
  obtain ⟨D, vs, sl, he⟩ := exg_at y
  refine wpAny_handleBy_cons (codeAny_handlers_test (name_K F X T ex ?_ hk hx hd)) (by intro q; cases q)
  obtain ⟨hp, gg, d, tk, os⟩ := s
  refine excMatches_d (b := true) (F.keep _ _ (X _ _ hK)) (F.keep _ _ (X _ _ hK)) hbase he (by simp) (codeAny_handlers_suite ?_)
  refine exg_flight y fun h' y' => ?_
  obtain ⟨D, vs, sl, oL, kept, N', bo, nw, hs, r⟩ := exg_news FG rfl hw y'
  exact wpAny_passesOwnAt hE (k h' D vs sl oL kept (exg_fr FG y') N' bo nw hs r)
end
theorem ln_B16_1 : True := by
  k_with_none
  k_with "L:room" => (first | exact room1 hd1 rfl | exact room2 hd1 rfl | exact room3 hd1 rfl | exact room4 hd1 rfl | exact room9 hd1)
  k_with "L:units" => (first | exact unit1 hu1 rfl | exact unit2 hu1 rfl | exact unit3 hu1 rfl | exact unit4 hu1 rfl | exact unit9 hu1)
  k_with "L:k_ne" => (refine neN ?_; (try dsimp only); first | with_reducible assumption | exact Ne.symm (by with_reducible assumption) | exact Nat.ne_of_lt (by walk_at "m lt") | exact Nat.ne_of_gt (by walk_at "m lt"))
  k_with "L:m lt" => (first | with_reducible assumption | with_reducible exact And.left (by assumption) | with_reducible exact And.left (And.right (by assumption)) | with_reducible exact And.left (And.right (And.right (by assumption))) | with_reducible exact And.left (And.right (And.right (And.right (by assumption)))) | with_reducible exact And.left (And.right (And.right (And.right (And.right (by assumption))))) | with_reducible exact And.left (And.right (And.right (And.right (And.right (And.right (by assumption)))))) | with_reducible exact And.left (And.right (And.right (And.right (And.right (And.right (And.right (by assumption))))))) | with_reducible exact And.left (And.right (And.right (And.right (And.right (And.right (And.right (And.right (by assumption)))))))))
  k_with "L:m small" => (refine wpAny_call ?_; k_dflt ktr_enter; k_steps)
  k_with "L:m enter" => (refine wpAny_call ?_; k_dflt ktr_enter)
  k_with "L:m prem" => (first | assumption | exact rfl | omega | decide)
  k_with "L:call ref" => (k_here; (with_reducible show wpAny _ _ (call (Value.ref 106) _ _) _ _ _); k_dflt (refine' payload_t (by k_asm) (by k_asm) (by k_asm) (by k_asm) (by k_asm) (by first | exact rfl | assumption) (by ktr_room) (by ktr_units) ?_; k_whole); intro tz' hz' tkz' Fz' Nz'; (try dsimp only); (try k_sweep))
  k_with "L:call ref" => (k_here; (with_reducible show wpAny _ _ (call (Value.ref 113) _ _) _ _ _); k_dflt (refine' fix_t (by k_asm) (by k_asm) (by k_asm) (by k_asm) (by k_asm) (by first | exact rfl | assumption) (by ktr_room) (by ktr_units) ?_; k_whole); intro tz' hz' tkz' Fz' Nz'; (try dsimp only); (try k_sweep))
  k_with "L:call ref" => (k_here; (with_reducible show wpAny _ _ (call (Value.ref 120) _ _) _ _ _); k_dflt (refine' ref_t (by k_asm) (by k_asm) (by k_asm) (by k_asm) (by k_asm) (by first | exact rfl | assumption) (by ktr_room) (by ktr_units) ?_; k_whole); intro tz' hz' tkz' Fz' Nz'; (try dsimp only); (try k_sweep))
  k_with "L:call ref" => (k_here; (with_reducible show wpAny _ _ (call (Value.ref 127) _ _) _ _ _); k_dflt (refine' bool_word_t (by k_asm) (by k_asm) (by k_asm) (by k_asm) (by k_asm) (by first | exact rfl | assumption) (by ktr_room) (by ktr_units) ?_; k_whole); intro tz' hz' tkz' Fz' Nz'; (try dsimp only); (try k_sweep))
  k_with "L:call ref" => (k_here; (with_reducible show wpAny _ _ (call (Value.ref 134) _ _) _ _ _); k_dflt (refine' header_word_t (by k_asm) (by k_asm) (by k_asm) (by k_asm) (by k_asm) (by first | exact rfl | assumption) (by ktr_room) (by ktr_units) ?_; k_whole); intro tz' hz' tkz' Fz' Nz'; (try dsimp only); (try k_sweep))
  k_with "L:call ref" => (k_here; (with_reducible show wpAny _ _ (call (Value.ref 141) _ _) _ _ _); k_dflt (refine' is_fix_t (by k_asm) (by k_asm) (by k_asm) (by k_asm) (by k_asm) (by first | exact rfl | assumption) (by ktr_room) (by ktr_units) ?_; k_whole); intro hz' tkz' Fz' Nz'; (try dsimp only); (try k_sweep))
  k_with "L:call ref" => (k_here; (with_reducible show wpAny _ _ (call (Value.ref 148) _ _) _ _ _); k_dflt (refine' is_ref_t (by k_asm) (by k_asm) (by k_asm) (by k_asm) (by k_asm) (by first | exact rfl | assumption) (by ktr_room) (by ktr_units) ?_; k_whole); intro hz' tkz' Fz' Nz'; (try dsimp only); (try k_sweep))
  k_with "L:call ref" => (k_here; (with_reducible show wpAny _ _ (call (Value.ref 155) _ _) _ _ _); k_dflt (refine' is_header_t (by k_asm) (by k_asm) (by k_asm) (by k_asm) (by k_asm) (by first | exact rfl | assumption) (by ktr_room) (by ktr_units) ?_; k_whole); intro hz' tkz' Fz' Nz'; (try dsimp only); (try k_sweep))
  k_with "L:call ref" => (k_here; (with_reducible show wpAny _ _ (call (Value.ref 162) _ _) _ _ _); k_dflt (refine' header_kind_t (by k_asm) (by k_asm) (by k_asm) (by k_asm) (by k_asm) (by first | exact rfl | assumption) (by ktr_room) (by ktr_units) ?_; k_whole); intro tz' hz' tkz' Fz' Nz'; (try dsimp only); (try k_sweep))
  k_with "L:call ref" => (k_here; (with_reducible show wpAny _ _ (call (Value.ref 169) _ _) _ _ _); k_dflt (refine' header_length_t (by k_asm) (by k_asm) (by k_asm) (by k_asm) (by k_asm) (by first | exact rfl | assumption) (by ktr_room) (by ktr_units) ?_; k_whole); intro tz' hz' tkz' Fz' Nz'; (try dsimp only); (try k_sweep))
  k_with "L:m idx" => (first | decide | ((try simp only [List.length_append, List.length_cons, List.length_nil, List.length_set]); omega))
  k_with "L:m len" => ((try simp only [List.length_append, List.length_cons, List.length_nil, List.length_set]); omega)
  k_with "L:k_mem" => (assumption)
  k_with "L:k_all" => (first | assumption | (refine allLt_ne (by assumption) ?_; intro q hq; (repeat (refine List.Mem.tail _ ?_)); exact hq))
  k_with "L:newList" => (k_here; k_dflt (refine' newList_K (by k_asm) (by k_asm) ?_; k_whole); intro lz' hz' Fz' Nz' l1; (have l2 := l1); (try k_lt l2); (try k_sweep))
  k_with "L:call builtin:len" => (k_here; (with_reducible show wpAny _ _ (call (Value.builtin "len") [Value.ref _]) _ _ _); k_dflt (refine' kst_len (by k_asm) (by k_mem) (by exact rfl) (by walk_at "m len") ?_; k_whole))
  k_with "L:subscriptTail" => (k_here; (with_reducible show wpAny _ _ (subscriptTail _ _ (Value.ref _) (Value.int _ _)) _ _ _); k_dflt (refine' item_m (by k_asm) (by k_mem) (by walk_at "m idx") (by walk_at "m idx") (by first | assumption | exact rfl | exact (by assumption : 1 < _ → _ = some _) (by omega)) ?_ (by with_unfolding_all rfl); k_whole))
  k_with "L:setItem ref int" => (k_here; (with_reducible show wpAny _ _ (setItem (Value.ref _) (Value.int _ _) _) _ _ _); k_dflt (refine' set_m (by k_asm) (by k_asm) (by k_upd) (by omega) (by walk_at "m len") (by walk_at "m len") ?_; k_whole); intro hz' Fz' Nz'; (try k_sweep))
  k_with "L:call builtin:list.append" => (k_here; (with_reducible show wpAny _ _ (call (Value.builtin _) [Value.ref _, _]) _ _ _); k_dflt (refine' append_m (by k_asm) (by k_asm) (by k_upd) (by walk_at "m len") ?_; k_whole); intro hz' Fz' Nz'; (try k_sweep))
  k_with "L:call builtin:list.extend" => (k_here; (with_reducible show wpAny _ _ (call (Value.builtin _) [Value.ref _, Value.ref _]) _ _ _); k_dflt (refine' extend_m (by k_asm) (by k_asm) (by k_mem) (by k_upd) (by walk_at "m len") (by walk_at "m len") ?_; k_whole); intro hz' Fz' Nz'; (try k_sweep))
  k_with "L:call ref" => (k_here; (with_reducible show wpAny _ _ (call (Value.ref 106) _ _) _ _ _); k_dflt (refine' payload_r (by k_asm) (by k_asm) (by k_asm) (by k_asm) (by k_asm) (by first | exact rfl | assumption) (by ktr_room) (by ktr_units) ?_; k_whole); intro tz' hz' tkz' Fz' Nz'; (try dsimp only); (try k_sweep))
  k_with "L:call ref" => (k_here; (with_reducible show wpAny _ _ (call (Value.ref 148) _ _) _ _ _); k_dflt (refine' is_ref_r (by k_asm) (by k_asm) (by k_asm) (by k_asm) (by k_asm) (by first | exact rfl | assumption) (by ktr_room) (by ktr_units) ?_; k_whole); intro hz' tkz' Fz' Nz'; (try dsimp only); (try k_sweep))
  k_with "L:call ref" => (k_here; (with_reducible show wpAny _ _ (call (Value.ref 155) _ _) _ _ _); k_dflt (refine' is_header_y (by k_asm) (by k_asm) (by k_asm) (by k_asm) (by k_asm) (by first | exact rfl | assumption) (by ktr_room) (by ktr_units) (by walk_at "m prem") ?_; k_whole); intro hz' tkz' Fz' Nz'; (try dsimp only); (try k_sweep))
  k_with "L:call ref" => (k_here; (with_reducible show wpAny _ _ (call (Value.ref 77) _ _) _ _ _); k_dflt (refine' wrong_kind_t (by k_asm) (by k_asm) (by k_asm) (by k_asm) (by k_asm) (by first | exact rfl | assumption) (by ktr_room) (by ktr_units) ?_; k_whole); intro ez' Dz' tz' ilz' cz' oDz' mAz' keptz' hz' tkz' Fz' Nz' hnz' hsz' hDz' hilz' hdoz' hmAz'; (try dsimp only); (try k_sweep))
  k_with "L:call ref" => (k_here; (with_reducible show wpAny _ _ (call (Value.ref 58) _ _) _ _ _); k_dflt (refine' wrong_arity_t (by k_asm) (by k_asm) (by k_asm) (by k_asm) (by k_asm) (by first | exact rfl | assumption) (by ktr_room) (by ktr_units) ?_; k_whole); intro ez' Dz' tz' ilz' cz' oDz' mAz' keptz' hz' tkz' Fz' Nz' hnz' hsz' hDz' hilz' hdoz' hmAz'; (try dsimp only); (try k_sweep))
  k_with "L:call ref" => (k_here; (with_reducible show wpAny _ _ (call (Value.ref 96) _ _) _ _ _); k_dflt (refine' fault_t (by k_asm) (by k_asm) (by k_asm) (by k_asm) (by k_asm) (by first | exact rfl | assumption) (by ktr_room) (by ktr_units) ?_; k_whole); intro ez' Dz' tz' oDz' mAz' keptz' hz' tkz' Fz' Nz' hnz' hsz' hDz' hdoz'; (try dsimp only); (try k_sweep))
  k_with "L:exec Raise some none" => (refine raise_open ?_)
  k_with "L:raiseRest ref" => (k_here; k_dflt (refine' raiseRest_K (by k_asm) (by k_asm) (by k_asm) (by exact List.Mem.head _) (by k_is) (by decide +kernel) (by exact rfl) (by exact rfl) ?_; k_whole))
  k_with "L:leaving ref" => (k_here; k_dflt (refine' leaveF_first (by k_asm) (by k_asm) (by k_asm) (by k_asm) (by assumption) (by assumption) (by exact rfl) (by first | assumption | exact sub_tail (by assumption) | exact sub_tail (sub_tail (by assumption)) | exact sub_tail (sub_tail (sub_tail (by assumption)))) ?_ (by exact rfl); k_whole); intro hz' xz')
  k_with "L:leaving ref" => (k_here; k_dflt (refine' leaveX_first (by k_asm) (by k_asm) (by k_asm) (by k_asm) (by assumption) (by assumption) (by exact rfl) (by first | assumption | exact sub_tail (by assumption) | exact sub_tail (sub_tail (by assumption)) | exact sub_tail (sub_tail (sub_tail (by assumption)))) (by assumption) (by assumption) (by assumption) (by assumption) ?_ (by exact rfl); k_whole); intro hz' xz')
  k_with "L:leaving ref" => (k_here; k_dflt (refine' leaveX_next (by k_asm) (by k_asm) (by assumption) (by assumption) (by first | exact fun _ h => h | exact fun _ h => List.Mem.tail _ h | exact fun _ h => List.Mem.tail _ (List.Mem.tail _ h)) ?_; k_whole); intro hz' xz')
  k_with "L:UnrEnd" => (k_dflt (refine' unrEnd_m (by assumption) (by assumption) (by assumption) ?_; k_whole))
  k_with "L:m news" => (first | k_asm | assumption | exact news_tl (by assumption) | exact news_tl (news_tl (by assumption)) | exact news_tl (news_tl (news_tl (by assumption))))
  trivial
section
variable {prog : Program} {w : World} {A : Around} {E : Value → Shared → Prop} {s : Shared} {h₀ : Heap} {L C N' e D : Addr} {m mA : Str → Option Value} {news : List (Addr × Obj)} {K : Frag}
variable {nm q : Str} {bs bm : List Value} {sn : List Str} {sub : List Value} {ab : Bool} {col : Option Bool} {dd : Option Addr} {k0 k1 k2 k3 k5 : Option Value} {name : Str} {v : Value} {vs : Array Value} {sl : Array (Option Value)} {Q : Value → Shared → Prop} {oD : Obj} {expr : Bool}
theorem getattr_m (F : Fr h₀ L s.heap m) (X : K.In h₀) (N : News h₀ L s.heap news) (he : (e, exO C D vs sl) ∈ news) (hm : (D, oD) ∈ news) (hdo : DObj oD mA) (hv : mA name = some v) (ho : handedOut v = pure v)
    (hK : K.lookup C = some (excClassObj nm q C N' bs bm true sn sub ab col dd k0 k1 k2 k3 k5 "Exception.__new__")) (hbase : bm.contains (.type "BaseException") = true)
    (hg : findIn K (.ref C) "__getattribute__" = some (some (.builtin "BaseException.__getattribute__"))) (hh : findIn K (.ref C) "__getattr__" = some none) (hna : findIn K (.ref C) name = some none)
    (h : ∀ tk, Q v { s with toks := tk }) : wpAny (model prog w) A (getAttr (.ref e) name expr) Q E s := by
  have X' := X.keeps F.keep
  obtain ⟨hp, g, d, t, os⟩ := s
  obtain ⟨es, ep, r1, r2, r3, r4⟩ := hdo
  exact get_m X' hbase (X' _ _ hK) hg hh hna (N _ he).1 ⟨oD, es, ep, (N _ hm).1, r1, r2, r4⟩ hv ho (h _)
end
theorem bot_back {h₀ h : Heap} {L L' : Addr} {m m' : Str → Option Value} {oL : Obj} {all : List (Addr × Obj)} (F : Fr h₀ L' h m') (N : News h₀ L' h all) (hL : (L, oL) ∈ all) (bo : BotIs h₀ L m oL) : Fr h₀ L h m := bo h (N _ hL).1 F.keep
theorem bot_news1 {h₀ h : Heap} {L L' D : Addr} {o : Obj} {all kept : List (Addr × Obj)} (N : News h₀ L' h all) (hD : (D, o) ∈ all) (hDL : @LT.lt Nat _ L D) (hs : ∀ q ∈ kept, q ∈ all) (nw : ∀ q ∈ kept, q.1 ≠ L) : News h₀ L h ((D, o) :: kept) := fun q hq => by
  rcases List.mem_cons.mp hq with rfl | hq
  · exact ⟨(N _ hD).1, Nat.ne_of_gt hDL, (N _ hD).2.2⟩
  · exact ⟨(N _ (hs q hq)).1, nw q hq, (N _ (hs q hq)).2.2⟩
theorem ln_B16_2 : True := by
  k_with "L:m enterU" => (refine wpAny_call ?_; k_dflt (refine' code_open (by k_asm) (by k_asm) (by k_asm) (by k_asm) (by k_asm) (by exact rfl) (by exact rfl) (by assumption) (by k_is) (by k_is) (by ktr_room) (by exact BindsTo.of_eq rfl) (by exact locs rfl) ?_ (by exact rfl) (by exact rfl) (by exact rfl) (by decide); k_whole; intro gz' Lz' hz' lvz' FGz' Fz' Nz' Bz' Xz' Tz'; (try dsimp only); (try k_fold)))
  k_with "L:call ref" => (k_here; (with_reducible show wpAny _ _ (call (Value.ref 238) _ _) _ _ _); k_dflt (refine' run_t (by k_asm) (by k_asm) (by k_asm) (by k_asm) (by k_asm) (by first | exact rfl | assumption) (by ktr_room) (by ktr_units) (by assumption) (by assumption) (by k_mem) (by k_mem) (by k_mem) (by k_mem) (by k_mem) (by assumption) (by k_mem) (by assumption) (by assumption) (by assumption) (by assumption) (by assumption) ?_ ?_ ?_ ?_; k_whole); all_goals (intros; (try dsimp only); (try k_sweep)))
  k_with "L:noteFrame ref" => (k_here; k_dflt (refine' lands_note (by assumption) (by exact rfl) (by exact rfl) ?_; k_whole); intro hz' yz')
  k_with "L:handleBy ref" => (k_here; k_dflt (refine' handle_no (by assumption) (by assumption) (by k_asm) (by k_asm) (by k_is) (by k_is) (by k_is) (by decide +kernel) (by decide +kernel) ?_; k_whole))
  k_with "L:handleBy ref" => (k_here; (with_reducible show wpAny _ _ (handleBy _ _ (PySem.ExceptHandler.ExceptHandler _ none (_ :: _) _ :: _)) _ _ _); k_dflt (refine' handle_plain (by assumption) (by assumption) (by k_asm) (by k_asm) (by k_is) (by exact List.Mem.head _) (by k_is) (by decide +kernel) ?_; k_whole); intro hz' Dz' vsz' slz' oLz' keptz' Fz' Nz' boz' nwz' hsz' rz'; clear rz')
  k_with "L:handleBy ref" => (k_here; (with_reducible show wpAny _ _ (handleBy _ _ (PySem.ExceptHandler.ExceptHandler _ (some _) (_ :: _) _ :: _)) _ _ _); k_dflt (refine' handle_as (by assumption) (by assumption) (by k_asm) (by k_asm) (by k_is) (by exact List.Mem.head _) (by k_is) (by decide +kernel) ?_; k_whole); intro hz' tkz' Dz' vsz' slz' oLz' keptz' Fz' Nz' boz' nwz' hsz' rz'; (obtain ⟨oDz', mAz', ilz', cz', r1z', r2z', r3z', r4z'⟩ := rz'))
  k_with "L:getAttr ref" => (k_here; k_dflt (refine' getattr_m (by k_asm) (by k_asm) (by k_asm) (by k_mem) (by k_mem) (by assumption) (by assumption) (by exact rfl) (by k_is) (by decide +kernel) (by k_is) (by k_is) (by k_is) ?_; k_whole); intro tkz')
  trivial
section
variable {w : World} {p : Program} {loose : List Str} {mean : ExcName → Option Value} {mg mb : Str → Option Value} {dp un : Nat} {gd : Option (List Code)} {cn : Str} {cs : Scope} {L a : Addr} {ccd : Value} {cl : List (Str × Addr)} {outer : List Env} {A₀ : Around} {base h₀ : Heap} {m : Str → Option Value} {news : List (Addr × Obj)} {s : Shared} {Q E : Value → Shared → Prop}
set_option maxHeartbeats 1000000 in
theorem called_t {lx ldx hx hdx HC wl : Addr} {t1 t2 t3 t4 : Tok} {k1 k2 k3 : Int} {dn dn2 cn' c : Nat} {vs ws : List Value} {op w0 w1 : Int} {t t0 t01 : Tok} (B : Below A₀ h₀ [] h₀) (F : Fr h₀ L s.heap m) (X : (hd.heap_39 w.params).In h₀) (N : News h₀ L s.heap news) (T : Top p loose mean mg mb h₀) (hk : cs.kind = .function) (hd1 : dp + 140 < recursionLimit) (hu1 : un + 1100 < cLine) (ho0 : 0 ≤ op) (ho : op ≤ 12)
    (g1 : (lx, instObj 255 ldx) ∈ news) (g2 : (ldx, dictOf [⟨k3, .str "heap" t4, .ref hx⟩] dn2) ∈ news) (h1 : (hx, instObj 360 hdx) ∈ news) (h2 : (hdx, dictOf [⟨k1, .str "limit" t1, .int 1000 t2⟩, ⟨k2, .str "cells" t3, .ref HC⟩] dn) ∈ news) (h3 : (HC, listOf vs.toArray cn') ∈ news) (h5 : vs.length < 800) (hw : (wl, listOf ws.toArray c) ∈ news) (hne : wl ≠ HC) (hl : ws.length < 10) (i0 : ws[0]? = some (Value.int w0 t0)) (i1 : 1 < ws.length → ws[1]? = some (Value.int w1 t01)) (hB : isBlk op → BlkIn vs op w0)
    (hfault : ∀ r t' news' h' tk', Fr h₀ L h' m → News h₀ L h' news' → (∀ q ∈ news, q ∈ news') → op = 12 → (r, { cls := .type "tuple", data := .seq #[Value.str "fault" t'] }) ∈ news' → Q (.ref r) { s with heap := h', toks := tk' })
    (harity : ∀ r ta tn tp news' h' tk', Fr h₀ L h' m → News h₀ L h' news' → (∀ q ∈ news, q ∈ news') → op < 12 → (ws.length : Int) ≠ rowMany op → (r, { cls := .type "tuple", data := .seq #[Value.str "arity" ta, .str (rowName op) tn, .int ws.length tp] }) ∈ news' → Q (.ref r) { s with heap := h', toks := tk' })
    (hkind : ∀ r ta tn tp tw pl news' h' tk', Fr h₀ L h' m → News h₀ L h' news' → (∀ q ∈ news, q ∈ news') → op < 12 → (ws.length : Int) = rowMany op → (op < 3 ∧ (pl = 0 ∧ w0.fmod 8 ≠ 0 ∨ pl = 1 ∧ w0.fmod 8 = 0 ∧ w1.fmod 8 ≠ 0) ∨ isBlk op ∧ pl = 0 ∧ IsKind vs w0 (kdOf op) false) →
      (r, { cls := .type "tuple", data := .seq #[Value.str "kind" ta, .str (rowName op) tn, .int pl tp, .int (if pl = 0 then w0 else w1) tw] }) ∈ news' → Q (.ref r) { s with heap := h', toks := tk' })
    (htold : ∀ r rr ta t' vs' cn'' news' h' tk', Fr h₀ L h' m → News h₀ L h' news' → op < 12 → (ws.length : Int) = rowMany op → RunOut vs op w0 w1 t0 t01 rr vs' → (HC, listOf vs'.toArray cn'') ∈ news' → (∀ q ∈ news, q.1 ≠ HC → q ∈ news') →
      (r, { cls := .type "tuple", data := .seq #[Value.str "told" ta, .int rr t'] }) ∈ news' → Q (.ref r) { s with heap := h', toks := tk' }) :
    wpAny (model PySem.Challenge.rw_on0295_01.row.prog w) (ktrTop dp un gd cn cs L a ccd cl []) (call (.ref 416) [.ref lx, .int op t, .ref wl]) Q E s := by
  walk_at "m enterU"
  k_steps
  · refine hfault _ _ _ _ _ (bot_back (by k_asm) (by k_asm) (by k_mem) (by assumption)) (bot_news1 (by k_asm) (.head _) (by omega) (fun q hq => .tail _ (.tail _ (.tail _ hq))) (by assumption)) (fun q hq => .tail _ ((by assumption : ∀ q ∈ news, q ∈ _) q hq)) (by assumption) (.head _)
  · refine harity _ _ _ _ _ _ _ (bot_back (by assumption) (by k_asm) (by k_mem) (by assumption)) (bot_news1 (by k_asm) (.head _) (by omega) (fun q hq => .tail _ (.tail _ (.tail _ (.tail _ (.tail _ hq))))) (by assumption)) (fun q hq => .tail _ ((by assumption : ∀ q ∈ news, q ∈ _) q hq)) (by assumption) (by assumption) (.head _)
  · refine hkind _ _ _ _ _ _ _ _ _ (bot_back (by assumption) (by k_asm) (by k_mem) (by assumption)) (bot_news1 (by k_asm) (.head _) (by omega) (fun q hq => .tail _ (.tail _ (.tail _ (.tail _ (.tail _ hq))))) (by assumption)) (fun q hq => .tail _ ((by assumption : ∀ q ∈ news, q ∈ _) q hq)) (by assumption) (by assumption) (by assumption) (.head _)
  · rename ∀ v s', LeaveK _ _ _ _ _ v s' → _ => lv
    exact lv _ _ ⟨_, _, _, by k_asm, by k_asm, fun F N => htold _ _ _ _ _ _ _ _ _ F N (by assumption) (by assumption) (by assumption) (.tail _ (by assumption)) (fun q hq hn => .tail _ ((by assumption : ∀ q ∈ news, q.1 ≠ _ → q ∈ _) q hq hn)) (.head _)⟩
end
theorem ln_B17_1 : True := by
  k_with "L:call ref" => (k_here; (with_reducible show wpAny _ _ (call (Value.ref 106) _ _) _ _ _); k_dflt (refine' payload_t (by k_asm) (by k_asm) (by k_asm) (by k_asm) (by k_asm) (by first | exact rfl | assumption) (by ktr_room) (by ktr_units) ?_; k_whole); intro tz' hz' tkz' Fz' Nz'; (try dsimp only); (try k_sweep))
  k_with "L:call ref" => (k_here; (with_reducible show wpAny _ _ (call (Value.ref 113) _ _) _ _ _); k_dflt (refine' fix_t (by k_asm) (by k_asm) (by k_asm) (by k_asm) (by k_asm) (by first | exact rfl | assumption) (by ktr_room) (by ktr_units) ?_; k_whole); intro tz' hz' tkz' Fz' Nz'; (try dsimp only); (try k_sweep))
  k_with "L:call ref" => (k_here; (with_reducible show wpAny _ _ (call (Value.ref 120) _ _) _ _ _); k_dflt (refine' ref_t (by k_asm) (by k_asm) (by k_asm) (by k_asm) (by k_asm) (by first | exact rfl | assumption) (by ktr_room) (by ktr_units) ?_; k_whole); intro tz' hz' tkz' Fz' Nz'; (try dsimp only); (try k_sweep))
  k_with "L:call ref" => (k_here; (with_reducible show wpAny _ _ (call (Value.ref 127) _ _) _ _ _); k_dflt (refine' bool_word_t (by k_asm) (by k_asm) (by k_asm) (by k_asm) (by k_asm) (by first | exact rfl | assumption) (by ktr_room) (by ktr_units) ?_; k_whole); intro tz' hz' tkz' Fz' Nz'; (try dsimp only); (try k_sweep))
  k_with "L:call ref" => (k_here; (with_reducible show wpAny _ _ (call (Value.ref 134) _ _) _ _ _); k_dflt (refine' header_word_t (by k_asm) (by k_asm) (by k_asm) (by k_asm) (by k_asm) (by first | exact rfl | assumption) (by ktr_room) (by ktr_units) ?_; k_whole); intro tz' hz' tkz' Fz' Nz'; (try dsimp only); (try k_sweep))
  k_with "L:call ref" => (k_here; (with_reducible show wpAny _ _ (call (Value.ref 141) _ _) _ _ _); k_dflt (refine' is_fix_t (by k_asm) (by k_asm) (by k_asm) (by k_asm) (by k_asm) (by first | exact rfl | assumption) (by ktr_room) (by ktr_units) ?_; k_whole); intro hz' tkz' Fz' Nz'; (try dsimp only); (try k_sweep))
  k_with "L:call ref" => (k_here; (with_reducible show wpAny _ _ (call (Value.ref 148) _ _) _ _ _); k_dflt (refine' is_ref_t (by k_asm) (by k_asm) (by k_asm) (by k_asm) (by k_asm) (by first | exact rfl | assumption) (by ktr_room) (by ktr_units) ?_; k_whole); intro hz' tkz' Fz' Nz'; (try dsimp only); (try k_sweep))
  k_with "L:call ref" => (k_here; (with_reducible show wpAny _ _ (call (Value.ref 155) _ _) _ _ _); k_dflt (refine' is_header_t (by k_asm) (by k_asm) (by k_asm) (by k_asm) (by k_asm) (by first | exact rfl | assumption) (by ktr_room) (by ktr_units) ?_; k_whole); intro hz' tkz' Fz' Nz'; (try dsimp only); (try k_sweep))
  k_with "L:call ref" => (k_here; (with_reducible show wpAny _ _ (call (Value.ref 162) _ _) _ _ _); k_dflt (refine' header_kind_t (by k_asm) (by k_asm) (by k_asm) (by k_asm) (by k_asm) (by first | exact rfl | assumption) (by ktr_room) (by ktr_units) ?_; k_whole); intro tz' hz' tkz' Fz' Nz'; (try dsimp only); (try k_sweep))
  k_with "L:call ref" => (k_here; (with_reducible show wpAny _ _ (call (Value.ref 169) _ _) _ _ _); k_dflt (refine' header_length_t (by k_asm) (by k_asm) (by k_asm) (by k_asm) (by k_asm) (by first | exact rfl | assumption) (by ktr_room) (by ktr_units) ?_; k_whole); intro tz' hz' tkz' Fz' Nz'; (try dsimp only); (try k_sweep))
  k_with "L:call ref" => (k_here; (with_reducible show wpAny _ _ (call (Value.ref 106) _ _) _ _ _); k_dflt (refine' payload_r (by k_asm) (by k_asm) (by k_asm) (by k_asm) (by k_asm) (by first | exact rfl | assumption) (by ktr_room) (by ktr_units) ?_; k_whole); intro tz' hz' tkz' Fz' Nz'; (try dsimp only); (try k_sweep))
  k_with "L:call ref" => (k_here; (with_reducible show wpAny _ _ (call (Value.ref 148) _ _) _ _ _); k_dflt (refine' is_ref_r (by k_asm) (by k_asm) (by k_asm) (by k_asm) (by k_asm) (by first | exact rfl | assumption) (by ktr_room) (by ktr_units) ?_; k_whole); intro hz' tkz' Fz' Nz'; (try dsimp only); (try k_sweep))
  k_with "L:call ref" => (k_here; (with_reducible show wpAny _ _ (call (Value.ref 155) _ _) _ _ _); k_dflt (refine' is_header_y (by k_asm) (by k_asm) (by k_asm) (by k_asm) (by k_asm) (by first | exact rfl | assumption) (by ktr_room) (by ktr_units) (by walk_at "m prem") ?_; k_whole); intro hz' tkz' Fz' Nz'; (try dsimp only); (try k_sweep))
  k_with "L:call ref" => (k_here; (with_reducible show wpAny _ _ (call (Value.ref 77) _ _) _ _ _); k_dflt (refine' wrong_kind_t (by k_asm) (by k_asm) (by k_asm) (by k_asm) (by k_asm) (by first | exact rfl | assumption) (by ktr_room) (by ktr_units) ?_; k_whole); intro ez' Dz' tz' ilz' cz' oDz' mAz' keptz' hz' tkz' Fz' Nz' hnz' hsz' hDz' hilz' hdoz' hmAz'; (try dsimp only); (try k_sweep))
  k_with "L:call ref" => (k_here; (with_reducible show wpAny _ _ (call (Value.ref 58) _ _) _ _ _); k_dflt (refine' wrong_arity_t (by k_asm) (by k_asm) (by k_asm) (by k_asm) (by k_asm) (by first | exact rfl | assumption) (by ktr_room) (by ktr_units) ?_; k_whole); intro ez' Dz' tz' ilz' cz' oDz' mAz' keptz' hz' tkz' Fz' Nz' hnz' hsz' hDz' hilz' hdoz' hmAz'; (try dsimp only); (try k_sweep))
  k_with "L:call ref" => (k_here; (with_reducible show wpAny _ _ (call (Value.ref 96) _ _) _ _ _); k_dflt (refine' fault_t (by k_asm) (by k_asm) (by k_asm) (by k_asm) (by k_asm) (by first | exact rfl | assumption) (by ktr_room) (by ktr_units) ?_; k_whole); intro ez' Dz' tz' oDz' mAz' keptz' hz' tkz' Fz' Nz' hnz' hsz' hDz' hdoz'; (try dsimp only); (try k_sweep))
  k_with "L:call ref" => (k_here; (with_reducible show wpAny _ _ (call (Value.ref 231) _ _) _ _ _); k_dflt (refine' spread_t (by k_asm) (by k_asm) (by k_asm) (by k_asm) (by k_asm) (by first | exact rfl | assumption) (by ktr_room) (by ktr_units) (by k_mem) (by k_mem) (by k_mem) (by k_mem) (by k_mem) (by assumption) (by with_reducible assumption) (by k_mem) (by assumption) (by assumption) ?_ ?_; k_whole); all_goals (intros; (try dsimp only); (try k_sweep)))
  trivial
section
variable {w : World} {p : Program} {loose : List Str} {mean : ExcName → Option Value} {mg mb : Str → Option Value} {dp un : Nat} {gd : Option (List Code)} {cn : Str} {cs : Scope} {L a : Addr} {ccd : Value} {cl : List (Str × Addr)} {outer : List Env} {A₀ : Around} {base h₀ : Heap} {m : Str → Option Value} {news : List (Addr × Obj)} {s : Shared} {Q E : Value → Shared → Prop}
set_option maxHeartbeats 2000000 in
theorem lspread {lx ldx hx hdx HC wl : Addr} {t1 t2 t3 t4 : Tok} {k1 k2 k3 : Int} {dn dn2 cn' c : Nat} {vs mid : List Value} {G : Int → Prop} {w0 w1 : Int} {t0 t01 : Tok} (B : Below A₀ h₀ [] h₀) (F : Fr h₀ L s.heap m) (X : (hd.heap_39 w.params).In h₀) (N : News h₀ L s.heap news) (T : Top p loose mean mg mb h₀) (hk : cs.kind = .function) (hd1 : dp + 140 < recursionLimit) (hu1 : un + 1100 < cLine)
    (g1 : (lx, instObj 255 ldx) ∈ news) (g2 : (ldx, dictOf [⟨k3, .str "heap" t4, .ref hx⟩] dn2) ∈ news)
    (h1 : (hx, instObj 360 hdx) ∈ news) (h2 : (hdx, dictOf [⟨k1, .str "limit" t1, .int 1000 t2⟩, ⟨k2, .str "cells" t3, .ref HC⟩] dn) ∈ news) (h3 : (HC, listOf vs.toArray cn') ∈ news)
    (h5 : vs.length < 800) (hmid : mid.length ≤ 10) (hw : (wl, listOf (Value.int w0 t0 :: (mid ++ [Value.int w1 t01])).toArray c) ∈ news) (hg : GoodW vs G) (hG : G w1)
    (hkind : ∀ r ta tn tp news' h' tk', Fr h₀ L h' m → News h₀ L h' news' → (∀ q ∈ news, q ∈ news') → (∀ k acc, ¬ (k ≤ vs.length ∧ Steps vs w1 k 20 acc)) → (r, { cls := .type "tuple", data := .seq #[Value.str "kind" ta, .str "apply" tn, .int (((Value.int w0 t0 :: (mid ++ [Value.int w1 t01])).length : Int) - 1) tp, .int w1 t01] }) ∈ news' → Q (.ref r) { s with heap := h', toks := tk' })
    (hret : ∀ r fl c1 k acc news' h' tk', Fr h₀ L h' m → News h₀ L h' news' → (∀ q ∈ news, q ∈ news') → (fl, listOf (mid ++ acc).toArray c1) ∈ news' → (r, { cls := .type "tuple", data := .seq #[Value.int w0 t0, .ref fl] }) ∈ news' → Steps vs w1 k 20 acc → Q (.ref r) { s with heap := h', toks := tk' }) : wpAny (model PySem.Challenge.rw_on0295_01.row.prog w) (ktrTop dp un gd cn cs L a ccd cl []) (call (.ref 423) [.ref lx, .ref wl]) Q E s := by
  walk_at "m enterU"
  k_steps
  · refine hkind _ _ _ _ _ _ _ (bot_back (by assumption) (by k_asm) (by k_mem) (by assumption)) (bot_news1 (by k_asm) (.head _) (by omega) (fun q hq => .tail _ (.tail _ (.tail _ (.tail _ (.tail _ hq))))) (by assumption)) (fun q hq => .tail _ ((by assumption : ∀ q ∈ news, q ∈ _) q hq)) (by assumption) (.head _)
  · rename ∀ v s', LeaveK _ _ _ _ _ v s' → _ => lv
    exact lv _ _ ⟨_, _, _, by k_asm, by k_asm, fun F N => hret _ _ _ _ _ _ _ _ F N (by assumption) (by assumption) (by assumption) (by assumption)⟩
end
theorem ln_C1_1 : True := by
  k_with_none
  k_with "L:room" => (first | exact room1 hd1 rfl | exact room2 hd1 rfl | exact room3 hd1 rfl | exact room4 hd1 rfl | exact room9 hd1)
  k_with "L:units" => (first | exact unit1 hu1 rfl | exact unit2 hu1 rfl | exact unit3 hu1 rfl | exact unit4 hu1 rfl | exact unit9 hu1)
  k_with "L:k_ne" => (refine neN ?_; (try dsimp only); first | with_reducible assumption | exact Ne.symm (by with_reducible assumption) | exact Nat.ne_of_lt (by walk_at "m lt") | exact Nat.ne_of_gt (by walk_at "m lt"))
  k_with "L:m lt" => (first | with_reducible assumption | with_reducible exact And.left (by assumption) | with_reducible exact And.left (And.right (by assumption)) | with_reducible exact And.left (And.right (And.right (by assumption))) | with_reducible exact And.left (And.right (And.right (And.right (by assumption)))) | with_reducible exact And.left (And.right (And.right (And.right (And.right (by assumption))))) | with_reducible exact And.left (And.right (And.right (And.right (And.right (And.right (by assumption)))))) | with_reducible exact And.left (And.right (And.right (And.right (And.right (And.right (And.right (by assumption))))))) | with_reducible exact And.left (And.right (And.right (And.right (And.right (And.right (And.right (And.right (by assumption)))))))))
  k_with "L:m small" => (refine wpAny_call ?_; k_dflt ktr_enter; k_steps)
  k_with "L:m enter" => (refine wpAny_call ?_; k_dflt ktr_enter)
  k_with "L:m idx" => (first | decide | ((try simp only [List.length_append, List.length_cons, List.length_nil, List.length_set]); omega))
  k_with "L:m len" => ((try simp only [List.length_append, List.length_cons, List.length_nil, List.length_set]); omega)
  k_with "L:k_mem" => (assumption)
  k_with "L:k_all" => (first | assumption | (refine allLt_ne (by assumption) ?_; intro q hq; (repeat (refine List.Mem.tail _ ?_)); exact hq))
  k_with "L:newList" => (k_here; k_dflt (refine' newList_K (by k_asm) (by k_asm) ?_; k_whole); intro lz' hz' Fz' Nz' l1; (have l2 := l1); (try k_lt l2); (try k_sweep))
  k_with "L:call builtin:len" => (k_here; (with_reducible show wpAny _ _ (call (Value.builtin "len") [Value.ref _]) _ _ _); k_dflt (refine' kst_len (by k_asm) (by k_mem) (by exact rfl) (by walk_at "m len") ?_; k_whole))
  k_with "L:subscriptTail" => (k_here; (with_reducible show wpAny _ _ (subscriptTail _ _ (Value.ref _) (Value.int _ _)) _ _ _); k_dflt (refine' item_m (by k_asm) (by k_mem) (by walk_at "m idx") (by walk_at "m idx") (by first | assumption | exact rfl | exact (by assumption : 1 < _ → _ = some _) (by omega)) ?_ (by with_unfolding_all rfl); k_whole))
  k_with "L:setItem ref int" => (k_here; (with_reducible show wpAny _ _ (setItem (Value.ref _) (Value.int _ _) _) _ _ _); k_dflt (refine' set_m (by k_asm) (by k_asm) (by k_upd) (by omega) (by walk_at "m len") (by walk_at "m len") ?_; k_whole); intro hz' Fz' Nz'; (try k_sweep))
  k_with "L:call builtin:list.append" => (k_here; (with_reducible show wpAny _ _ (call (Value.builtin _) [Value.ref _, _]) _ _ _); k_dflt (refine' append_m (by k_asm) (by k_asm) (by k_upd) (by walk_at "m len") ?_; k_whole); intro hz' Fz' Nz'; (try k_sweep))
  k_with "L:call builtin:list.extend" => (k_here; (with_reducible show wpAny _ _ (call (Value.builtin _) [Value.ref _, Value.ref _]) _ _ _); k_dflt (refine' extend_m (by k_asm) (by k_asm) (by k_mem) (by k_upd) (by walk_at "m len") (by walk_at "m len") ?_; k_whole); intro hz' Fz' Nz'; (try k_sweep))
  k_with "L:call ref" => (k_here; (with_reducible show wpAny _ _ (call (Value.ref 106) _ _) _ _ _); k_dflt (refine' payload_r (by k_asm) (by k_asm) (by k_asm) (by k_asm) (by k_asm) (by first | exact rfl | assumption) (by ktr_room) (by ktr_units) ?_; k_whole); intro tz' hz' tkz' Fz' Nz'; (try dsimp only); (try k_sweep))
  k_with "L:call ref" => (k_here; (with_reducible show wpAny _ _ (call (Value.ref 148) _ _) _ _ _); k_dflt (refine' is_ref_r (by k_asm) (by k_asm) (by k_asm) (by k_asm) (by k_asm) (by first | exact rfl | assumption) (by ktr_room) (by ktr_units) ?_; k_whole); intro hz' tkz' Fz' Nz'; (try dsimp only); (try k_sweep))
  k_with "L:call ref" => (k_here; (with_reducible show wpAny _ _ (call (Value.ref 155) _ _) _ _ _); k_dflt (refine' is_header_y (by k_asm) (by k_asm) (by k_asm) (by k_asm) (by k_asm) (by first | exact rfl | assumption) (by ktr_room) (by ktr_units) (by walk_at "m prem") ?_; k_whole); intro hz' tkz' Fz' Nz'; (try dsimp only); (try k_sweep))
  k_with "L:m enterC" => (refine wpAny_call ?_; k_dflt (refine' code_defC (by k_asm) (by k_asm) (by k_asm) (by k_asm) (by k_asm) (by exact rfl) (by exact rfl) (by assumption) (by k_is) (by k_is) (by ktr_room) (by exact BindsTo.of_eq rfl) (by exact rfl) (by decide +kernel) ?_ (by exact rfl) (by exact rfl) (by exact rfl); k_whole; intro gz' Lz' hz' tkz' cellsz' FGz' Fz' Nz' Yz' Bz' Xz' Tz' l1; (try k_lt l1); k_cells Yz'; (try simp only [List.cons_append, List.nil_append] at Nz'); (try dsimp only); (try k_fold)))
  trivial
theorem news_tl' {h₀ h : Heap} {L : Addr} {a : Addr × Obj} {r : List (Addr × Obj)} (N : News h₀ L h (a :: r)) : News h₀ L h r := fun q hq => N q (.tail _ hq)
section
variable {w : World} {p : Program} {loose : List Str} {mean : ExcName → Option Value} {mg mb : Str → Option Value} {dp un : Nat} {gd : Option (List Code)} {cn : Str} {cs : Scope} {L a : Addr} {ccd : Value} {cl : List (Str × Addr)} {outer : List Env} {A₀ : Around} {base h₀ : Heap} {m : Str → Option Value} {news : List (Addr × Obj)} {s : Shared} {Q E : Value → Shared → Prop}
set_option maxHeartbeats 8000000 in
theorem kind_int {n : Int} {t : Tok} (B : Below A₀ base outer h₀) (F : Fr h₀ L s.heap m) (X : (hd.heap_39 w.params).In h₀) (N : News h₀ L s.heap news) (T : Top p loose mean mg mb h₀) (hk : cs.kind = .function) (hd1 : dp + 10 < recursionLimit) (hu1 : un + 100 < cLine)
    (hret : ∀ t' h' tk', Fr h₀ L h' m → News h₀ L h' news → Q (.str "number" t') { s with heap := h', toks := tk' }) : wpAny (model PySem.Challenge.rw_on0295_01.row.prog w) (ktrTop dp un gd cn cs L a ccd cl outer) (call (.ref 395) [.int n t]) Q E s := by
  walk_at "m enter"
  k_steps
  all_goals exact hret _ _ _ (by k_asm) (by k_asm)
set_option maxHeartbeats 8000000 in
theorem kind_bool {b : Bool} (B : Below A₀ base outer h₀) (F : Fr h₀ L s.heap m) (X : (hd.heap_39 w.params).In h₀) (N : News h₀ L s.heap news) (T : Top p loose mean mg mb h₀) (hk : cs.kind = .function) (hd1 : dp + 10 < recursionLimit) (hu1 : un + 100 < cLine)
    (hret : ∀ t' h' tk', Fr h₀ L h' m → News h₀ L h' news → Q (.str "other" t') { s with heap := h', toks := tk' }) : wpAny (model PySem.Challenge.rw_on0295_01.row.prog w) (ktrTop dp un gd cn cs L a ccd cl outer) (call (.ref 395) [.bool b]) Q E s := by
  walk_at "m enter"
  k_steps
  all_goals exact hret _ _ _ (by k_asm) (by k_asm)
set_option maxHeartbeats 8000000 in
theorem kind_str {x : Str} {t : Tok} (B : Below A₀ base outer h₀) (F : Fr h₀ L s.heap m) (X : (hd.heap_39 w.params).In h₀) (N : News h₀ L s.heap news) (T : Top p loose mean mg mb h₀) (hk : cs.kind = .function) (hd1 : dp + 10 < recursionLimit) (hu1 : un + 100 < cLine)
    (hret : ∀ t' h' tk', Fr h₀ L h' m → News h₀ L h' news → Q (.str "other" t') { s with heap := h', toks := tk' }) : wpAny (model PySem.Challenge.rw_on0295_01.row.prog w) (ktrTop dp un gd cn cs L a ccd cl outer) (call (.ref 395) [.str x t]) Q E s := by
  walk_at "m enter"
  k_steps
  all_goals exact hret _ _ _ (by k_asm) (by k_asm)
set_option maxHeartbeats 8000000 in
theorem kind_ref {b : Addr} {us : List Value} {c : Nat} {v : Value} (B : Below A₀ base outer h₀) (F : Fr h₀ L s.heap m) (X : (hd.heap_39 w.params).In h₀) (N : News h₀ L s.heap news) (T : Top p loose mean mg mb h₀) (hk : cs.kind = .function) (hd1 : dp + 10 < recursionLimit) (hu1 : un + 100 < cLine) (hb : (b, listOf us.toArray c) ∈ news) (hv : us[0]? = some v)
    (hret : ∀ h' tk', Fr h₀ L h' m → News h₀ L h' news → Q v { s with heap := h', toks := tk' }) : wpAny (model PySem.Challenge.rw_on0295_01.row.prog w) (ktrTop dp un gd cn cs L a ccd cl outer) (call (.ref 395) [.ref b]) Q E s := by
  walk_at "m enter"
  k_steps
  all_goals exact hret _ _ (by k_asm) (by k_asm)
end
section
variable {prog : Program} {w : World} {A : Around} {E : Value → Shared → Prop} {s : Shared} {h₀ : Heap} {L D : Addr} {m : Str → Option Value} {news news' : List (Addr × Obj)}
theorem pop0_m {us : List Value} {x : Value} {u : Tok} {n : Nat} {Q : Value → Shared → Prop} (F : Fr h₀ L s.heap m) (N : News h₀ L s.heap news) (U : Upd D (listOf (x :: us).toArray n) (listOf us.toArray (n + 1)) news news') (hz : us.length < 1000)
    (h : ∀ h', Fr h₀ L h' m → News h₀ L h' news' → Q x { s with heap := h' }) : wpAny (model prog w) A (call (.builtin "list.pop") [.ref D, .int 0 u]) Q E s :=
  kl_popAt (its := (x :: us).toArray) (n := n) (i := 0) (k := 0) (p := []) (q := us) (y := x) F N rfl (by simp [seqIndex?]) (by simp [kl_cut]) U (by rw [sizeLine_eq]; simp; omega) h
theorem ne_nil_m {a b : Addr} {vs : List Value} {ns : List Int} {n k : Nat} {Q : Value → Shared → Prop} (N : News h₀ L s.heap news) (ha : (a, listOf vs.toArray n) ∈ news) (hi : IntsAre vs ns) (hb : (b, listOf ([] : List Value).toArray k) ∈ news)
    (hu : A.units + 64 < cLine) (h : Q (.bool (!decide (ns = []))) s) : wpAny (model prog w) A (compareOp .NotEq (.ref a) (.ref b)) Q E s :=
  ne_intsK ⟨_, (N _ ha).1, rfl, n, rfl⟩ hi (us := []) ⟨_, (N _ hb).1, rfl, k, rfl⟩ .nil hu h
theorem ne_nil0 {a b : Addr} {n k : Nat} {Q : Value → Shared → Prop} (N : News h₀ L s.heap news) (ha : (a, listOf ([] : List Value).toArray n) ∈ news) (hb : (b, listOf ([] : List Value).toArray k) ∈ news)
    (hu : A.units + 64 < cLine) (h : Q (.bool false) s) : wpAny (model prog w) A (compareOp .NotEq (.ref a) (.ref b)) Q E s := ne_nil_m N ha .nil hb hu h
theorem ne_nil1 {a b : Addr} {x : Int} {t : Tok} {vs : List Value} {ns : List Int} {n k : Nat} {Q : Value → Shared → Prop} (N : News h₀ L s.heap news) (ha : (a, listOf (Value.int x t :: vs).toArray n) ∈ news) (hb : (b, listOf ([] : List Value).toArray k) ∈ news) (hi : IntsAre (Value.int x t :: vs) (x :: ns))
    (hu : A.units + 64 < cLine) (h : Q (.bool true) s) : wpAny (model prog w) A (compareOp .NotEq (.ref a) (.ref b)) Q E s := ne_nil_m N ha hi hb hu h
end
theorem ints_tl {x : Int} {t : Tok} {vs : List Value} {ns : List Int} (h : IntsAre (Value.int x t :: vs) (x :: ns)) : IntsAre vs ns := by cases h; assumption
def DrawStop (Q : Flow → Shared → Prop) (b : Bool) (s₂ : Shared) : Prop := b = false ∧ Q .next s₂
def DrawStep (h₀ : Heap) (L : Addr) (s : Shared) (m : Str → Option Value) (dk dl : Addr) (oD : Obj) (vs : List Value) (rest : List (Addr × Obj)) (f : Flow) (s₃ : Shared) : Prop :=
  f = .next ∧ ∃ h' tk lc', s₃ = { s with heap := h', toks := tk } ∧ Fr h₀ L h' m ∧ News h₀ L h' ((dk, oD) :: (dl, listOf vs.toArray lc') :: rest)
def DrawTurn (P : Shared → Prop) (b : Bool) (s₂ : Shared) : Prop := b = true ∧ P s₂
section
variable {prog : Program} {w : World} {A : Around} {E : Value → Shared → Prop} {s : Shared} {env : Env} {h₀ h₉ : Heap} {L L₉ dk dl : Addr} {m m₉ : Str → Option Value} {oD : Obj} {rest : List (Addr × Obj)} {vs : List Value} {ns : List Int} {lc : Nat} {Q : Flow → Shared → Prop}
theorem draw_loop {test : PySem.Expr} {body : List Stmt} {pos : Pos} (F : Fr h₀ L s.heap m) (N : News h₀ L s.heap ((dk, oD) :: (dl, listOf vs.toArray lc) :: rest)) (FG : Fr h₉ L₉ h₀ m₉) (hi : IntsAre vs ns) (h0 : ∀ x ∈ ns, 0 ≤ x) (h24 : vs.length ≤ 24)
    (stop0 : ∀ lc h₁ tk₁, Fr h₀ L h₁ m → News h₀ L h₁ ((dk, oD) :: (dl, listOf ([] : List Value).toArray lc) :: rest) →
      wpAny (model prog w) A (isTrue test env (eval test env)) (DrawStop Q) E { s with heap := h₁, toks := tk₁ })
    (stop1 : ∀ x t vs ns lc h₁ tk₁, Fr h₀ L h₁ m → News h₀ L h₁ ((dk, oD) :: (dl, listOf (Value.int x t :: vs).toArray lc) :: rest) → IntsAre (Value.int x t :: vs) (x :: ns) → x ≠ 0 → 0 ≤ x → (∀ x ∈ ns, 0 ≤ x) → vs.length < 24 →
      wpAny (model prog w) A (isTrue test env (eval test env)) (DrawStop Q) E { s with heap := h₁, toks := tk₁ })
    (turn : ∀ t vs ns lc h₁ tk₁, Fr h₀ L h₁ m → News h₀ L h₁ ((dk, oD) :: (dl, listOf (Value.int 0 t :: vs).toArray lc) :: rest) → IntsAre (Value.int 0 t :: vs) (0 :: ns) → vs.length < 24 →
      wpAny (model prog w) A (isTrue test env (eval test env)) (DrawTurn fun s₂ => wpAny (model prog w) A (execs body env) (DrawStep h₀ L s m dk dl oD vs rest) E s₂) E { s with heap := h₁, toks := tk₁ })
    (hE : PassesOwn (model prog w) A env E := by passes_own) : wpAny (model prog w) A (exec (.While test body [] pos) env) Q E s := by
  let J : Nat → (Str → Option Value) → List (Addr × Obj) → Prop := fun n m₁ news₁ => ∃ vs ns lc, IntsAre vs ns ∧ n = vs.length ∧ m₁ = m ∧ news₁ = (dk, oD) :: (dl, listOf vs.toArray lc) :: rest ∧ (∀ x ∈ ns, 0 ≤ x) ∧ vs.length ≤ 24
  refine While_inv2 J (n₀ := vs.length) F N ⟨vs, ns, lc, hi, rfl, rfl, rfl, h0, h24⟩ ?_ hE
  rintro n m₁ news₁ h₁ tk₁ F₁ N₁ ⟨vs, ns, lc, hi, rfl, rfl, rfl, h0, h24⟩
  cases hi with
  | nil =>
    refine wpAny_mono (stop0 lc h₁ tk₁ F₁ N₁) (fun b s₂ h => ?_) fun _ _ x => x
    obtain ⟨rfl, h⟩ := h
    exact h
  | cons x t r =>
    rename_i vs ns
    have hl : vs.length < 24 := h24
    by_cases hx : x = 0
    · subst hx
      refine wpAny_mono (turn t vs ns lc h₁ tk₁ F₁ N₁ (.cons 0 t r) hl) (fun b s₂ h => ?_) fun _ _ x => x
      obtain ⟨rfl, h⟩ := h
      rw [if_pos rfl]
      refine wpAny_mono h (fun f s₃ h => ?_) fun _ _ x => x
      obtain ⟨rfl, h', tk, lc', rfl, F₂, N₂⟩ := h
      exact ⟨h', tk, _, _, vs.length, rfl, F₂, N₂, Nat.lt_succ_self _, vs, ns, lc', r, rfl, rfl, rfl, fun x hx => h0 x (.tail _ hx), Nat.le_of_lt hl⟩
    · refine wpAny_mono (stop1 x t vs ns lc h₁ tk₁ F₁ N₁ (.cons x t r) hx (h0 x (.head _)) (fun x hx => h0 x (.tail _ hx)) hl) (fun b s₂ h => ?_) fun _ _ x => x
      obtain ⟨rfl, h⟩ := h
      exact h
end
theorem ln_C2_1 : True := by
  k_with "L:exec While" => (k_here; k_dflt (refine' draw_loop (by k_asm) (by k_asm) (by assumption) (by assumption) (by assumption) (by assumption) ?_ ?_ ?_); all_goals (intros; (try dsimp only)))
  k_with "L:compareOp NotEq ref ref" => (k_here; k_dflt (refine' ne_nil1 (by k_asm) (by k_mem) (by k_mem) (by assumption) (by ktr_units) ?_; k_whole))
  k_with "L:compareOp NotEq ref ref" => (k_here; k_dflt (refine' ne_nil0 (by k_asm) (by k_mem) (by k_mem) (by ktr_units) ?_; k_whole))
  k_with "L:call builtin:list.pop" => (k_here; (with_reducible show wpAny _ _ (call (Value.builtin _) [Value.ref _, Value.int 0 _]) _ _ _); k_dflt (refine' pop0_m (by k_asm) (by k_asm) (by k_upd) (by omega) ?_; k_whole); intro hz' Fz' Nz'; (try k_sweep))
  trivial
theorem off_fst {r : List (Addr × Obj)} {a b : Addr} (h : ∀ q ∈ r, q.1 ≠ a ∧ q.1 ≠ b) : ∀ q ∈ r, q.1 ≠ a := fun q hq => (h q hq).1
theorem off_snd {r : List (Addr × Obj)} {a b : Addr} (h : ∀ q ∈ r, q.1 ≠ a ∧ q.1 ≠ b) : ∀ q ∈ r, q.1 ≠ b := fun q hq => (h q hq).2
theorem ln_C2_2 : True := by
  k_with "L:k_all" => (first | exact List.forall_mem_nil _ | exact off_fst (by with_reducible assumption) | exact off_snd (by with_reducible assumption) | (refine' List.forall_mem_cons.mpr ⟨(by first | k_ne | assumption | exact Ne.symm (by assumption)), (by k_all)⟩))
  k_with "L:setItem ref int" => (k_here; (with_reducible show wpAny _ _ (setItem (Value.ref _) (Value.int _ _) _) _ _ _); k_dflt (refine' set_m (by k_asm) (by k_asm) (by k_upd) (by omega) (by walk_at "m len") (by omega) ?_; k_whole); intro hz' Fz' Nz'; (try k_sweep))
  k_with "L:DrawStop" => (refine ⟨rfl, ?_⟩)
  k_with "L:DrawTurn" => (refine ⟨rfl, ?_⟩)
  k_with "L:DrawStep" => (exact ⟨rfl, _, _, _, rfl, by k_asm, by walk_at "m news"⟩)
  k_with "L:m news" => (first | k_asm | assumption | exact news_tl' (by assumption) | exact news_tl' (news_tl' (by assumption)) | exact news_tl' (news_tl' (news_tl' (by assumption))))
  trivial
section
variable {w : World} {p : Program} {loose : List Str} {mean : ExcName → Option Value} {mg mb : Str → Option Value} {dp un : Nat} {gd : Option (List Code)} {cn : Str} {cs : Scope} {L a : Addr} {ccd : Value} {cl : List (Str × Addr)} {outer : List Env} {A₀ : Around} {base h₀ : Heap} {m : Str → Option Value} {news : List (Addr × Obj)} {s : Shared} {Q E : Value → Shared → Prop}
set_option maxHeartbeats 8000000 in
theorem draw_t {dk dl : Addr} {vs : List Value} {ns : List Int} {mx many : Int} {tm t : Tok} {lc dc : Nat} {rest : List (Addr × Obj)} (B : Below A₀ base outer h₀) (F : Fr h₀ L s.heap m) (X : (hd.heap_39 w.params).In h₀) (N : News h₀ L s.heap news) (T : Top p loose mean mg mb h₀) (hk : cs.kind = .function) (hd1 : dp + 20 < recursionLimit) (hu1 : un + 200 < cLine) (hm : 1 ≤ many) (hm' : many ≤ 100)
    (hn : news = (dk, listOf [Value.ref dl, .int mx tm].toArray dc) :: (dl, listOf vs.toArray lc) :: rest) (hr : ∀ q ∈ rest, q.1 ≠ dk ∧ q.1 ≠ dl) (hd : dk ≠ dl) (hi : IntsAre vs ns) (h0 : ∀ x ∈ ns, 0 ≤ x) (h24 : vs.length ≤ 24) (hx0 : 0 ≤ mx) (hx1 : mx < 2147483647)
    (hret : ∀ r t' vs' ns' mx' tm' lc' dc' h' tk', Fr h₀ L h' m → News h₀ L h' ((dk, listOf [Value.ref dl, .int mx' tm'].toArray dc') :: (dl, listOf vs'.toArray lc') :: rest) → IntsAre vs' ns' → (∀ x ∈ ns', 0 ≤ x) → vs'.length ≤ 24 → 0 ≤ mx' → mx' < 2147483647 → 0 ≤ r → r < many → Q (.int r t') { s with heap := h', toks := tk' }) : wpAny (model PySem.Challenge.rw_on0295_01.row.prog w) (ktrTop dp un gd cn cs L a ccd cl outer) (call (.ref 376) [.ref dk, .int many t]) Q E s := by
  subst hn
  walk_at "m enter"
  k_steps
  · refine hret _ _ [] [] _ _ _ _ _ _ (by k_asm) (by walk_at "m news") .nil (by simp) (by simp) (Int.fmod_nonneg_of_pos _ (by decide)) (Int.fmod_lt_of_pos _ (by decide)) (Int.fmod_nonneg_of_pos _ (by omega)) (Int.fmod_lt_of_pos _ (by omega))
  · exact absurd (by assumption) (by assumption : ¬ _)
  · refine hret _ _ _ _ mx tm _ _ _ _ (by k_asm) (by walk_at "m news") (.cons _ _ (ints_tl (by assumption))) (List.forall_mem_cons.mpr ⟨Int.fdiv_nonneg (by assumption) (by omega), by assumption⟩) (by simp only [List.length_cons]; omega) hx0 hx1 (Int.fmod_nonneg_of_pos _ (by omega)) (Int.fmod_lt_of_pos _ (by omega))
end
/-! a comprehension over a list of pairs of the ledger, with one test; the test and the item only read -/
section
open PyProof.Rows.LCg
variable {prog : Program} {w : World} {A : Around} {E : Value → Shared → Prop} {s : Shared} {h₀ : Heap} {L : Addr} {m : Str → Option Value} {env : Env}
def ReadEnd (s₁ : Shared) (h : Heap) (P : Prop) (s' : Shared) : Prop := ∃ tk', s' = { s₁ with heap := h, toks := tk' } ∧ P
/-- what is asked where the list is reached -/
structure PairSrc (prog : Program) (w : World) (A : Around) (h₀ : Heap) (L : Addr) (m : Str → Option Value) (env : Env) (ct elt : PySem.Expr) (x x₂ : Str) (scope : Scope) (cl : List (Str × Addr)) (Fin : Value → Shared → Prop) (s₁ : Shared) (ax : Addr) (us : List Value) (c : Nat) (news : List (Addr × Obj)) (J : Nat → List Value → Prop) : Prop where
  hh : A.handled = none
  F : Fr h₀ L s₁.heap m
  N : News h₀ L s₁.heap news
  at_ : (ax, listOf us.toArray c) ∈ news
  len : us.length ≤ 1000
  start : J 0 []
  turn : ∀ (i : Nat) (v : Value), us[i]? = some v → ∃ (t : Addr) (p q : Value), v = .ref t ∧ (t, { cls := .type "tuple", data := .seq #[p, q] }) ∈ news ∧ ∀ (C : Addr) (oC : Obj) (m₂ : Str → Option Value) (D : Addr) (ys : List Value) (h : Heap) (tk : Nat) (E' : Value → Shared → Prop),
    J i ys → NsObj oC m₂ → m₂ x = some p → m₂ x₂ = some q → Fr h₀ L h m → News h₀ L h ((C, oC) :: (D, lst ys) :: news) →
    wpAny (model prog w) A (isTrue ct (compEnvC scope cl C env) (eval ct (compEnvC scope cl C env))) (fun ok s' => if ok = true then
        wpAny (model prog w) A (eval elt (compEnvC scope cl C env)) (fun y s'' => ReadEnd s₁ h (J (i + 1) (ys ++ [y])) s'') E' s'
      else ReadEnd s₁ h (J (i + 1) ys) s') E' { s₁ with heap := h, toks := tk }
  fin : ∀ (ys : List Value) (D : Addr) (h : Heap) (tk : Nat), J us.length ys → Fr h₀ L h m → News h₀ L h ((D, lst ys) :: news) → (∀ p ∈ news, p.1 ≠ D) → Fin (.ref D) { s₁ with heap := h, toks := tk }
def PairAt (prog : Program) (w : World) (A : Around) (h₀ : Heap) (L : Addr) (m : Str → Option Value) (env : Env) (ct elt : PySem.Expr) (x x₂ : Str) (scope : Scope) (cl : List (Str × Addr)) (Fin : Value → Shared → Prop) (xv : Value) (s₁ : Shared) : Prop :=
  ∃ ax us c news J, xv = .ref ax ∧ PairSrc prog w A h₀ L m env ct elt x x₂ scope cl Fin s₁ ax us c news J
theorem pair_comp {ct elt iter : PySem.Expr} {x x₂ : Str} {px px₂ tp : Pos} {kk : Nat} {scope : Scope} {cl : List (Str × Addr)} {pos : Pos} {Q : Value → Shared → Prop} (_F₀ : Fr h₀ L s.heap m)
    (hclos : closureFor scope env = pure cl) (hcell : ∀ y ∈ scope.names, y.2 ≠ .cell) (hkind : scope.kind = .function)
    (hnames : ∀ y ∈ scope.names, y.2 = .local → scope.names.lookup y.1 = some .local) (hx : scope.names.lookup x = some .local) (hx₂ : scope.names.lookup x₂ = some .local) (hxx : x ≠ x₂)
    (h : wpAny (model prog w) A (eval iter env) (PairAt prog w A h₀ L m env ct elt x x₂ scope cl Q) E s)
    (hs : ∀ x, foldedSetIterable iter env x = pure x := by intro _; rfl) :
    wpAny (model prog w) A (eval (.ListComp elt [⟨.Tuple [.Name x px, .Name x₂ px₂] kk tp, iter, [ct], 0⟩] scope pos) env) Q E s := by
  rw [eval_ListComp]
  refine wpAny_comprehension_free (use := none) rfl hs hclos hkind hnames (wpAny_mono h (fun xv s₁ h₁ => ?_) fun _ _ e => e)
  obtain ⟨ax, us, c, news, J, rfl, P⟩ := h₁
  have F := P.F
  have N := P.N
  have hl : s₁.heap.IsList ax us.toArray := ⟨_, (N _ P.at_).1, rfl, c, rfl⟩
  have hlt : ax < s₁.heap.objs.size := Heap.lt_size (N _ P.at_).1
  refine wpAny_pyIter_list hl ?_
  have up : ∀ b o, s₁.heap.get? b = some o → (s₁.heap.push { cls := .type "list_iterator", data := .fields #[.ref ax, .int 0 0] }).get? b = some o := fun b o e => Heap.get?_push_of_some _ e
  generalize hI : s₁.heap.objs.size = I at *
  generalize hH1 : s₁.heap.push { cls := .type "list_iterator", data := .fields #[.ref ax, .int 0 0] } = H1 at *
  have hH1s : H1.objs.size = I + 1 := by rw [← hH1, Heap.size_push, hI]
  have W := Walks.list (prog := prog) (w := w) P.hh I ax (Nat.ne_of_lt hlt) us.toArray
  have st0 : H1.IsListIter I ax 0 ∧ H1.IsList ax us.toArray := ⟨⟨_, by rw [← hH1, ← hI]; exact Heap.get?_push_size _ rfl, rfl, rfl⟩, hl.at fun o e => up _ o e⟩
  have F1 : Fr h₀ L H1 m := F.keeps up
  have N1 : News h₀ L H1 news := N.grown up
  have below : ∀ p ∈ news, p.1 < I := fun p hp => hI ▸ Heap.lt_size (N p hp).1
  have hLI : L < I := hI ▸ F.ns.lt
  refine wpAny_newObj_type (wpAny_newFunctionEnv hcell (by intro y hy; simp at hy) (fun h₁ hns₁ hsb₁ => ?_) hkind)
  dsimp only at hns₁ hsb₁ ⊢
  generalize hH2 : H1.push { cls := .type "list", dict := none, data := .seq ([] : List Value).toArray } = H2 at hns₁ hsb₁ ⊢
  have hC : H2.objs.size = I + 2 := by rw [← hH2, Heap.size_push, hH1s]
  rw [hH1s]
  rw [hC] at hns₁ hsb₁ ⊢
  have old : ∀ b o, H1.get? b = some o → h₁.get? b = some o := fun b o e => hsb₁.extBut b o (by have := Heap.lt_size e; rw [hH1s] at this; exact Nat.ne_of_lt (Nat.lt_succ_of_lt this)) (Heap.get?_push_of_some _ (hH2 ▸ Heap.get?_push_of_some _ e))
  have hacc : h₁.get? (I + 1) = some (lst []) := hsb₁.extBut _ _ (Nat.ne_of_lt (Nat.lt_succ_self _)) (Heap.get?_push_of_some _ (by rw [← hH2, ← hH1s]; exact Heap.get?_push_size _ rfl))
  have fresh : ∀ a, I ≤ a → h₀.get? a = none := fun a ha => by
    cases e : h₀.get? a with
    | none => rfl
    | some o => have := Heap.lt_size (F.keep a o e); rw [hI] at this; exact absurd this (Nat.not_lt.mpr ha)
  have lt2 : ∀ b, b < I → b ≠ I ∧ b ≠ I + 1 ∧ b ≠ I + 2 := fun b hb => ⟨Nat.ne_of_lt hb, Nat.ne_of_lt (Nat.lt_succ_of_lt hb), Nat.ne_of_lt (Nat.lt_succ_of_lt (Nat.lt_succ_of_lt hb))⟩
  have hax := lt2 ax (hI ▸ hlt)
  have keepSt : ∀ (i : Nat) (h h' : Heap), (h.IsListIter I ax i ∧ h.IsList ax us.toArray) → (∀ o, h.get? I = some o → h'.get? I = some o) → (∀ o, h.get? ax = some o → h'.get? ax = some o) → h'.IsListIter I ax i ∧ h'.IsList ax us.toArray := fun i h h' st k1 k2 => by
    obtain ⟨⟨o, q, r⟩, st2⟩ := st
    exact ⟨⟨o, k1 _ q, r⟩, st2.at k2⟩
  have loop : ∀ s₃ : Shared, (∃ tk, s₃ = { s₁ with heap := h₁, toks := tk }) →
      codeAny (model prog w) A (.compLoop (.ListComp elt [⟨.Tuple [.Name x px, .Name x₂ px₂] kk tp, iter, [ct], 0⟩] scope pos) 0 (.ref I) (.ref (I + 1)) (compEnvC scope cl (I + 2) env))
        (compPost (model prog w) A E none Q (.ref (I + 1)) (I + 2)) s₃ := by
    rintro s₃ ⟨tk, rfl⟩
    refine kct_loop
      (fun k s' => ∃ h' tk i ys m', s' = { s₁ with heap := h', toks := tk } ∧ i ≤ us.length ∧ k = us.length + 1 - i ∧ ys.length ≤ i ∧ (h'.IsListIter I ax i ∧ h'.IsList ax us.toArray) ∧ Fr h₀ L h' m ∧ h'.Ns (I + 2) m' ∧ News h₀ L h' ((I + 1, lst ys) :: news) ∧ J i ys) ?_ (us.length + 1)
      ⟨h₁, _, 0, [], _, rfl, Nat.zero_le _, rfl, Nat.le_refl _, keepSt 0 _ _ st0 (old _) (old _), F1.keeps old, hns₁, fun p hp => ?_, P.start⟩
    · rintro k s' ⟨h', tk, i, ys, m', rfl, hi, rfl, hyl, hst', F', hn', N', hJ⟩
      have old₂ : ∀ p ∈ news, p.1 ≠ I ∧ p.1 ≠ I + 1 ∧ p.1 ≠ I + 2 := fun p hp => lt2 _ (below p hp)
      by_cases hlt : i < us.length
      · refine W.item i _ _ _ (by simpa using hlt) hst' fun v h₂ tk₂ hPv hst₂ hk₂ => ?_
        have hv : us[i]? = some v := by have z : us.toArray[i]? = some v := hPv; simpa using z
        obtain ⟨t, p, q, rfl, hmt, hturn⟩ := P.turn i v hv
        have kk₂ : ∀ b o, b ≠ I → h'.get? b = some o → h₂.get? b = some o := fun b o hb e => hk₂ b o (by simpa using hb) e
        have ht : IsTup h₂ t #[p, q] := ⟨_, kk₂ _ _ (old₂ _ hmt).1 (N' _ (.tail _ hmt)).1, rfl, 0, rfl⟩
        refine wpAny_letOwnedTupleGo_listiter hst₂.1 ?_
        refine assign_Tuple_tuple P.hh ht rfl rfl fun h₅ he => ?_
        have he' : ∀ b o, h₂.get? b = some o → h₅.get? b = some o := fun b o e => he b o (Nat.ne_of_lt (Heap.lt_size e)) e
        have CI : I + 2 ≠ I := Nat.ne_of_gt (Nat.lt_succ_of_lt (Nat.lt_succ_self _))
        have CD : I + 2 ≠ I + 1 := Nat.ne_of_gt (Nat.lt_succ_self _)
        have DI : I + 1 ≠ I := Nat.ne_of_gt (Nat.lt_succ_self _)
        refine assignInOrder_cons (wpAny_assign_Name (wpAny_storeName_local (lookup_relabel_local hx) ((hn'.at' fun o e => kk₂ _ o CI e).at' fun o e => he' _ o e) (fun h₆ hn₆ hs₆ => ?_) (by simp [compEnvC, relabel, hkind])))
        refine assignInOrder_cons (wpAny_assign_Name (wpAny_storeName_local (lookup_relabel_local hx₂) hn₆ (fun h₃ hn₃ hs₃ => ?_) (by simp [compEnvC, relabel, hkind])))
        refine assignInOrder_nil ?_
        have old3 : ∀ b o, b ≠ I + 2 → h₂.get? b = some o → h₃.get? b = some o := fun b o hb e => hs₃.extBut b o hb (hs₆.extBut b o hb (he' b o e))
        have hst₃ : h₃.IsListIter I ax (i + 1) ∧ h₃.IsList ax us.toArray := keepSt _ _ _ hst₂ (fun o => old3 _ o (Ne.symm CI)) (fun o => old3 _ o hax.2.2)
        obtain ⟨oC, heC, hoC⟩ := ns_obj hn₃
        have F₃ : Fr h₀ L h₃ m := ⟨F'.ns.at' fun o e => old3 _ o (lt2 L hLI).2.2 (kk₂ _ o (lt2 L hLI).1 e), fun b o e => old3 b o (fun z => by rw [z, fresh _ (Nat.le_add_right _ _)] at e; cases e) (kk₂ b o (fun z => by rw [z, fresh _ (Nat.le_refl _)] at e; cases e) (F'.keep b o e)), F'.above⟩
        have N₃ : News h₀ L h₃ ((I + 2, oC) :: (I + 1, lst ys) :: news) := fun p hp => by
          rcases List.mem_cons.mp hp with rfl | hp
          · exact ⟨heC, Ne.symm (lt2 L hLI).2.2, fresh _ (Nat.le_add_right _ _)⟩
          · have z := N' p hp
            rcases List.mem_cons.mp hp with rfl | hp
            · exact ⟨old3 _ _ (Ne.symm CD) (kk₂ _ _ DI z.1), z.2⟩
            · exact ⟨old3 _ _ (old₂ _ hp).2.2 (kk₂ _ _ (old₂ _ hp).1 z.1), z.2⟩
        refine wpAny_mono (hturn (I + 2) oC _ (I + 1) ys h₃ _ _ hJ hoC (by simp [hxx]) (by simp) F₃ N₃) (fun ok s₄ h₄ => ?_) fun _ _ e => e
        cases ok with
        | true =>
          simp only [if_true] at h₄ ⊢
          refine wpAny_mono h₄ (fun y s₅ h₅ => ?_) fun _ _ e => e
          obtain ⟨tk₅, rfl, hJ'⟩ := h₅
          have zD := (N₃ (I + 1, lst ys) (.tail _ (.head _))).1
          refine append_at (hsz := by show ys.toArray.size ≤ sizeLine; rw [List.size_toArray, sizeLine_eq]; have := P.len; omega) zD fun h₅ hs₅ hD₅ => ?_
          refine ⟨us.length + 1 - (i + 1), by omega, h₅, tk₅, i + 1, ys ++ [y], _, rfl, hlt, rfl, by rw [List.length_append, List.length_singleton]; exact Nat.succ_le_succ hyl, keepSt _ _ _ hst₃ (fun o => hs₅.extBut _ o (Ne.symm DI)) (fun o => hs₅.extBut _ o hax.2.1), F₃.change hs₅ (Ne.symm (lt2 L hLI).2.1) (fresh _ (Nat.le_succ _)), hn₃.sameBut hs₅ CD, fun p hp => ?_, hJ'⟩
          rcases List.mem_cons.mp hp with rfl | hp
          · exact ⟨hD₅.trans (congrArg some (lst_snoc ys y)), Ne.symm (lt2 L hLI).2.1, fresh _ (Nat.le_succ _)⟩
          · exact ⟨hs₅.extBut _ _ (old₂ _ hp).2.1 (N₃ _ (.tail _ (.tail _ hp))).1, (N₃ _ (.tail _ (.tail _ hp))).2⟩
        | false =>
          simp only [Bool.false_eq_true, if_false] at h₄ ⊢
          obtain ⟨tk₅, rfl, hJ'⟩ := h₄
          exact ⟨us.length + 1 - (i + 1), by omega, h₃, tk₅, i + 1, ys, _, rfl, hlt, rfl, Nat.le_succ_of_le hyl, hst₃, F₃, hn₃, fun p hp => N₃ p (.tail _ hp), hJ'⟩
      · obtain rfl : i = us.length := Nat.le_antisymm hi (Nat.not_lt.mp hlt)
        refine W.done _ _ _ (by simpa using hst') fun h₂ tk₂ hk₂ => ?_
        have kk₂ : ∀ b o, b ≠ I → h'.get? b = some o → h₂.get? b = some o := fun b o hb e => hk₂ b o (by simpa using hb) e
        have CI : I + 2 ≠ I := Nat.ne_of_gt (Nat.lt_succ_of_lt (Nat.lt_succ_self _))
        have CD : I + 2 ≠ I + 1 := Nat.ne_of_gt (Nat.lt_succ_self _)
        have DI : I + 1 ≠ I := Nat.ne_of_gt (Nat.lt_succ_self _)
        refine ⟨m', hn'.at' fun o e => kk₂ _ o CI e, fun h'' hs'' => P.fin ys _ h'' _ hJ ⟨F'.ns.at' fun o e => hs''.extBut _ o (lt2 L hLI).2.2 (kk₂ _ o (lt2 L hLI).1 e), fun b o e => hs''.extBut b o (fun z => by rw [z, fresh _ (Nat.le_add_right _ _)] at e; cases e) (kk₂ b o (fun z => by rw [z, fresh _ (Nat.le_refl _)] at e; cases e) (F'.keep b o e)), F'.above⟩ (fun p hp => ?_) fun p hp => (old₂ p hp).2.1⟩
        have z := N' p hp
        rcases List.mem_cons.mp hp with rfl | hp
        · exact ⟨hs''.extBut _ _ (Ne.symm CD) (kk₂ _ _ DI z.1), z.2⟩
        · exact ⟨hs''.extBut _ _ (old₂ _ hp).2.2 (kk₂ _ _ (old₂ _ hp).1 z.1), z.2⟩
    · rcases List.mem_cons.mp hp with rfl | hp
      · exact ⟨hacc, Ne.symm (lt2 L hLI).2.1, fresh _ (Nat.le_succ _)⟩
      · exact ⟨old _ _ (N1 p hp).1, (N1 p hp).2⟩
  exact codeAny_compStart_list (loop _ ⟨_, rfl⟩) (W.self 0 _ _ _ (keepSt 0 _ _ st0 (old _) (old _)) (loop _ ⟨_, rfl⟩))
end
theorem ln_C4_1 : True := by
  k_with_none
  k_with "L:room" => (first | exact room1 hd1 rfl | exact room2 hd1 rfl | exact room3 hd1 rfl | exact room4 hd1 rfl | exact room9 hd1)
  k_with "L:units" => (first | exact unit1 hu1 rfl | exact unit2 hu1 rfl | exact unit3 hu1 rfl | exact unit4 hu1 rfl | exact unit9 hu1)
  k_with "L:k_ne" => (refine neN ?_; (try dsimp only); first | with_reducible assumption | exact Ne.symm (by with_reducible assumption) | exact Nat.ne_of_lt (by walk_at "m lt") | exact Nat.ne_of_gt (by walk_at "m lt"))
  k_with "L:m lt" => (first | with_reducible assumption | with_reducible exact And.left (by assumption) | with_reducible exact And.left (And.right (by assumption)) | with_reducible exact And.left (And.right (And.right (by assumption))) | with_reducible exact And.left (And.right (And.right (And.right (by assumption)))) | with_reducible exact And.left (And.right (And.right (And.right (And.right (by assumption))))) | with_reducible exact And.left (And.right (And.right (And.right (And.right (And.right (by assumption)))))) | with_reducible exact And.left (And.right (And.right (And.right (And.right (And.right (And.right (by assumption))))))) | with_reducible exact And.left (And.right (And.right (And.right (And.right (And.right (And.right (And.right (by assumption)))))))))
  k_with "L:m small" => (refine wpAny_call ?_; k_dflt ktr_enter; k_steps)
  k_with "L:m enter" => (refine wpAny_call ?_; k_dflt ktr_enter)
  k_with "L:m idx" => (first | decide | ((try simp only [List.length_append, List.length_cons, List.length_nil, List.length_set]); omega))
  k_with "L:m len" => ((try simp only [List.length_append, List.length_cons, List.length_nil, List.length_set]); omega)
  k_with "L:k_mem" => (assumption)
  k_with "L:k_all" => (first | assumption | (refine allLt_ne (by assumption) ?_; intro q hq; (repeat (refine List.Mem.tail _ ?_)); exact hq))
  k_with "L:newList" => (k_here; k_dflt (refine' newList_K (by k_asm) (by k_asm) ?_; k_whole); intro lz' hz' Fz' Nz' l1; (have l2 := l1); (try k_lt l2); (try k_sweep))
  k_with "L:call builtin:len" => (k_here; (with_reducible show wpAny _ _ (call (Value.builtin "len") [Value.ref _]) _ _ _); k_dflt (refine' kst_len (by k_asm) (by k_mem) (by exact rfl) (by walk_at "m len") ?_; k_whole))
  k_with "L:subscriptTail" => (k_here; (with_reducible show wpAny _ _ (subscriptTail _ _ (Value.ref _) (Value.int _ _)) _ _ _); k_dflt (refine' item_m (by k_asm) (by k_mem) (by walk_at "m idx") (by walk_at "m idx") (by first | assumption | exact rfl | exact (by assumption : 1 < _ → _ = some _) (by omega)) ?_ (by with_unfolding_all rfl); k_whole))
  k_with "L:setItem ref int" => (k_here; (with_reducible show wpAny _ _ (setItem (Value.ref _) (Value.int _ _) _) _ _ _); k_dflt (refine' set_m (by k_asm) (by k_asm) (by k_upd) (by omega) (by walk_at "m len") (by walk_at "m len") ?_; k_whole); intro hz' Fz' Nz'; (try k_sweep))
  k_with "L:call builtin:list.append" => (k_here; (with_reducible show wpAny _ _ (call (Value.builtin _) [Value.ref _, _]) _ _ _); k_dflt (refine' append_m (by k_asm) (by k_asm) (by k_upd) (by walk_at "m len") ?_; k_whole); intro hz' Fz' Nz'; (try k_sweep))
  k_with "L:call builtin:list.extend" => (k_here; (with_reducible show wpAny _ _ (call (Value.builtin _) [Value.ref _, Value.ref _]) _ _ _); k_dflt (refine' extend_m (by k_asm) (by k_asm) (by k_mem) (by k_upd) (by walk_at "m len") (by walk_at "m len") ?_; k_whole); intro hz' Fz' Nz'; (try k_sweep))
  k_with "L:call ref" => (k_here; (with_reducible show wpAny _ _ (call (Value.ref 106) _ _) _ _ _); k_dflt (refine' payload_r (by k_asm) (by k_asm) (by k_asm) (by k_asm) (by k_asm) (by first | exact rfl | assumption) (by ktr_room) (by ktr_units) ?_; k_whole); intro tz' hz' tkz' Fz' Nz'; (try dsimp only); (try k_sweep))
  k_with "L:call ref" => (k_here; (with_reducible show wpAny _ _ (call (Value.ref 148) _ _) _ _ _); k_dflt (refine' is_ref_r (by k_asm) (by k_asm) (by k_asm) (by k_asm) (by k_asm) (by first | exact rfl | assumption) (by ktr_room) (by ktr_units) ?_; k_whole); intro hz' tkz' Fz' Nz'; (try dsimp only); (try k_sweep))
  k_with "L:call ref" => (k_here; (with_reducible show wpAny _ _ (call (Value.ref 155) _ _) _ _ _); k_dflt (refine' is_header_y (by k_asm) (by k_asm) (by k_asm) (by k_asm) (by k_asm) (by first | exact rfl | assumption) (by ktr_room) (by ktr_units) (by walk_at "m prem") ?_; k_whole); intro hz' tkz' Fz' Nz'; (try dsimp only); (try k_sweep))
  k_with "L:m enterC" => (refine wpAny_call ?_; k_dflt (refine' code_defC (by k_asm) (by k_asm) (by k_asm) (by k_asm) (by k_asm) (by exact rfl) (by exact rfl) (by assumption) (by k_is) (by k_is) (by ktr_room) (by exact BindsTo.of_eq rfl) (by exact rfl) (by decide +kernel) ?_ (by exact rfl) (by exact rfl) (by exact rfl); k_whole; intro gz' Lz' hz' tkz' cellsz' FGz' Fz' Nz' Yz' Bz' Xz' Tz' l1; (try k_lt l1); k_cells Yz'; (try simp only [List.cons_append, List.nil_append] at Nz'); (try dsimp only); (try k_fold)))
  k_with "L:m news" => (first | k_asm | assumption | exact news_tl' (by assumption) | exact news_tl' (news_tl' (by assumption)) | exact news_tl' (news_tl' (news_tl' (by assumption))))
  trivial
/-- a block of the law's: its tuple, its list, its word, its two things -/
structure Blk where
  tu : Addr
  b : Addr
  ad : Nat
  tw : Tok
  pr : Bool
  tk : Tok
  x : Value
  y : Value
  c : Nat
def Blk.us (k : Blk) : List Value := if k.pr then [.str "pair" k.tk, k.x, k.y] else [.str "box" k.tk, k.x]
def Blk.wv (k : Blk) : Value := .int ((k.ad : Int) * 8 + 1) k.tw
def Blk.tuO (k : Blk) : Obj := { cls := .type "tuple", data := .seq #[k.wv, .ref k.b] }
def Blk.lO (k : Blk) : Obj := listOf k.us.toArray k.c
def blkRefs (bs : List Blk) : List Value := bs.map fun k => .ref k.tu
structure WordJ (k : Blk) (bs : List Blk) (i : Nat) (ys : List Value) : Prop where
  all : ∀ v ∈ ys, v = k.wv
  has : k ∈ bs.take i → ys ≠ []
theorem WordJ.snoc {k : Blk} {bs : List Blk} {i : Nat} {ys : List Value} (h : WordJ k bs i ys) : WordJ k bs (i + 1) (ys ++ [k.wv]) := ⟨fun v hv => by
  rcases List.mem_append.mp hv with hv | hv
  · exact h.all v hv
  · exact List.mem_singleton.mp hv, fun _ => by simp⟩
theorem WordJ.skip {k k' : Blk} {bs : List Blk} {i : Nat} {ys : List Value} (h : WordJ k bs i ys) (hk : bs[i]? = some k') (hne : k' ≠ k) : WordJ k bs (i + 1) ys := ⟨h.all, fun z => h.has (by
  rw [List.take_add_one, hk] at z
  rcases List.mem_append.mp z with z | z
  · exact z
  · exact absurd (List.mem_singleton.mp (by simpa using z)).symm hne)⟩
theorem is_other_m {M : Model} {E : Value → Shared → Prop} {A : Around} {s : Shared} {h₀ : Heap} {L x y : Addr} {ox oy : Obj} {news : List (Addr × Obj)} {Q : Value → Shared → Prop} (N : News h₀ L s.heap news) (hx : (x, ox) ∈ news) (hy : (y, oy) ∈ news) (hxy : x ≠ y) (hb : ox.cls ≠ Value.type "tuple")
    (hq : Q (.bool false) s) : wpAny M A (compareOp .Is (.ref x) (.ref y)) Q E s := kto_is (N _ hx).1 (N _ hy).1 hxy hb hq
theorem blkRefs_get {bs : List Blk} {i : Nat} {v : Value} (h : (blkRefs bs)[i]? = some v) : ∃ k, bs[i]? = some k ∧ v = .ref k.tu := by
  rw [blkRefs, List.getElem?_map] at h
  cases q : bs[i]? with
  | none => rw [q] at h; cases h
  | some k => rw [q] at h; exact ⟨k, rfl, (Option.some.inj h).symm⟩
theorem ln_C4_2 : True := by
  k_with "L:compareOp Is ref ref" => (k_here; (with_reducible show wpAny _ _ (compareOp CmpOp.Is (Value.ref _) (Value.ref _)) _ _ _); k_dflt (refine' is_other_m (by k_asm) (by k_mem) (by k_mem) (by first | assumption | exact Ne.symm (by assumption)) (by decide) ?_; k_whole))
  k_with "L:eval ListComp" => (k_here; k_dflt (refine pair_comp (by k_asm) (by with_unfolding_all rfl) (by decide) (by rfl) (by decide) (by rfl) (by rfl) (by decide) ?_))
  trivial
section
variable {w : World} {p : Program} {loose : List Str} {mean : ExcName → Option Value} {mg mb : Str → Option Value} {dp un : Nat} {gd : Option (List Code)} {cn : Str} {cs : Scope} {L a : Addr} {ccd : Value} {cl : List (Str × Addr)} {outer : List Env} {A₀ : Around} {base h₀ : Heap} {m : Str → Option Value} {news : List (Addr × Obj)} {s : Shared} {Q E : Value → Shared → Prop}
set_option maxHeartbeats 1000000 in
theorem word_ref {bl : Addr} {bs : List Blk} {k : Blk} {c : Nat} (B : Below A₀ base outer h₀) (F : Fr h₀ L s.heap m) (X : (hd.heap_39 w.params).In h₀) (N : News h₀ L s.heap news) (T : Top p loose mean mg mb h₀) (hk : cs.kind = .function) (hd1 : dp + 20 < recursionLimit) (hu1 : un + 200 < cLine) (hbl : (bl, listOf (blkRefs bs).toArray c) ∈ news) (hin : ∀ k ∈ bs, (k.tu, k.tuO) ∈ news) (hk1 : k ∈ bs) (hu : ∀ k' ∈ bs, k'.b = k.b → k' = k) (h5 : bs.length ≤ 100) (hb2 : ∀ k ∈ bs, (k.b, listOf k.us.toArray k.c) ∈ news)
    (hret : ∀ h' tk', Fr h₀ L h' m → News h₀ L h' news → Q k.wv { s with heap := h', toks := tk' }) : wpAny (model PySem.Challenge.rw_on0295_01.row.prog w) (ktrTop dp un gd cn cs L a ccd cl outer) (call (.ref 388) [.ref k.b, .ref bl]) Q E s := by
  have hb := hb2 k hk1
  walk_at "m enterC"
  k_steps
  refine ⟨bl, blkRefs bs, c, _, WordJ k bs, rfl, { hh := rfl, F := by k_asm, N := by k_asm, at_ := by k_mem, len := by rw [blkRefs, List.length_map]; omega, start := ⟨fun _ h => (nomatch h), by simp⟩, turn := ?turn, fin := ?fin }⟩
  case turn =>
    intro i v hv
    obtain ⟨k', hk', rfl⟩ := blkRefs_get hv
    have hin' := hin k' (List.mem_of_getElem? hk')
    refine ⟨k'.tu, k'.wv, .ref k'.b, rfl, by k_mem, ?_⟩
    intro C oC m₂ D ys h tk E' hJ hoC hx hy F₃ N₃
    by_cases e : k'.b = k.b
    · have e' := hu k' (List.mem_of_getElem? hk') e
      subst e'
      k_steps
      exact ⟨_, rfl, hJ.snoc⟩
    · have hb' := hb2 k' (List.mem_of_getElem? hk')
      k_steps
      exact ⟨_, rfl, hJ.skip hk' fun z => e (z ▸ rfl)⟩
  case fin =>
    intro ys D h tk hJ F₃ N₃ hD
    have hne : ys ≠ [] := hJ.has (by rw [blkRefs, List.length_map, List.take_length]; exact hk1)
    obtain ⟨v, r, rfl⟩ := List.exists_cons_of_ne_nil hne
    have hv := hJ.all v (.head _)
    subst hv
    k_steps
    exact hret _ _ (by k_asm) (by walk_at "m news")
end
theorem ln_C5_1 : True := by
  k_with_none
  k_with "L:room" => (first | exact room1 hd1 rfl | exact room2 hd1 rfl | exact room3 hd1 rfl | exact room4 hd1 rfl | exact room9 hd1)
  k_with "L:units" => (first | exact unit1 hu1 rfl | exact unit2 hu1 rfl | exact unit3 hu1 rfl | exact unit4 hu1 rfl | exact unit9 hu1)
  k_with "L:k_ne" => (refine neN ?_; (try dsimp only); first | with_reducible assumption | exact Ne.symm (by with_reducible assumption) | exact Nat.ne_of_lt (by walk_at "m lt") | exact Nat.ne_of_gt (by walk_at "m lt"))
  k_with "L:m lt" => (first | with_reducible assumption | with_reducible exact And.left (by assumption) | with_reducible exact And.left (And.right (by assumption)) | with_reducible exact And.left (And.right (And.right (by assumption))) | with_reducible exact And.left (And.right (And.right (And.right (by assumption)))) | with_reducible exact And.left (And.right (And.right (And.right (And.right (by assumption))))) | with_reducible exact And.left (And.right (And.right (And.right (And.right (And.right (by assumption)))))) | with_reducible exact And.left (And.right (And.right (And.right (And.right (And.right (And.right (by assumption))))))) | with_reducible exact And.left (And.right (And.right (And.right (And.right (And.right (And.right (And.right (by assumption)))))))))
  k_with "L:m small" => (refine wpAny_call ?_; k_dflt ktr_enter; k_steps)
  k_with "L:m enter" => (refine wpAny_call ?_; k_dflt ktr_enter)
  k_with "L:m prem" => (first | assumption | exact rfl | omega | decide)
  k_with "L:call ref" => (k_here; (with_reducible show wpAny _ _ (call (Value.ref 106) _ _) _ _ _); k_dflt (refine' payload_t (by k_asm) (by k_asm) (by k_asm) (by k_asm) (by k_asm) (by first | exact rfl | assumption) (by ktr_room) (by ktr_units) ?_; k_whole); intro tz' hz' tkz' Fz' Nz'; (try dsimp only); (try k_sweep))
  k_with "L:call ref" => (k_here; (with_reducible show wpAny _ _ (call (Value.ref 113) _ _) _ _ _); k_dflt (refine' fix_t (by k_asm) (by k_asm) (by k_asm) (by k_asm) (by k_asm) (by first | exact rfl | assumption) (by ktr_room) (by ktr_units) ?_; k_whole); intro tz' hz' tkz' Fz' Nz'; (try dsimp only); (try k_sweep))
  k_with "L:call ref" => (k_here; (with_reducible show wpAny _ _ (call (Value.ref 120) _ _) _ _ _); k_dflt (refine' ref_t (by k_asm) (by k_asm) (by k_asm) (by k_asm) (by k_asm) (by first | exact rfl | assumption) (by ktr_room) (by ktr_units) ?_; k_whole); intro tz' hz' tkz' Fz' Nz'; (try dsimp only); (try k_sweep))
  k_with "L:call ref" => (k_here; (with_reducible show wpAny _ _ (call (Value.ref 127) _ _) _ _ _); k_dflt (refine' bool_word_t (by k_asm) (by k_asm) (by k_asm) (by k_asm) (by k_asm) (by first | exact rfl | assumption) (by ktr_room) (by ktr_units) ?_; k_whole); intro tz' hz' tkz' Fz' Nz'; (try dsimp only); (try k_sweep))
  k_with "L:call ref" => (k_here; (with_reducible show wpAny _ _ (call (Value.ref 134) _ _) _ _ _); k_dflt (refine' header_word_t (by k_asm) (by k_asm) (by k_asm) (by k_asm) (by k_asm) (by first | exact rfl | assumption) (by ktr_room) (by ktr_units) ?_; k_whole); intro tz' hz' tkz' Fz' Nz'; (try dsimp only); (try k_sweep))
  k_with "L:call ref" => (k_here; (with_reducible show wpAny _ _ (call (Value.ref 141) _ _) _ _ _); k_dflt (refine' is_fix_t (by k_asm) (by k_asm) (by k_asm) (by k_asm) (by k_asm) (by first | exact rfl | assumption) (by ktr_room) (by ktr_units) ?_; k_whole); intro hz' tkz' Fz' Nz'; (try dsimp only); (try k_sweep))
  k_with "L:call ref" => (k_here; (with_reducible show wpAny _ _ (call (Value.ref 148) _ _) _ _ _); k_dflt (refine' is_ref_t (by k_asm) (by k_asm) (by k_asm) (by k_asm) (by k_asm) (by first | exact rfl | assumption) (by ktr_room) (by ktr_units) ?_; k_whole); intro hz' tkz' Fz' Nz'; (try dsimp only); (try k_sweep))
  k_with "L:call ref" => (k_here; (with_reducible show wpAny _ _ (call (Value.ref 155) _ _) _ _ _); k_dflt (refine' is_header_t (by k_asm) (by k_asm) (by k_asm) (by k_asm) (by k_asm) (by first | exact rfl | assumption) (by ktr_room) (by ktr_units) ?_; k_whole); intro hz' tkz' Fz' Nz'; (try dsimp only); (try k_sweep))
  k_with "L:call ref" => (k_here; (with_reducible show wpAny _ _ (call (Value.ref 162) _ _) _ _ _); k_dflt (refine' header_kind_t (by k_asm) (by k_asm) (by k_asm) (by k_asm) (by k_asm) (by first | exact rfl | assumption) (by ktr_room) (by ktr_units) ?_; k_whole); intro tz' hz' tkz' Fz' Nz'; (try dsimp only); (try k_sweep))
  k_with "L:call ref" => (k_here; (with_reducible show wpAny _ _ (call (Value.ref 169) _ _) _ _ _); k_dflt (refine' header_length_t (by k_asm) (by k_asm) (by k_asm) (by k_asm) (by k_asm) (by first | exact rfl | assumption) (by ktr_room) (by ktr_units) ?_; k_whole); intro tz' hz' tkz' Fz' Nz'; (try dsimp only); (try k_sweep))
  k_with "L:m idx" => (first | decide | ((try simp only [List.length_append, List.length_cons, List.length_nil, List.length_set]); omega))
  k_with "L:m len" => ((try simp only [List.length_append, List.length_cons, List.length_nil, List.length_set]); omega)
  k_with "L:k_mem" => (assumption)
  k_with "L:k_all" => (first | assumption | (refine allLt_ne (by assumption) ?_; intro q hq; (repeat (refine List.Mem.tail _ ?_)); exact hq))
  k_with "L:newList" => (k_here; k_dflt (refine' newList_K (by k_asm) (by k_asm) ?_; k_whole); intro lz' hz' Fz' Nz' l1; (have l2 := l1); (try k_lt l2); (try k_sweep))
  k_with "L:call builtin:len" => (k_here; (with_reducible show wpAny _ _ (call (Value.builtin "len") [Value.ref _]) _ _ _); k_dflt (refine' kst_len (by k_asm) (by k_mem) (by exact rfl) (by walk_at "m len") ?_; k_whole))
  k_with "L:subscriptTail" => (k_here; (with_reducible show wpAny _ _ (subscriptTail _ _ (Value.ref _) (Value.int _ _)) _ _ _); k_dflt (refine' item_m (by k_asm) (by k_mem) (by walk_at "m idx") (by walk_at "m idx") (by first | assumption | exact rfl | exact (by assumption : 1 < _ → _ = some _) (by omega)) ?_ (by with_unfolding_all rfl); k_whole))
  k_with "L:setItem ref int" => (k_here; (with_reducible show wpAny _ _ (setItem (Value.ref _) (Value.int _ _) _) _ _ _); k_dflt (refine' set_m (by k_asm) (by k_asm) (by k_upd) (by omega) (by walk_at "m len") (by walk_at "m len") ?_; k_whole); intro hz' Fz' Nz'; (try k_sweep))
  k_with "L:call builtin:list.append" => (k_here; (with_reducible show wpAny _ _ (call (Value.builtin _) [Value.ref _, _]) _ _ _); k_dflt (refine' append_m (by k_asm) (by k_asm) (by k_upd) (by walk_at "m len") ?_; k_whole); intro hz' Fz' Nz'; (try k_sweep))
  k_with "L:call builtin:list.extend" => (k_here; (with_reducible show wpAny _ _ (call (Value.builtin _) [Value.ref _, Value.ref _]) _ _ _); k_dflt (refine' extend_m (by k_asm) (by k_asm) (by k_mem) (by k_upd) (by walk_at "m len") (by walk_at "m len") ?_; k_whole); intro hz' Fz' Nz'; (try k_sweep))
  k_with "L:call ref" => (k_here; (with_reducible show wpAny _ _ (call (Value.ref 106) _ _) _ _ _); k_dflt (refine' payload_r (by k_asm) (by k_asm) (by k_asm) (by k_asm) (by k_asm) (by first | exact rfl | assumption) (by ktr_room) (by ktr_units) ?_; k_whole); intro tz' hz' tkz' Fz' Nz'; (try dsimp only); (try k_sweep))
  k_with "L:call ref" => (k_here; (with_reducible show wpAny _ _ (call (Value.ref 148) _ _) _ _ _); k_dflt (refine' is_ref_r (by k_asm) (by k_asm) (by k_asm) (by k_asm) (by k_asm) (by first | exact rfl | assumption) (by ktr_room) (by ktr_units) ?_; k_whole); intro hz' tkz' Fz' Nz'; (try dsimp only); (try k_sweep))
  k_with "L:call ref" => (k_here; (with_reducible show wpAny _ _ (call (Value.ref 155) _ _) _ _ _); k_dflt (refine' is_header_y (by k_asm) (by k_asm) (by k_asm) (by k_asm) (by k_asm) (by first | exact rfl | assumption) (by ktr_room) (by ktr_units) (by walk_at "m prem") ?_; k_whole); intro hz' tkz' Fz' Nz'; (try dsimp only); (try k_sweep))
  k_with "L:m enterC" => (refine wpAny_call ?_; k_dflt (refine' code_defC (by k_asm) (by k_asm) (by k_asm) (by k_asm) (by k_asm) (by exact rfl) (by exact rfl) (by assumption) (by k_is) (by k_is) (by ktr_room) (by exact BindsTo.of_eq rfl) (by exact rfl) (by decide +kernel) ?_ (by exact rfl) (by exact rfl) (by exact rfl); k_whole; intro gz' Lz' hz' tkz' cellsz' FGz' Fz' Nz' Yz' Bz' Xz' Tz' l1; (try k_lt l1); k_cells Yz'; (try simp only [List.cons_append, List.nil_append] at Nz'); (try dsimp only); (try k_fold)))
  k_with "L:m news" => (first | k_asm | assumption | exact news_tl' (by assumption) | exact news_tl' (news_tl' (by assumption)) | exact news_tl' (news_tl' (news_tl' (by assumption))))
  trivial
/-- the word of a thing -/
def ThingW (bs : List Blk) : Value → Int → Prop
  | .int n _, w => w = n * 8
  | .bool b, w => w = if b then 12 else 4
  | .str x _, w => (x = "empty" ∧ w = 20) ∨ (x = "nothing" ∧ w = 28)
  | .ref b, w => ∃ k ∈ bs, k.b = b ∧ w = (k.ad : Int) * 8 + 1
  | _, _ => False
structure BlkIns (news : List (Addr × Obj)) (bs : List Blk) : Prop where
  tup : ∀ k ∈ bs, (k.tu, k.tuO) ∈ news
  lst : ∀ k ∈ bs, (k.b, listOf k.us.toArray k.c) ∈ news
  one : ∀ k ∈ bs, ∀ k' ∈ bs, k'.b = k.b → k' = k
  few : bs.length ≤ 100
theorem BlkIns.mono {news news' : List (Addr × Obj)} {bs : List Blk} (h : BlkIns news bs) (s : ∀ q ∈ news, q ∈ news') : BlkIns news' bs := ⟨fun k hk => s _ (h.tup k hk), fun k hk => s _ (h.lst k hk), h.one, h.few⟩
section
variable {w : World} {p : Program} {loose : List Str} {mean : ExcName → Option Value} {mg mb : Str → Option Value} {dp un : Nat} {gd : Option (List Code)} {cn : Str} {cs : Scope} {L a : Addr} {ccd : Value} {cl : List (Str × Addr)} {outer : List Env} {A₀ : Around} {base h₀ : Heap} {m : Str → Option Value} {news : List (Addr × Obj)} {s : Shared} {Q E : Value → Shared → Prop}
set_option maxHeartbeats 1000000 in
theorem word_int {n : Int} {t : Tok} {bl : Value} (B : Below A₀ base outer h₀) (F : Fr h₀ L s.heap m) (X : (hd.heap_39 w.params).In h₀) (N : News h₀ L s.heap news) (T : Top p loose mean mg mb h₀) (hk : cs.kind = .function) (hd1 : dp + 20 < recursionLimit) (hu1 : un + 200 < cLine)
    (hret : ∀ t' h' tk', Fr h₀ L h' m → News h₀ L h' news → Q (.int (n * 8) t') { s with heap := h', toks := tk' }) : wpAny (model PySem.Challenge.rw_on0295_01.row.prog w) (ktrTop dp un gd cn cs L a ccd cl outer) (call (.ref 388) [.int n t, bl]) Q E s := by
  walk_at "m enterC"
  k_steps
  all_goals exact hret _ _ _ (by k_asm) (by walk_at "m news")
set_option maxHeartbeats 1000000 in
theorem word_bool {b : Bool} {bl : Value} (B : Below A₀ base outer h₀) (F : Fr h₀ L s.heap m) (X : (hd.heap_39 w.params).In h₀) (N : News h₀ L s.heap news) (T : Top p loose mean mg mb h₀) (hk : cs.kind = .function) (hd1 : dp + 20 < recursionLimit) (hu1 : un + 200 < cLine)
    (hret : ∀ t' h' tk', Fr h₀ L h' m → News h₀ L h' news → Q (.int (if b then 12 else 4) t') { s with heap := h', toks := tk' }) : wpAny (model PySem.Challenge.rw_on0295_01.row.prog w) (ktrTop dp un gd cn cs L a ccd cl outer) (call (.ref 388) [.bool b, bl]) Q E s := by
  walk_at "m enterC"
  k_steps
  all_goals exact hret _ _ _ (by k_asm) (by walk_at "m news")
set_option maxHeartbeats 1000000 in
theorem word_empty {t : Tok} {bl : Value} (B : Below A₀ base outer h₀) (F : Fr h₀ L s.heap m) (X : (hd.heap_39 w.params).In h₀) (N : News h₀ L s.heap news) (T : Top p loose mean mg mb h₀) (hk : cs.kind = .function) (hd1 : dp + 20 < recursionLimit) (hu1 : un + 200 < cLine)
    (hret : ∀ t' h' tk', Fr h₀ L h' m → News h₀ L h' news → Q (.int 20 t') { s with heap := h', toks := tk' }) : wpAny (model PySem.Challenge.rw_on0295_01.row.prog w) (ktrTop dp un gd cn cs L a ccd cl outer) (call (.ref 388) [.str "empty" t, bl]) Q E s := by
  walk_at "m enterC"
  k_steps
  all_goals exact hret _ _ _ (by k_asm) (by walk_at "m news")
set_option maxHeartbeats 1000000 in
theorem word_nothing {t : Tok} {bl : Value} (B : Below A₀ base outer h₀) (F : Fr h₀ L s.heap m) (X : (hd.heap_39 w.params).In h₀) (N : News h₀ L s.heap news) (T : Top p loose mean mg mb h₀) (hk : cs.kind = .function) (hd1 : dp + 20 < recursionLimit) (hu1 : un + 200 < cLine)
    (hret : ∀ t' h' tk', Fr h₀ L h' m → News h₀ L h' news → Q (.int 28 t') { s with heap := h', toks := tk' }) : wpAny (model PySem.Challenge.rw_on0295_01.row.prog w) (ktrTop dp un gd cn cs L a ccd cl outer) (call (.ref 388) [.str "nothing" t, bl]) Q E s := by
  walk_at "m enterC"
  k_steps
  all_goals exact hret _ _ _ (by k_asm) (by walk_at "m news")
theorem word_t {bl : Addr} {bs : List Blk} {c : Nat} {v : Value} {wd : Int} (B : Below A₀ base outer h₀) (F : Fr h₀ L s.heap m) (X : (hd.heap_39 w.params).In h₀) (N : News h₀ L s.heap news) (T : Top p loose mean mg mb h₀) (hk : cs.kind = .function) (hd1 : dp + 20 < recursionLimit) (hu1 : un + 200 < cLine) (hbl : (bl, listOf (blkRefs bs).toArray c) ∈ news) (hB : BlkIns news bs) (hv : ThingW bs v wd)
    (hret : ∀ t' h' tk', Fr h₀ L h' m → News h₀ L h' news → Q (.int wd t') { s with heap := h', toks := tk' }) : wpAny (model PySem.Challenge.rw_on0295_01.row.prog w) (ktrTop dp un gd cn cs L a ccd cl outer) (call (.ref 388) [v, .ref bl]) Q E s := by
  cases v with
  | int n t =>
    cases hv
    exact word_int B F X N T hk hd1 hu1 hret
  | bool b =>
    cases hv
    exact word_bool B F X N T hk hd1 hu1 hret
  | str x t =>
    rcases hv with ⟨rfl, rfl⟩ | ⟨rfl, rfl⟩
    · exact word_empty B F X N T hk hd1 hu1 hret
    · exact word_nothing B F X N T hk hd1 hu1 hret
  | ref b =>
    obtain ⟨k, hk1, rfl, rfl⟩ := hv
    exact word_ref B F X N T hk hd1 hu1 hbl hB.tup hk1 (hB.one k hk1) hB.few hB.lst fun h' tk' F' N' => hret _ h' tk' F' N'
  | _ => exact hv.elim
end
/-- the deck lies in the ledger -/
def DeckIn (news : List (Addr × Obj)) (dk dl : Addr) : Prop := dk ≠ dl ∧ ∃ vs ns mx tm lc dc, (dk, listOf [Value.ref dl, .int mx tm].toArray dc) ∈ news ∧ (dl, listOf vs.toArray lc) ∈ news ∧ IntsAre vs ns ∧ (∀ x ∈ ns, 0 ≤ x) ∧ vs.length ≤ 24 ∧ 0 ≤ mx ∧ mx < 2147483647
/-- what a draw leaves of the ledger -/
structure Drawn' (dk dl : Addr) (news news' : List (Addr × Obj)) : Prop where
  deck : DeckIn news' dk dl
  keep : ∀ q ∈ news, q.1 ≠ dk → q.1 ≠ dl → q ∈ news'
  sub : ∀ q ∈ news', q.1 = dk ∨ q.1 = dl ∨ q ∈ news
theorem news_front2 {h₀ h : Heap} {L d e : Addr} {o u : Obj} {news : List (Addr × Obj)} (N : News h₀ L h news) (hm : (d, o) ∈ news) (hm' : (e, u) ∈ news) :
    ∃ rest : List (Addr × Obj), News h₀ L h ((d, o) :: (e, u) :: rest) ∧ (∀ q ∈ rest, q.1 ≠ d ∧ q.1 ≠ e) ∧ (∀ q ∈ news, q.1 ≠ d → q.1 ≠ e → q ∈ rest) ∧ ∀ q ∈ rest, q ∈ news := by
  refine ⟨news.filter fun q => decide (q.1 ≠ d ∧ q.1 ≠ e), fun q hq => ?_, fun q hq => ?_, fun q hq hn hn' => ?_, fun q hq => ?_⟩
  · rcases List.mem_cons.mp hq with rfl | hq
    · exact N _ hm
    · rcases List.mem_cons.mp hq with rfl | hq
      · exact N _ hm'
      · exact N _ (List.mem_filter.mp hq).1
  · exact of_decide_eq_true (List.mem_filter.mp hq).2
  · exact List.mem_filter.mpr ⟨hq, decide_eq_true ⟨hn, hn'⟩⟩
  · exact (List.mem_filter.mp hq).1
section
variable {w : World} {p : Program} {loose : List Str} {mean : ExcName → Option Value} {mg mb : Str → Option Value} {dp un : Nat} {gd : Option (List Code)} {cn : Str} {cs : Scope} {L a : Addr} {ccd : Value} {cl : List (Str × Addr)} {outer : List Env} {A₀ : Around} {base h₀ : Heap} {m : Str → Option Value} {news : List (Addr × Obj)} {s : Shared} {Q E : Value → Shared → Prop}
theorem draw_m {dk dl : Addr} {many : Int} {t : Tok} (B : Below A₀ base outer h₀) (F : Fr h₀ L s.heap m) (X : (hd.heap_39 w.params).In h₀) (N : News h₀ L s.heap news) (T : Top p loose mean mg mb h₀) (hk : cs.kind = .function) (hd1 : dp + 20 < recursionLimit) (hu1 : un + 200 < cLine) (hm : 1 ≤ many) (hm' : many ≤ 100) (hD : DeckIn news dk dl)
    (hret : ∀ r t' news' h' tk', Fr h₀ L h' m → News h₀ L h' news' → Drawn' dk dl news news' → 0 ≤ r → r < many → Q (.int r t') { s with heap := h', toks := tk' }) : wpAny (model PySem.Challenge.rw_on0295_01.row.prog w) (ktrTop dp un gd cn cs L a ccd cl outer) (call (.ref 376) [.ref dk, .int many t]) Q E s := by
  obtain ⟨hne, vs, ns, mx, tm, lc, dc, e1, e2, hi, h0, h24, hx0, hx1⟩ := hD
  obtain ⟨rest, N2, hr, hs, hb⟩ := news_front2 N e1 e2
  refine draw_t B F X N2 T hk hd1 hu1 hm hm' rfl hr hne hi h0 h24 hx0 hx1 fun r t' vs' ns' mx' tm' lc' dc' h' tk' F' N' a b c d e f g => hret r t' _ h' tk' F' N' ⟨⟨hne, vs', ns', mx', tm', lc', dc', .head _, .tail _ (.head _), a, b, c, d, e⟩, fun q hq h1 h2 => .tail _ (.tail _ (hs q hq h1 h2)), fun q hq => ?_⟩ f g
  rcases List.mem_cons.mp hq with rfl | hq
  · exact .inl rfl
  · rcases List.mem_cons.mp hq with rfl | hq
    · exact .inr (.inl rfl)
    · exact .inr (.inr (hb q hq))
end
theorem ln_C6_1 : True := by
  k_with "L:call ref" => (k_here; (with_reducible show wpAny _ _ (call (Value.ref 376) _ _) _ _ _); k_dflt (refine' draw_m (by k_asm) (by k_asm) (by k_asm) (by k_asm) (by k_asm) (by first | exact rfl | assumption) (by ktr_room) (by ktr_units) (by walk_at "m prem") (by walk_at "m prem") (by walk_at "m prem") ?_; k_whole); intro rz' tz' nz' hz' tkz' Fz' Nz' drz' r0z' r1z'; (try dsimp only); (try k_sweep))
  trivial
section
variable {prog : Program} {w : World} {A : Around} {E : Value → Shared → Prop} {s : Shared} {h₀ : Heap} {L l : Addr} {news : List (Addr × Obj)}
theorem item_any_m {value slice : PySem.Expr} {us : List Value} {c : Nat} {k : Int} {u : Tok} {Q : Value → Shared → Prop}
    (N : News h₀ L s.heap news) (hm : (l, listOf us.toArray c) ∈ news) (h0 : 0 ≤ k) (hhi : k < us.length) (h2 : us.length ≤ 100) (h : ∀ v, v ∈ us → Q v s)
    (hs : subscripted slice false (.ref l) (.int k u) = operate [.ref l, .int k u] (getItem (.ref l) (.int k u)) := by with_unfolding_all rfl) :
    wpAny (model prog w) A (subscriptTail value slice (.ref l) (.int k u)) Q E s := by
  have hlt : k.toNat < us.length := by omega
  exact item_m N hm h0 (by omega) (List.getElem?_eq_getElem hlt) (h _ (List.getElem_mem hlt)) hs
end
theorem ln_C6_2 : True := by
  k_with "L:k_mem" => (exact (by assumption : Drawn' _ _ _ _).keep _ (by assumption) (by assumption) (by assumption))
  k_with "L:subscriptTail" => (k_here; (with_reducible show wpAny _ _ (subscriptTail _ _ (Value.ref _) (Value.int _ _)) _ _ _); k_dflt (refine' item_any_m (by k_asm) (by k_mem) (by assumption) (by assumption) (by assumption) ?_ (by with_unfolding_all rfl); k_whole); intro vz' hvz')
  trivial
section
variable {w : World} {p : Program} {loose : List Str} {mean : ExcName → Option Value} {mg mb : Str → Option Value} {dp un : Nat} {gd : Option (List Code)} {cn : Str} {cs : Scope} {L a : Addr} {ccd : Value} {cl : List (Str × Addr)} {outer : List Env} {A₀ : Around} {base h₀ : Heap} {m : Str → Option Value} {news : List (Addr × Obj)} {s : Shared} {Q E : Value → Shared → Prop}
set_option maxHeartbeats 1000000 in
theorem one_m {dk dl il : Addr} {us : List Value} {c : Nat} (B : Below A₀ base outer h₀) (F : Fr h₀ L s.heap m) (X : (hd.heap_39 w.params).In h₀) (N : News h₀ L s.heap news) (T : Top p loose mean mg mb h₀) (hk : cs.kind = .function) (hd1 : dp + 40 < recursionLimit) (hu1 : un + 300 < cLine) (hD : DeckIn news dk dl) (hi : (il, listOf us.toArray c) ∈ news) (n1 : il ≠ dk) (n2 : il ≠ dl) (h1 : 1 ≤ us.length) (h2 : us.length ≤ 100)
    (hret : ∀ v news' h' tk', Fr h₀ L h' m → News h₀ L h' news' → Drawn' dk dl news news' → v ∈ us → Q v { s with heap := h', toks := tk' }) : wpAny (model PySem.Challenge.rw_on0295_01.row.prog w) (ktrTop dp un gd cn cs L a ccd cl outer) (call (.ref 383) [.ref dk, .ref il]) Q E s := by
  walk_at "m enter"
  k_steps
  exact hret _ _ _ _ (by k_asm) (by walk_at "m news") (by assumption) (by assumption)
end
theorem ln_C7_1 : True := by
  k_with_none
  k_with "L:room" => (first | exact room1 hd1 rfl | exact room2 hd1 rfl | exact room3 hd1 rfl | exact room4 hd1 rfl | exact room9 hd1)
  k_with "L:units" => (first | exact unit1 hu1 rfl | exact unit2 hu1 rfl | exact unit3 hu1 rfl | exact unit4 hu1 rfl | exact unit9 hu1)
  k_with "L:k_ne" => (refine neN ?_; (try dsimp only); first | with_reducible assumption | exact Ne.symm (by with_reducible assumption) | exact Nat.ne_of_lt (by walk_at "m lt") | exact Nat.ne_of_gt (by walk_at "m lt"))
  k_with "L:m lt" => (first | with_reducible assumption | with_reducible exact And.left (by assumption) | with_reducible exact And.left (And.right (by assumption)) | with_reducible exact And.left (And.right (And.right (by assumption))) | with_reducible exact And.left (And.right (And.right (And.right (by assumption)))) | with_reducible exact And.left (And.right (And.right (And.right (And.right (by assumption))))) | with_reducible exact And.left (And.right (And.right (And.right (And.right (And.right (by assumption)))))) | with_reducible exact And.left (And.right (And.right (And.right (And.right (And.right (And.right (by assumption))))))) | with_reducible exact And.left (And.right (And.right (And.right (And.right (And.right (And.right (And.right (by assumption)))))))))
  k_with "L:m small" => (refine wpAny_call ?_; k_dflt ktr_enter; k_steps)
  k_with "L:m enter" => (refine wpAny_call ?_; k_dflt ktr_enter)
  k_with "L:m idx" => (first | decide | ((try simp only [List.length_append, List.length_cons, List.length_nil, List.length_set]); omega))
  k_with "L:m len" => ((try simp only [List.length_append, List.length_cons, List.length_nil, List.length_set]); omega)
  k_with "L:k_mem" => (assumption)
  k_with "L:k_all" => (first | assumption | (refine allLt_ne (by assumption) ?_; intro q hq; (repeat (refine List.Mem.tail _ ?_)); exact hq))
  k_with "L:newList" => (k_here; k_dflt (refine' newList_K (by k_asm) (by k_asm) ?_; k_whole); intro lz' hz' Fz' Nz' l1; (have l2 := l1); (try k_lt l2); (try k_sweep))
  k_with "L:call builtin:len" => (k_here; (with_reducible show wpAny _ _ (call (Value.builtin "len") [Value.ref _]) _ _ _); k_dflt (refine' kst_len (by k_asm) (by k_mem) (by exact rfl) (by walk_at "m len") ?_; k_whole))
  k_with "L:subscriptTail" => (k_here; (with_reducible show wpAny _ _ (subscriptTail _ _ (Value.ref _) (Value.int _ _)) _ _ _); k_dflt (refine' item_m (by k_asm) (by k_mem) (by walk_at "m idx") (by walk_at "m idx") (by first | assumption | exact rfl | exact (by assumption : 1 < _ → _ = some _) (by omega)) ?_ (by with_unfolding_all rfl); k_whole))
  k_with "L:setItem ref int" => (k_here; (with_reducible show wpAny _ _ (setItem (Value.ref _) (Value.int _ _) _) _ _ _); k_dflt (refine' set_m (by k_asm) (by k_asm) (by k_upd) (by omega) (by walk_at "m len") (by walk_at "m len") ?_; k_whole); intro hz' Fz' Nz'; (try k_sweep))
  k_with "L:call builtin:list.append" => (k_here; (with_reducible show wpAny _ _ (call (Value.builtin _) [Value.ref _, _]) _ _ _); k_dflt (refine' append_m (by k_asm) (by k_asm) (by k_upd) (by walk_at "m len") ?_; k_whole); intro hz' Fz' Nz'; (try k_sweep))
  k_with "L:call builtin:list.extend" => (k_here; (with_reducible show wpAny _ _ (call (Value.builtin _) [Value.ref _, Value.ref _]) _ _ _); k_dflt (refine' extend_m (by k_asm) (by k_asm) (by k_mem) (by k_upd) (by walk_at "m len") (by walk_at "m len") ?_; k_whole); intro hz' Fz' Nz'; (try k_sweep))
  k_with "L:call ref" => (k_here; (with_reducible show wpAny _ _ (call (Value.ref 106) _ _) _ _ _); k_dflt (refine' payload_r (by k_asm) (by k_asm) (by k_asm) (by k_asm) (by k_asm) (by first | exact rfl | assumption) (by ktr_room) (by ktr_units) ?_; k_whole); intro tz' hz' tkz' Fz' Nz'; (try dsimp only); (try k_sweep))
  k_with "L:call ref" => (k_here; (with_reducible show wpAny _ _ (call (Value.ref 148) _ _) _ _ _); k_dflt (refine' is_ref_r (by k_asm) (by k_asm) (by k_asm) (by k_asm) (by k_asm) (by first | exact rfl | assumption) (by ktr_room) (by ktr_units) ?_; k_whole); intro hz' tkz' Fz' Nz'; (try dsimp only); (try k_sweep))
  k_with "L:call ref" => (k_here; (with_reducible show wpAny _ _ (call (Value.ref 155) _ _) _ _ _); k_dflt (refine' is_header_y (by k_asm) (by k_asm) (by k_asm) (by k_asm) (by k_asm) (by first | exact rfl | assumption) (by ktr_room) (by ktr_units) (by walk_at "m prem") ?_; k_whole); intro hz' tkz' Fz' Nz'; (try dsimp only); (try k_sweep))
  k_with "L:m enterC" => (refine wpAny_call ?_; k_dflt (refine' code_defC (by k_asm) (by k_asm) (by k_asm) (by k_asm) (by k_asm) (by exact rfl) (by exact rfl) (by assumption) (by k_is) (by k_is) (by ktr_room) (by exact BindsTo.of_eq rfl) (by exact rfl) (by decide +kernel) ?_ (by exact rfl) (by exact rfl) (by exact rfl); k_whole; intro gz' Lz' hz' tkz' cellsz' FGz' Fz' Nz' Yz' Bz' Xz' Tz' l1; (try k_lt l1); k_cells Yz'; (try simp only [List.cons_append, List.nil_append] at Nz'); (try dsimp only); (try k_fold)))
  k_with "L:m news" => (first | k_asm | assumption | exact news_tl' (by assumption) | exact news_tl' (news_tl' (by assumption)) | exact news_tl' (news_tl' (news_tl' (by assumption))))
  trivial
/-- what _law_kind tells of a thing -/
def KindIs (bs : List Blk) : Value → Str → Prop
  | .int _ _, k => k = "number"
  | .bool _, k => k = "other"
  | .str _ _, k => k = "other"
  | .ref b, k => ∃ kb ∈ bs, kb.b = b ∧ k = if kb.pr then "pair" else "box"
  | _, _ => False
section
variable {w : World} {p : Program} {loose : List Str} {mean : ExcName → Option Value} {mg mb : Str → Option Value} {dp un : Nat} {gd : Option (List Code)} {cn : Str} {cs : Scope} {L a : Addr} {ccd : Value} {cl : List (Str × Addr)} {outer : List Env} {A₀ : Around} {base h₀ : Heap} {m : Str → Option Value} {news : List (Addr × Obj)} {s : Shared} {Q E : Value → Shared → Prop}
theorem kind_t {bs : List Blk} {v : Value} {k : Str} (B : Below A₀ base outer h₀) (F : Fr h₀ L s.heap m) (X : (hd.heap_39 w.params).In h₀) (N : News h₀ L s.heap news) (T : Top p loose mean mg mb h₀) (hk : cs.kind = .function) (hd1 : dp + 10 < recursionLimit) (hu1 : un + 100 < cLine) (hB : BlkIns news bs) (hv : KindIs bs v k)
    (hret : ∀ t' h' tk', Fr h₀ L h' m → News h₀ L h' news → Q (.str k t') { s with heap := h', toks := tk' }) : wpAny (model PySem.Challenge.rw_on0295_01.row.prog w) (ktrTop dp un gd cn cs L a ccd cl outer) (call (.ref 395) [v]) Q E s := by
  cases v with
  | int n t => cases hv; exact kind_int B F X N T hk hd1 hu1 hret
  | bool b => cases hv; exact kind_bool B F X N T hk hd1 hu1 hret
  | str x t => cases hv; exact kind_str B F X N T hk hd1 hu1 hret
  | ref b =>
    obtain ⟨kb, h1, rfl, rfl⟩ := hv
    refine kind_ref (us := kb.us) (v := .str (if kb.pr then "pair" else "box") kb.tk) B F X N T hk hd1 hu1 (hB.lst kb h1) ?_ fun h' tk' F' N' => ?_
    · unfold Blk.us
      cases kb.pr <;> rfl
    · have := hret kb.tk h' tk' F' N'
      cases q : kb.pr <;> rw [q] at this <;> exact this
  | _ => exact hv.elim
end
theorem ln_C7_2 : True := by
  k_with "L:m up" => (intro q9 hq9; first | exact hq9 | exact .tail _ hq9 | exact .tail _ (.tail _ hq9) | exact .tail _ (.tail _ (.tail _ hq9)) | exact .tail _ (.tail _ (.tail _ (.tail _ hq9))) | exact .tail _ (.tail _ (.tail _ (.tail _ (.tail _ hq9)))))
  k_with "L:m blk" => (first | with_reducible assumption | (refine BlkIns.mono (by assumption) ?_; walk_at "m up"))
  k_with "L:m prem" => (first | with_reducible assumption | ((with_reducible show BlkIns _ _); walk_at "m blk") | exact rfl | k_mem | omega | assumption | decide)
  k_with "L:m sub2" => (first | with_reducible assumption | exact sub_tl (by with_reducible assumption) | exact sub_tl (sub_tl (by with_reducible assumption)) | exact sub_tl (sub_tl (sub_tl (by with_reducible assumption))) | walk_at "m up")
  k_with "L:call ref" => (k_here; (with_reducible show wpAny _ _ (call (Value.ref 395) _ _) _ _ _); k_dflt (refine' kind_t (by k_asm) (by k_asm) (by k_asm) (by k_asm) (by k_asm) (by first | exact rfl | assumption) (by ktr_room) (by ktr_units) (by walk_at "m prem") (by walk_at "m prem") ?_; k_whole); intro tz' hz' tkz' Fz' Nz'; (try dsimp only); (try k_sweep))
  trivial
theorem sub_tl {α : Type} {a : α} {n k : List α} (h : ∀ q ∈ a :: n, q ∈ k) : ∀ q ∈ n, q ∈ k := fun q hq => h q (.tail _ hq)
theorem lt_tl {a : Addr × Obj} {r : List (Addr × Obj)} {x : Addr} (h : ∀ q ∈ a :: r, q.1 < x) : ∀ q ∈ r, q.1 < x := fun q hq => h q (.tail _ hq)
theorem unrEndW_m {h₀ : Heap} {L I : Addr} {it : Obj} {rest : (Str → Option Value) → List (Addr × Obj) → Prop} {s₁ : Shared} {h' : Heap} {tk : Nat} {m' : Str → Option Value} {ns : List (Addr × Obj)} (F : Fr h₀ L h' m') (N : News h₀ L h' ((I, it) :: ns))
    (l1 : ∀ p ∈ ns, p.1 < I) (r : rest m' ns) : UnrEndW h₀ L s₁ [(I, it)] rest { s₁ with heap := h', toks := tk } := ⟨h', tk, m', ns, rfl, F, N, fun p hp q hq => by rw [List.mem_singleton.mp hq]; exact Nat.ne_of_lt (l1 p hp), r⟩
theorem ln_C7_3 : True := by
  k_with "L:pyIter ref" => (k_here; (with_reducible show wpAny _ _ (pyIter (Value.ref _)) (fun it s₂ => TurnsAt _ _ _ _ _ _ _ _ _ it s₂) _ _); k_dflt (refine' iter_tupTurns (by exact rfl) (by k_asm) (by k_asm) (by exact List.Mem.head _) (by exact rfl) (by exact rfl) ?_; k_whole); intro Iz' l1z')
  k_with "L:UnrEndW" => (k_dflt (refine' unrEndW_m (by assumption) (by assumption) (by assumption) ?_); refine ⟨⟨by k_mem, trivial⟩, ?_⟩)
  trivial
def rowName' (op : Int) : Str := (["add", "subtract", "less", "same", "cons", "car", "cdr", "set-car", "set-cdr", "make-box", "open-box", "fill-box"] : List Str).getD op.toNat ""
def NoNum (k : Str) : Prop := k = "other" ∨ k = "pair" ∨ k = "box"
theorem ne_nonum {prog : Program} {w : World} {A : Around} {E : Value → Shared → Prop} {s : Shared} {Q : Value → Shared → Prop} {k : Str} {t u : Tok} (h : NoNum k) (q : Q (.bool true) s) : wpAny (model prog w) A (compareOp .NotEq (.str k t) (.str "number" u)) Q E s := by
  refine ne_str ?_
  rcases h with rfl | rfl | rfl
  all_goals exact q
section
variable {prog : Program} {w : World} {A : Around} {E : Value → Shared → Prop} {s : Shared} {h₀ : Heap} {L a : Addr} {news : List (Addr × Obj)} {Q : Value → Shared → Prop} {op : Int}
theorem in_row {xs : List Value} {ys : List Str} {t : Tok} {b : Bool} (N : News h₀ L s.heap news) (hm : (a, ({ cls := .type "tuple", data := .seq xs.toArray } : Obj)) ∈ news) (hs : StrsAre xs ys) (h0 : 0 ≤ op) (h1 : op < 12)
    (hb : ∀ i : Nat, i < 12 → (i : Int) = op → ys.any (· == rowName' i) = b) (h : Q (.bool b) s) : wpAny (model prog w) A (compareOp .In (.str (rowName' op) t) (.ref a)) Q E s := by
  refine in_tuple_strs (News.isTup N hm) (by simpa using hs) ?_
  have e := hb op.toNat (by omega) (by omega)
  rw [show ((op.toNat : Nat) : Int) = op by omega] at e
  rw [e]
  exact h
theorem in_arith {t t1 t2 t3 : Tok} (N : News h₀ L s.heap news) (hm : (a, ({ cls := .type "tuple", data := .seq [Value.str "add" t1, .str "subtract" t2, .str "less" t3].toArray } : Obj)) ∈ news) (h0 : 0 ≤ op) (h1 : op < 3) (h : Q (.bool true) s) : wpAny (model prog w) A (compareOp .In (.str (rowName' op) t) (.ref a)) Q E s := by
  refine in_row N hm (.cons _ _ (.cons _ _ (.cons _ _ .nil))) h0 (by omega) (fun i hi e => ?_) h
  obtain rfl | rfl | rfl : i = 0 ∨ i = 1 ∨ i = 2 := by omega
  all_goals decide +kernel
theorem in_arith_no {t t1 t2 t3 : Tok} (N : News h₀ L s.heap news) (hm : (a, ({ cls := .type "tuple", data := .seq [Value.str "add" t1, .str "subtract" t2, .str "less" t3].toArray } : Obj)) ∈ news) (h0 : 5 ≤ op) (h1 : op < 12) (h : Q (.bool false) s) : wpAny (model prog w) A (compareOp .In (.str (rowName' op) t) (.ref a)) Q E s := by
  refine in_row N hm (.cons _ _ (.cons _ _ (.cons _ _ .nil))) (by omega) h1 (fun i hi e => ?_) h
  obtain rfl | rfl | rfl | rfl | rfl | rfl | rfl : i = 5 ∨ i = 6 ∨ i = 7 ∨ i = 8 ∨ i = 9 ∨ i = 10 ∨ i = 11 := by omega
  all_goals decide +kernel
theorem in_box {t t1 t2 : Tok} (N : News h₀ L s.heap news) (hm : (a, ({ cls := .type "tuple", data := .seq [Value.str "open-box" t1, .str "fill-box" t2].toArray } : Obj)) ∈ news) (h0 : 10 ≤ op) (h1 : op < 12) (h : Q (.bool true) s) : wpAny (model prog w) A (compareOp .In (.str (rowName' op) t) (.ref a)) Q E s := by
  refine in_row N hm (.cons _ _ (.cons _ _ .nil)) (by omega) h1 (fun i hi e => ?_) h
  obtain rfl | rfl : i = 10 ∨ i = 11 := by omega
  all_goals decide +kernel
theorem in_box_no {t t1 t2 : Tok} (N : News h₀ L s.heap news) (hm : (a, ({ cls := .type "tuple", data := .seq [Value.str "open-box" t1, .str "fill-box" t2].toArray } : Obj)) ∈ news) (h0 : 5 ≤ op) (h1 : op < 9) (h : Q (.bool false) s) : wpAny (model prog w) A (compareOp .In (.str (rowName' op) t) (.ref a)) Q E s := by
  refine in_row N hm (.cons _ _ (.cons _ _ .nil)) (by omega) (by omega) (fun i hi e => ?_) h
  obtain rfl | rfl | rfl | rfl : i = 5 ∨ i = 6 ∨ i = 7 ∨ i = 8 := by omega
  all_goals decide +kernel
theorem eq_row_add {t u : Tok} (h0 : 0 ≤ op) (h1 : op < 3) (h : Q (.bool (decide (op = 0))) s) : wpAny (model prog w) A (compareOp .Eq (.str (rowName' op) t) (.str "add" u)) Q E s := by
  refine eq_str ?_
  have e : (rowName' op == ("add" : Str)) = decide (op = 0) := by
    rcases op_lt3 h0 h1 with rfl | rfl | rfl
    all_goals decide +kernel
  rw [e]
  exact h
theorem eq_row_sub {t u : Tok} (h0 : 0 ≤ op) (h1 : op < 3) (h : Q (.bool (decide (op = 1))) s) : wpAny (model prog w) A (compareOp .Eq (.str (rowName' op) t) (.str "subtract" u)) Q E s := by
  refine eq_str ?_
  have e : (rowName' op == ("subtract" : Str)) = decide (op = 1) := by
    rcases op_lt3 h0 h1 with rfl | rfl | rfl
    all_goals decide +kernel
  rw [e]
  exact h
theorem eq_row_no {x : Str} {t u : Tok} (h0 : 5 ≤ op) (h1 : op < 12) (h9 : op ≠ 9) (hx : x = "same" ∨ x = "cons" ∨ x = "make-box") (h : Q (.bool false) s) : wpAny (model prog w) A (compareOp .Eq (.str (rowName' op) t) (.str x u)) Q E s := by
  refine eq_str ?_
  have e : (rowName' op == x) = false := by
    rcases hx with rfl | rfl | rfl <;> rcases op_ge5 h0 h1 h9 with rfl | rfl | rfl | rfl | rfl | rfl
    all_goals decide +kernel
  rw [e]
  exact h
end
abbrev tup2 (a b : Value) : Obj := { cls := .type "tuple", data := .seq #[a, b] }
theorem ln_C7_4 : True := by
  k_with "L:compareOp NotEq str str" => (k_here; k_dflt (refine ne_nonum (by with_reducible assumption) ?_))
  k_with "L:compareOp Eq str str" => (k_here; first | with_reducible refine eq_row_add (by with_reducible assumption) (by with_reducible assumption) ?_ | with_reducible refine eq_row_sub (by with_reducible assumption) (by with_reducible assumption) ?_)
  trivial
section
variable {w : World} {p : Program} {loose : List Str} {mean : ExcName → Option Value} {mg mb : Str → Option Value} {dp un : Nat} {gd : Option (List Code)} {cn : Str} {cs : Scope} {L a : Addr} {ccd : Value} {cl : List (Str × Addr)} {outer : List Env} {A₀ : Around} {base h₀ : Heap} {m : Str → Option Value} {news : List (Addr × Obj)} {s : Shared} {Q E : Value → Shared → Prop}
set_option maxHeartbeats 1000000 in
theorem reckoned_r0 {sl : Addr} {bs : List Blk} {v0 v1 : Value} {k0 : Str} {nm : Str} {tn : Tok} {c : Nat} (B : Below A₀ base outer h₀) (F : Fr h₀ L s.heap m) (X : (hd.heap_39 w.params).In h₀) (N : News h₀ L s.heap news) (T : Top p loose mean mg mb h₀) (hk : cs.kind = .function) (hd1 : dp + 40 < recursionLimit) (hu1 : un + 400 < cLine) (hs : (sl, listOf [v0, v1].toArray c) ∈ news) (hB : BlkIns news bs) (hv : KindIs bs v0 k0) (hk0 : NoNum k0)
    (hret : ∀ r ta tp news' h' tk', Fr h₀ L h' m → News h₀ L h' news' → (∀ q ∈ news, q ∈ news') → (r, tup2 (.str "refused" ta) (.int 0 tp)) ∈ news' → Q (.ref r) { s with heap := h', toks := tk' }) : wpAny (model PySem.Challenge.rw_on0295_01.row.prog w) (ktrTop dp un gd cn cs L a ccd cl outer) (call (.ref 402) [.str nm tn, .ref sl]) Q E s := by
  walk_at "m enter"
  k_steps
  exact hret _ _ _ _ _ _ (by k_asm) (by k_asm) (by walk_at "m up") (by k_mem)
set_option maxHeartbeats 1000000 in
theorem reckoned_r1 {sl : Addr} {bs : List Blk} {v0 v1 : Value} {k1 : Str} {nm : Str} {tn : Tok} {c : Nat} (B : Below A₀ base outer h₀) (F : Fr h₀ L s.heap m) (X : (hd.heap_39 w.params).In h₀) (N : News h₀ L s.heap news) (T : Top p loose mean mg mb h₀) (hk : cs.kind = .function) (hd1 : dp + 40 < recursionLimit) (hu1 : un + 400 < cLine) (hs : (sl, listOf [v0, v1].toArray c) ∈ news) (hB : BlkIns news bs) (hv : KindIs bs v0 "number") (hv1 : KindIs bs v1 k1) (hk1 : NoNum k1)
    (hret : ∀ r ta tp news' h' tk', Fr h₀ L h' m → News h₀ L h' news' → (∀ q ∈ news, q ∈ news') → (r, tup2 (.str "refused" ta) (.int 1 tp)) ∈ news' → Q (.ref r) { s with heap := h', toks := tk' }) : wpAny (model PySem.Challenge.rw_on0295_01.row.prog w) (ktrTop dp un gd cn cs L a ccd cl outer) (call (.ref 402) [.str nm tn, .ref sl]) Q E s := by
  walk_at "m enter"
  k_steps
  exact hret _ _ _ _ _ _ (by k_asm) (by k_asm) (by walk_at "m up") (by k_mem)
set_option maxHeartbeats 1000000 in
theorem reckoned_told {sl : Addr} {bs : List Blk} {x y : Int} {tx ty : Tok} {op : Int} {tn : Tok} {c : Nat} (B : Below A₀ base outer h₀) (F : Fr h₀ L s.heap m) (X : (hd.heap_39 w.params).In h₀) (N : News h₀ L s.heap news) (T : Top p loose mean mg mb h₀) (hk : cs.kind = .function) (hd1 : dp + 40 < recursionLimit) (hu1 : un + 400 < cLine) (hs : (sl, listOf [.int x tx, .int y ty].toArray c) ∈ news) (hB : BlkIns news bs) (ho : op = 0 ∨ op = 1 ∨ op = 2)
    (hret : ∀ r ta v news' h' tk', Fr h₀ L h' m → News h₀ L h' news' → (∀ q ∈ news, q ∈ news') → (r, tup2 (.str "told" ta) v) ∈ news' → (op = 0 → ∃ t, v = .int (x + y) t) → (op = 1 → ∃ t, v = .int (x - y) t) → (op = 2 → v = .bool (decide (x < y))) → Q (.ref r) { s with heap := h', toks := tk' }) : wpAny (model PySem.Challenge.rw_on0295_01.row.prog w) (ktrTop dp un gd cn cs L a ccd cl outer) (call (.ref 402) [.str (rowName' op) tn, .ref sl]) Q E s := by
  have hv : KindIs bs (.int x tx) "number" := rfl
  have hv1 : KindIs bs (.int y ty) "number" := rfl
  have o0 : 0 ≤ op := by omega
  have o3 : op < 3 := by omega
  walk_at "m enter"
  k_steps
  all_goals (try simp only [decide_eq_true_eq] at *)
  all_goals first
    | exact hret _ _ _ _ _ _ (by k_asm) (by k_asm) (by walk_at "m up") (.head _) (fun _ => ⟨_, rfl⟩) (fun h => absurd h (by omega)) (fun h => absurd h (by omega))
    | exact hret _ _ _ _ _ _ (by k_asm) (by k_asm) (by walk_at "m up") (.head _) (fun h => absurd h (by omega)) (fun _ => ⟨_, rfl⟩) (fun h => absurd h (by omega))
    | exact hret _ _ _ _ _ _ (by k_asm) (by k_asm) (by walk_at "m up") (.head _) (fun h => absurd h (by omega)) (fun h => absurd h (by omega)) (fun _ => rfl)
end
theorem ln_C8_1 : True := by
  k_with_none
  k_with "L:room" => (first | exact room1 hd1 rfl | exact room2 hd1 rfl | exact room3 hd1 rfl | exact room4 hd1 rfl | exact room9 hd1)
  k_with "L:units" => (first | exact unit1 hu1 rfl | exact unit2 hu1 rfl | exact unit3 hu1 rfl | exact unit4 hu1 rfl | exact unit9 hu1)
  k_with "L:k_ne" => (refine neN ?_; (try dsimp only); first | with_reducible assumption | exact Ne.symm (by with_reducible assumption) | exact Nat.ne_of_lt (by walk_at "m lt") | exact Nat.ne_of_gt (by walk_at "m lt"))
  k_with "L:m lt" => (first | with_reducible assumption | with_reducible exact And.left (by assumption) | with_reducible exact And.left (And.right (by assumption)) | with_reducible exact And.left (And.right (And.right (by assumption))) | with_reducible exact And.left (And.right (And.right (And.right (by assumption)))) | with_reducible exact And.left (And.right (And.right (And.right (And.right (by assumption))))) | with_reducible exact And.left (And.right (And.right (And.right (And.right (And.right (by assumption)))))) | with_reducible exact And.left (And.right (And.right (And.right (And.right (And.right (And.right (by assumption))))))) | with_reducible exact And.left (And.right (And.right (And.right (And.right (And.right (And.right (And.right (by assumption)))))))))
  k_with "L:m small" => (refine wpAny_call ?_; k_dflt ktr_enter; k_steps)
  k_with "L:m enter" => (refine wpAny_call ?_; k_dflt ktr_enter)
  k_with "L:m idx" => (first | decide | ((try simp only [List.length_append, List.length_cons, List.length_nil, List.length_set]); omega))
  k_with "L:m len" => ((try simp only [List.length_append, List.length_cons, List.length_nil, List.length_set]); omega)
  k_with "L:k_mem" => (assumption)
  k_with "L:k_all" => (first | assumption | (refine allLt_ne (by assumption) ?_; intro q hq; (repeat (refine List.Mem.tail _ ?_)); exact hq))
  k_with "L:newList" => (k_here; k_dflt (refine' newList_K (by k_asm) (by k_asm) ?_; k_whole); intro lz' hz' Fz' Nz' l1; (have l2 := l1); (try k_lt l2); (try k_sweep))
  k_with "L:call builtin:len" => (k_here; (with_reducible show wpAny _ _ (call (Value.builtin "len") [Value.ref _]) _ _ _); k_dflt (refine' kst_len (by k_asm) (by k_mem) (by exact rfl) (by walk_at "m len") ?_; k_whole))
  k_with "L:subscriptTail" => (k_here; (with_reducible show wpAny _ _ (subscriptTail _ _ (Value.ref _) (Value.int _ _)) _ _ _); k_dflt (refine' item_m (by k_asm) (by k_mem) (by walk_at "m idx") (by walk_at "m idx") (by first | assumption | exact rfl | exact (by assumption : 1 < _ → _ = some _) (by omega)) ?_ (by with_unfolding_all rfl); k_whole))
  k_with "L:setItem ref int" => (k_here; (with_reducible show wpAny _ _ (setItem (Value.ref _) (Value.int _ _) _) _ _ _); k_dflt (refine' set_m (by k_asm) (by k_asm) (by k_upd) (by omega) (by walk_at "m len") (by walk_at "m len") ?_; k_whole); intro hz' Fz' Nz'; (try k_sweep))
  k_with "L:call builtin:list.append" => (k_here; (with_reducible show wpAny _ _ (call (Value.builtin _) [Value.ref _, _]) _ _ _); k_dflt (refine' append_m (by k_asm) (by k_asm) (by k_upd) (by walk_at "m len") ?_; k_whole); intro hz' Fz' Nz'; (try k_sweep))
  k_with "L:call builtin:list.extend" => (k_here; (with_reducible show wpAny _ _ (call (Value.builtin _) [Value.ref _, Value.ref _]) _ _ _); k_dflt (refine' extend_m (by k_asm) (by k_asm) (by k_mem) (by k_upd) (by walk_at "m len") (by walk_at "m len") ?_; k_whole); intro hz' Fz' Nz'; (try k_sweep))
  k_with "L:call ref" => (k_here; (with_reducible show wpAny _ _ (call (Value.ref 106) _ _) _ _ _); k_dflt (refine' payload_r (by k_asm) (by k_asm) (by k_asm) (by k_asm) (by k_asm) (by first | exact rfl | assumption) (by ktr_room) (by ktr_units) ?_; k_whole); intro tz' hz' tkz' Fz' Nz'; (try dsimp only); (try k_sweep))
  k_with "L:call ref" => (k_here; (with_reducible show wpAny _ _ (call (Value.ref 148) _ _) _ _ _); k_dflt (refine' is_ref_r (by k_asm) (by k_asm) (by k_asm) (by k_asm) (by k_asm) (by first | exact rfl | assumption) (by ktr_room) (by ktr_units) ?_; k_whole); intro hz' tkz' Fz' Nz'; (try dsimp only); (try k_sweep))
  k_with "L:call ref" => (k_here; (with_reducible show wpAny _ _ (call (Value.ref 155) _ _) _ _ _); k_dflt (refine' is_header_y (by k_asm) (by k_asm) (by k_asm) (by k_asm) (by k_asm) (by first | exact rfl | assumption) (by ktr_room) (by ktr_units) (by walk_at "m prem") ?_; k_whole); intro hz' tkz' Fz' Nz'; (try dsimp only); (try k_sweep))
  k_with "L:m enterC" => (refine wpAny_call ?_; k_dflt (refine' code_defC (by k_asm) (by k_asm) (by k_asm) (by k_asm) (by k_asm) (by exact rfl) (by exact rfl) (by assumption) (by k_is) (by k_is) (by ktr_room) (by exact BindsTo.of_eq rfl) (by exact rfl) (by decide +kernel) ?_ (by exact rfl) (by exact rfl) (by exact rfl); k_whole; intro gz' Lz' hz' tkz' cellsz' FGz' Fz' Nz' Yz' Bz' Xz' Tz' l1; (try k_lt l1); k_cells Yz'; (try simp only [List.cons_append, List.nil_append] at Nz'); (try dsimp only); (try k_fold)))
  k_with "L:m news" => (first | k_asm | assumption | exact news_tl' (by assumption) | exact news_tl' (news_tl' (by assumption)) | exact news_tl' (news_tl' (news_tl' (by assumption))))
  k_with "L:pyIter ref" => (k_here; (with_reducible show wpAny _ _ (pyIter (Value.ref _)) (fun it s₂ => TurnsAt _ _ _ _ _ _ _ _ _ it s₂) _ _); k_dflt (refine' iter_tupTurns (by exact rfl) (by k_asm) (by k_asm) (by exact List.Mem.head _) (by exact rfl) (by exact rfl) ?_; k_whole); intro Iz' l1z')
  k_with "L:UnrEndW" => (k_dflt (refine' unrEndW_m (by assumption) (by assumption) (by assumption) ?_); refine ⟨⟨by k_mem, trivial⟩, ?_⟩)
  k_with "L:m up" => (intro q9 hq9; first | exact hq9 | exact .tail _ hq9 | exact .tail _ (.tail _ hq9) | exact .tail _ (.tail _ (.tail _ hq9)) | exact .tail _ (.tail _ (.tail _ (.tail _ hq9))) | exact .tail _ (.tail _ (.tail _ (.tail _ (.tail _ hq9)))))
  k_with "L:m blk" => (first | with_reducible assumption | (refine BlkIns.mono (by assumption) ?_; walk_at "m up"))
  k_with "L:m prem" => (first | with_reducible assumption | ((with_reducible show BlkIns _ _); walk_at "m blk") | exact rfl | k_mem | omega | assumption | decide)
  k_with "L:m sub2" => (first | with_reducible assumption | exact sub_tl (by with_reducible assumption) | exact sub_tl (sub_tl (by with_reducible assumption)) | exact sub_tl (sub_tl (sub_tl (by with_reducible assumption))) | walk_at "m up")
  k_with "L:call ref" => (k_here; (with_reducible show wpAny _ _ (call (Value.ref 395) _ _) _ _ _); k_dflt (refine' kind_t (by k_asm) (by k_asm) (by k_asm) (by k_asm) (by k_asm) (by first | exact rfl | assumption) (by ktr_room) (by ktr_units) (by walk_at "m prem") (by walk_at "m prem") ?_; k_whole); intro tz' hz' tkz' Fz' Nz'; (try dsimp only); (try k_sweep))
  k_with "L:call ref" => (k_here; (with_reducible show wpAny _ _ (call (Value.ref 402) _ _) _ _ _); k_dflt (refine' reckoned_told (by k_asm) (by k_asm) (by k_asm) (by k_asm) (by k_asm) (by first | exact rfl | assumption) (by ktr_room) (by ktr_units) (by walk_at "m prem") (by walk_at "m prem") (by walk_at "m prem") ?_; k_whole); intro rz' taz' vz' nz' hz' tkz' Fz' Nz' adz' mrz' v0z' v1z' v2z'; (try dsimp only); (try k_sweep))
  k_with "L:call ref" => (k_here; (with_reducible show wpAny _ _ (call (Value.ref 402) _ _) _ _ _); k_dflt (refine' reckoned_r0 (by k_asm) (by k_asm) (by k_asm) (by k_asm) (by k_asm) (by first | exact rfl | assumption) (by ktr_room) (by ktr_units) (by walk_at "m prem") (by walk_at "m prem") (by walk_at "m prem") (by walk_at "m prem") ?_; k_whole); intro rz' taz' tpz' nz' hz' tkz' Fz' Nz' adz' mrz'; (try dsimp only); (try k_sweep))
  k_with "L:call ref" => (k_here; (with_reducible show wpAny _ _ (call (Value.ref 402) _ _) _ _ _); k_dflt (refine' reckoned_r1 (by k_asm) (by k_asm) (by k_asm) (by k_asm) (by k_asm) (by first | exact rfl | assumption) (by ktr_room) (by ktr_units) (by walk_at "m prem") (by walk_at "m prem") (by walk_at "m prem") (by walk_at "m prem") (by walk_at "m prem") ?_; k_whole); intro rz' taz' tpz' nz' hz' tkz' Fz' Nz' adz' mrz'; (try dsimp only); (try k_sweep))
  k_with "L:compareOp In str ref" => (k_here; k_dflt (refine' in_arith (by k_asm) (by with_reducible exact List.mem_cons_self) (by omega) (by omega) ?_; k_whole))
  trivial
section
variable {w : World} {p : Program} {loose : List Str} {mean : ExcName → Option Value} {mg mb : Str → Option Value} {dp un : Nat} {gd : Option (List Code)} {cn : Str} {cs : Scope} {L a : Addr} {ccd : Value} {cl : List (Str × Addr)} {outer : List Env} {A₀ : Around} {base h₀ : Heap} {m : Str → Option Value} {news : List (Addr × Obj)} {s : Shared} {Q E : Value → Shared → Prop}
set_option maxHeartbeats 1000000 in
theorem due_r0 {sl : Addr} {bs : List Blk} {v0 v1 : Value} {k0 : Str} {op : Int} {tn : Tok} {c : Nat} (B : Below A₀ base outer h₀) (F : Fr h₀ L s.heap m) (X : (hd.heap_39 w.params).In h₀) (N : News h₀ L s.heap news) (T : Top p loose mean mg mb h₀) (hk : cs.kind = .function) (hd1 : dp + 60 < recursionLimit) (hu1 : un + 600 < cLine) (hs : (sl, listOf [v0, v1].toArray c) ∈ news) (hB : BlkIns news bs) (ho : op = 0 ∨ op = 1 ∨ op = 2) (hv : KindIs bs v0 k0) (hk0 : NoNum k0)
    (hret : ∀ r ta tp news' h' tk', Fr h₀ L h' m → News h₀ L h' news' → (∀ q ∈ news, q ∈ news') → (r, tup2 (.str "refused" ta) (.int 0 tp)) ∈ news' → Q (.ref r) { s with heap := h', toks := tk' }) : wpAny (model PySem.Challenge.rw_on0295_01.row.prog w) (ktrTop dp un gd cn cs L a ccd cl outer) (call (.ref 409) [.str (rowName' op) tn, .ref sl]) Q E s := by
  walk_at "m enter"
  k_steps
  exact hret _ _ _ _ _ _ (by k_asm) (by k_asm) (by walk_at "m sub2") (by assumption)
set_option maxHeartbeats 1000000 in
theorem due_r1 {sl : Addr} {bs : List Blk} {v0 v1 : Value} {k1 : Str} {op : Int} {tn : Tok} {c : Nat} (B : Below A₀ base outer h₀) (F : Fr h₀ L s.heap m) (X : (hd.heap_39 w.params).In h₀) (N : News h₀ L s.heap news) (T : Top p loose mean mg mb h₀) (hk : cs.kind = .function) (hd1 : dp + 60 < recursionLimit) (hu1 : un + 600 < cLine) (hs : (sl, listOf [v0, v1].toArray c) ∈ news) (hB : BlkIns news bs) (ho : op = 0 ∨ op = 1 ∨ op = 2) (hv : KindIs bs v0 "number") (hv1 : KindIs bs v1 k1) (hk1 : NoNum k1)
    (hret : ∀ r ta tp news' h' tk', Fr h₀ L h' m → News h₀ L h' news' → (∀ q ∈ news, q ∈ news') → (r, tup2 (.str "refused" ta) (.int 1 tp)) ∈ news' → Q (.ref r) { s with heap := h', toks := tk' }) : wpAny (model PySem.Challenge.rw_on0295_01.row.prog w) (ktrTop dp un gd cn cs L a ccd cl outer) (call (.ref 409) [.str (rowName' op) tn, .ref sl]) Q E s := by
  walk_at "m enter"
  k_steps
  exact hret _ _ _ _ _ _ (by k_asm) (by k_asm) (by walk_at "m sub2") (by assumption)
set_option maxHeartbeats 1000000 in
theorem due_num {sl : Addr} {bs : List Blk} {x y : Int} {tx ty : Tok} {op : Int} {tn : Tok} {c : Nat} (B : Below A₀ base outer h₀) (F : Fr h₀ L s.heap m) (X : (hd.heap_39 w.params).In h₀) (N : News h₀ L s.heap news) (T : Top p loose mean mg mb h₀) (hk : cs.kind = .function) (hd1 : dp + 60 < recursionLimit) (hu1 : un + 600 < cLine) (hs : (sl, listOf [.int x tx, .int y ty].toArray c) ∈ news) (hB : BlkIns news bs) (ho : op = 0 ∨ op = 1 ∨ op = 2)
    (hret : ∀ r ta v news' h' tk', Fr h₀ L h' m → News h₀ L h' news' → (∀ q ∈ news, q ∈ news') → (r, tup2 (.str "told" ta) v) ∈ news' → (op = 0 → ∃ t, v = .int (x + y) t) → (op = 1 → ∃ t, v = .int (x - y) t) → (op = 2 → v = .bool (decide (x < y))) → Q (.ref r) { s with heap := h', toks := tk' }) : wpAny (model PySem.Challenge.rw_on0295_01.row.prog w) (ktrTop dp un gd cn cs L a ccd cl outer) (call (.ref 409) [.str (rowName' op) tn, .ref sl]) Q E s := by
  walk_at "m enter"
  k_steps
  exact hret _ _ _ _ _ _ (by k_asm) (by k_asm) (by walk_at "m sub2") (by assumption) (by assumption) (by assumption) (by assumption)
end
theorem ln_C9_1 : True := by
  k_with_none
  k_with "L:room" => (first | exact room1 hd1 rfl | exact room2 hd1 rfl | exact room3 hd1 rfl | exact room4 hd1 rfl | exact room9 hd1)
  k_with "L:units" => (first | exact unit1 hu1 rfl | exact unit2 hu1 rfl | exact unit3 hu1 rfl | exact unit4 hu1 rfl | exact unit9 hu1)
  k_with "L:k_ne" => (refine neN ?_; (try dsimp only); first | with_reducible assumption | exact Ne.symm (by with_reducible assumption) | exact Nat.ne_of_lt (by walk_at "m lt") | exact Nat.ne_of_gt (by walk_at "m lt"))
  k_with "L:m lt" => (first | with_reducible assumption | with_reducible exact And.left (by assumption) | with_reducible exact And.left (And.right (by assumption)) | with_reducible exact And.left (And.right (And.right (by assumption))) | with_reducible exact And.left (And.right (And.right (And.right (by assumption)))) | with_reducible exact And.left (And.right (And.right (And.right (And.right (by assumption))))) | with_reducible exact And.left (And.right (And.right (And.right (And.right (And.right (by assumption)))))) | with_reducible exact And.left (And.right (And.right (And.right (And.right (And.right (And.right (by assumption))))))) | with_reducible exact And.left (And.right (And.right (And.right (And.right (And.right (And.right (And.right (by assumption)))))))))
  k_with "L:m small" => (refine wpAny_call ?_; k_dflt ktr_enter; k_steps)
  k_with "L:m enter" => (refine wpAny_call ?_; k_dflt ktr_enter)
  k_with "L:m idx" => (first | decide | ((try simp only [List.length_append, List.length_cons, List.length_nil, List.length_set]); omega))
  k_with "L:m len" => ((try simp only [List.length_append, List.length_cons, List.length_nil, List.length_set]); omega)
  k_with "L:k_mem" => (assumption)
  k_with "L:k_all" => (first | assumption | (refine allLt_ne (by assumption) ?_; intro q hq; (repeat (refine List.Mem.tail _ ?_)); exact hq))
  k_with "L:newList" => (k_here; k_dflt (refine' newList_K (by k_asm) (by k_asm) ?_; k_whole); intro lz' hz' Fz' Nz' l1; (have l2 := l1); (try k_lt l2); (try k_sweep))
  k_with "L:call builtin:len" => (k_here; (with_reducible show wpAny _ _ (call (Value.builtin "len") [Value.ref _]) _ _ _); k_dflt (refine' kst_len (by k_asm) (by k_mem) (by exact rfl) (by walk_at "m len") ?_; k_whole))
  k_with "L:subscriptTail" => (k_here; (with_reducible show wpAny _ _ (subscriptTail _ _ (Value.ref _) (Value.int _ _)) _ _ _); k_dflt (refine' item_m (by k_asm) (by k_mem) (by walk_at "m idx") (by walk_at "m idx") (by first | assumption | exact rfl | exact (by assumption : 1 < _ → _ = some _) (by omega)) ?_ (by with_unfolding_all rfl); k_whole))
  k_with "L:setItem ref int" => (k_here; (with_reducible show wpAny _ _ (setItem (Value.ref _) (Value.int _ _) _) _ _ _); k_dflt (refine' set_m (by k_asm) (by k_asm) (by k_upd) (by omega) (by walk_at "m len") (by walk_at "m len") ?_; k_whole); intro hz' Fz' Nz'; (try k_sweep))
  k_with "L:call builtin:list.append" => (k_here; (with_reducible show wpAny _ _ (call (Value.builtin _) [Value.ref _, _]) _ _ _); k_dflt (refine' append_m (by k_asm) (by k_asm) (by k_upd) (by walk_at "m len") ?_; k_whole); intro hz' Fz' Nz'; (try k_sweep))
  k_with "L:call builtin:list.extend" => (k_here; (with_reducible show wpAny _ _ (call (Value.builtin _) [Value.ref _, Value.ref _]) _ _ _); k_dflt (refine' extend_m (by k_asm) (by k_asm) (by k_mem) (by k_upd) (by walk_at "m len") (by walk_at "m len") ?_; k_whole); intro hz' Fz' Nz'; (try k_sweep))
  k_with "L:call ref" => (k_here; (with_reducible show wpAny _ _ (call (Value.ref 106) _ _) _ _ _); k_dflt (refine' payload_r (by k_asm) (by k_asm) (by k_asm) (by k_asm) (by k_asm) (by first | exact rfl | assumption) (by ktr_room) (by ktr_units) ?_; k_whole); intro tz' hz' tkz' Fz' Nz'; (try dsimp only); (try k_sweep))
  k_with "L:call ref" => (k_here; (with_reducible show wpAny _ _ (call (Value.ref 148) _ _) _ _ _); k_dflt (refine' is_ref_r (by k_asm) (by k_asm) (by k_asm) (by k_asm) (by k_asm) (by first | exact rfl | assumption) (by ktr_room) (by ktr_units) ?_; k_whole); intro hz' tkz' Fz' Nz'; (try dsimp only); (try k_sweep))
  k_with "L:call ref" => (k_here; (with_reducible show wpAny _ _ (call (Value.ref 155) _ _) _ _ _); k_dflt (refine' is_header_y (by k_asm) (by k_asm) (by k_asm) (by k_asm) (by k_asm) (by first | exact rfl | assumption) (by ktr_room) (by ktr_units) (by walk_at "m prem") ?_; k_whole); intro hz' tkz' Fz' Nz'; (try dsimp only); (try k_sweep))
  k_with "L:m enterC" => (refine wpAny_call ?_; k_dflt (refine' code_defC (by k_asm) (by k_asm) (by k_asm) (by k_asm) (by k_asm) (by exact rfl) (by exact rfl) (by assumption) (by k_is) (by k_is) (by ktr_room) (by exact BindsTo.of_eq rfl) (by exact rfl) (by decide +kernel) ?_ (by exact rfl) (by exact rfl) (by exact rfl); k_whole; intro gz' Lz' hz' tkz' cellsz' FGz' Fz' Nz' Yz' Bz' Xz' Tz' l1; (try k_lt l1); k_cells Yz'; (try simp only [List.cons_append, List.nil_append] at Nz'); (try dsimp only); (try k_fold)))
  k_with "L:m news" => (first | k_asm | assumption | exact news_tl' (by assumption) | exact news_tl' (news_tl' (by assumption)) | exact news_tl' (news_tl' (news_tl' (by assumption))))
  k_with "L:pyIter ref" => (k_here; (with_reducible show wpAny _ _ (pyIter (Value.ref _)) (fun it s₂ => TurnsAt _ _ _ _ _ _ _ _ _ it s₂) _ _); k_dflt (refine' iter_tupTurns (by exact rfl) (by k_asm) (by k_asm) (by exact List.Mem.head _) (by exact rfl) (by exact rfl) ?_; k_whole); intro Iz' l1z')
  k_with "L:UnrEndW" => (k_dflt (refine' unrEndW_m (by assumption) (by assumption) (by assumption) ?_); refine ⟨⟨by k_mem, trivial⟩, ?_⟩)
  k_with "L:m up" => (intro q9 hq9; first | exact hq9 | exact .tail _ hq9 | exact .tail _ (.tail _ hq9) | exact .tail _ (.tail _ (.tail _ hq9)) | exact .tail _ (.tail _ (.tail _ (.tail _ hq9))) | exact .tail _ (.tail _ (.tail _ (.tail _ (.tail _ hq9)))))
  k_with "L:m blk" => (first | with_reducible assumption | (refine BlkIns.mono (by assumption) ?_; walk_at "m up"))
  k_with "L:m prem" => (first | with_reducible assumption | ((with_reducible show BlkIns _ _); walk_at "m blk") | exact rfl | k_mem | omega | assumption | decide)
  k_with "L:m sub2" => (first | with_reducible assumption | exact sub_tl (by with_reducible assumption) | exact sub_tl (sub_tl (by with_reducible assumption)) | exact sub_tl (sub_tl (sub_tl (by with_reducible assumption))) | walk_at "m up")
  k_with "L:call ref" => (k_here; (with_reducible show wpAny _ _ (call (Value.ref 395) _ _) _ _ _); k_dflt (refine' kind_t (by k_asm) (by k_asm) (by k_asm) (by k_asm) (by k_asm) (by first | exact rfl | assumption) (by ktr_room) (by ktr_units) (by walk_at "m prem") (by walk_at "m prem") ?_; k_whole); intro tz' hz' tkz' Fz' Nz'; (try dsimp only); (try k_sweep))
  trivial
/-- a thing that is no block -/
def PlainIs : Value → Prop
  | .int n _ => n.natAbs < 10 ^ 9
  | .bool _ => True
  | .str x _ => x = "empty" ∨ x = "nothing"
  | _ => False
def reprS : Value → Str
  | .int n _ => Str.ofString (toString n)
  | .bool b => if b then "True" else "False"
  | .str x _ => reprText x
  | _ => ""
section
variable {w : World} {A : Around} {p : Program} {loose : List Str} {mean : ExcName → Option Value} {mg mb : Str → Option Value} {L : Addr} {h₀ : Heap} {m : Str → Option Value} {news : List (Addr × Obj)} {s : Shared} {Q E : Value → Shared → Prop}
theorem isi_plain {v : Value} (hv : PlainIs v) (F : Fr h₀ L s.heap m) (X : (hd.heap_39 w.params).In h₀) (N : News h₀ L s.heap news) (h : ∀ tk, Q (.bool false) { s with toks := tk }) : wpAny (model PySem.Challenge.rw_on0295_01.row.prog w) A (call (.builtin "isinstance") [v, .type "list"]) Q E s := by
  cases v with
  | int n t => k_steps; all_goals exact h _
  | bool b => k_steps; all_goals exact h _
  | str x t => k_steps; all_goals exact h _
  | _ => exact hv.elim
theorem repr_plain {v : Value} (hv : PlainIs v) (F : Fr h₀ L s.heap m) (X : (hd.heap_39 w.params).In h₀) (N : News h₀ L s.heap news) (h : ∀ t tk, Q (.str (reprS v) t) { s with toks := tk }) : wpAny (model PySem.Challenge.rw_on0295_01.row.prog w) A (call (.builtin "repr") [v]) Q E s := by
  cases v with
  | int n t =>
    have hv' : n.natAbs < 10 ^ 9 := hv
    k_steps
    all_goals exact h _ _
  | bool b =>
    cases b
    all_goals k_steps
    all_goals exact h _ _
  | str x t =>
    rcases hv with rfl | rfl
    · exact P.repr_of_str (h _ _) (by decide +kernel)
    · exact P.repr_of_str (h _ _) (by decide +kernel)
  | _ => exact hv.elim
end
theorem is_ref_plain {M : Model} {A : Around} {E : Value → Shared → Prop} {s : Shared} {Q : Value → Shared → Prop} {a : Addr} {v : Value} (hv : PlainIs v) (h : Q (.bool false) s) : wpAny M A (compareOp .Is (.ref a) v) Q E s := by
  cases v with
  | int n t => exact wpAny_is_other rfl (by intro x; cases x) h
  | bool b => exact wpAny_is_other rfl (by intro x; cases x) h
  | str x t => exact wpAny_is_other rfl (by intro x; cases x) h
  | _ => exact hv.elim
theorem is_plain_ref {M : Model} {A : Around} {E : Value → Shared → Prop} {s : Shared} {Q : Value → Shared → Prop} {a : Addr} {v : Value} (hv : PlainIs v) (h : Q (.bool false) s) : wpAny M A (compareOp .Is v (.ref a)) Q E s := by
  cases v with
  | int n t => exact wpAny_is_other rfl (by intro x; cases x) h
  | bool b => exact wpAny_is_other rfl (by intro x; cases x) h
  | str x t => exact wpAny_is_other rfl (by intro x; cases x) h
  | _ => exact hv.elim
theorem ln_C9_2 : True := by
  k_with "L:compareOp Is ref" => (k_here; first | (refine is_ref_plain (by with_reducible assumption) ?_) | (refine is_plain_ref (by with_reducible assumption) ?_))
  k_with "L:call builtin:isinstance" => (k_here; (with_reducible show wpAny _ _ (call (Value.builtin "isinstance") [_, Value.type "list"]) _ _ _); k_dflt (refine' isi_plain (by with_reducible assumption) (by k_asm) (by k_asm) (by k_asm) ?_; k_whole); intro tkz')
  k_with "L:call builtin:repr" => (k_here; k_dflt (refine' repr_plain (by with_reducible assumption) (by k_asm) (by k_asm) (by k_asm) ?_; k_whole); intro tz' tkz')
  k_with "L:compareOp Is ref ref" => (k_here; (with_reducible show wpAny _ _ (compareOp CmpOp.Is (Value.ref _) (Value.ref _)) _ _ _); k_dflt (refine' is_other_m (by k_asm) (by k_mem) (by k_mem) (by with_reducible assumption) (by decide) ?_; k_whole))
  trivial
section
variable {w : World} {p : Program} {loose : List Str} {mean : ExcName → Option Value} {mg mb : Str → Option Value} {dp un : Nat} {gd : Option (List Code)} {cn : Str} {cs : Scope} {L a : Addr} {ccd : Value} {cl : List (Str × Addr)} {outer : List Env} {A₀ : Around} {base h₀ : Heap} {m : Str → Option Value} {news : List (Addr × Obj)} {s : Shared} {Q E : Value → Shared → Prop}
set_option maxHeartbeats 1000000 in
theorem same_plain {sl : Addr} {v0 v1 : Value} {tn : Tok} {c : Nat} (B : Below A₀ base outer h₀) (F : Fr h₀ L s.heap m) (X : (hd.heap_39 w.params).In h₀) (N : News h₀ L s.heap news) (T : Top p loose mean mg mb h₀) (hk : cs.kind = .function) (hd1 : dp + 60 < recursionLimit) (hu1 : un + 600 < cLine) (hs : (sl, listOf [v0, v1].toArray c) ∈ news) (hv0 : PlainIs v0) (hv1 : PlainIs v1)
    (hret : ∀ r ta news' h' tk', Fr h₀ L h' m → News h₀ L h' news' → (∀ q ∈ news, q ∈ news') → (r, tup2 (.str "told" ta) (.bool (reprS v0 == reprS v1))) ∈ news' → Q (.ref r) { s with heap := h', toks := tk' }) : wpAny (model PySem.Challenge.rw_on0295_01.row.prog w) (ktrTop dp un gd cn cs L a ccd cl outer) (call (.ref 409) [.str "same" tn, .ref sl]) Q E s := by
  walk_at "m enter"
  k_steps
  all_goals exact hret _ _ _ _ _ (by k_asm) (by k_asm) (by walk_at "m sub2") (by k_mem)
set_option maxHeartbeats 1000000 in
theorem same_other {sl : Addr} {k0 k1 : Blk} {tn : Tok} {c : Nat} (B : Below A₀ base outer h₀) (F : Fr h₀ L s.heap m) (X : (hd.heap_39 w.params).In h₀) (N : News h₀ L s.heap news) (T : Top p loose mean mg mb h₀) (hk : cs.kind = .function) (hd1 : dp + 60 < recursionLimit) (hu1 : un + 600 < cLine) (hs : (sl, listOf [.ref k0.b, .ref k1.b].toArray c) ∈ news) (hm0 : (k0.b, listOf k0.us.toArray k0.c) ∈ news) (hm1 : (k1.b, listOf k1.us.toArray k1.c) ∈ news) (hne : k0.b ≠ k1.b)
    (hret : ∀ r ta news' h' tk', Fr h₀ L h' m → News h₀ L h' news' → (∀ q ∈ news, q ∈ news') → (r, tup2 (.str "told" ta) (.bool false)) ∈ news' → Q (.ref r) { s with heap := h', toks := tk' }) : wpAny (model PySem.Challenge.rw_on0295_01.row.prog w) (ktrTop dp un gd cn cs L a ccd cl outer) (call (.ref 409) [.str "same" tn, .ref sl]) Q E s := by
  walk_at "m enter"
  k_steps
  all_goals exact hret _ _ _ _ _ (by k_asm) (by k_asm) (by walk_at "m sub2") (by k_mem)
set_option maxHeartbeats 1000000 in
theorem same_self {sl : Addr} {k0 : Blk} {tn : Tok} {c : Nat} (B : Below A₀ base outer h₀) (F : Fr h₀ L s.heap m) (X : (hd.heap_39 w.params).In h₀) (N : News h₀ L s.heap news) (T : Top p loose mean mg mb h₀) (hk : cs.kind = .function) (hd1 : dp + 60 < recursionLimit) (hu1 : un + 600 < cLine) (hs : (sl, listOf [.ref k0.b, .ref k0.b].toArray c) ∈ news) (hm0 : (k0.b, listOf k0.us.toArray k0.c) ∈ news)
    (hret : ∀ r ta news' h' tk', Fr h₀ L h' m → News h₀ L h' news' → (∀ q ∈ news, q ∈ news') → (r, tup2 (.str "told" ta) (.bool true)) ∈ news' → Q (.ref r) { s with heap := h', toks := tk' }) : wpAny (model PySem.Challenge.rw_on0295_01.row.prog w) (ktrTop dp un gd cn cs L a ccd cl outer) (call (.ref 409) [.str "same" tn, .ref sl]) Q E s := by
  walk_at "m enter"
  k_steps
  all_goals exact hret _ _ _ _ _ (by k_asm) (by k_asm) (by walk_at "m sub2") (by k_mem)
set_option maxHeartbeats 1000000 in
theorem same_left {sl : Addr} {k0 : Blk} {v1 : Value} {tn : Tok} {c : Nat} (B : Below A₀ base outer h₀) (F : Fr h₀ L s.heap m) (X : (hd.heap_39 w.params).In h₀) (N : News h₀ L s.heap news) (T : Top p loose mean mg mb h₀) (hk : cs.kind = .function) (hd1 : dp + 60 < recursionLimit) (hu1 : un + 600 < cLine) (hs : (sl, listOf [.ref k0.b, v1].toArray c) ∈ news) (hm0 : (k0.b, listOf k0.us.toArray k0.c) ∈ news) (hv1 : PlainIs v1)
    (hret : ∀ r ta news' h' tk', Fr h₀ L h' m → News h₀ L h' news' → (∀ q ∈ news, q ∈ news') → (r, tup2 (.str "told" ta) (.bool false)) ∈ news' → Q (.ref r) { s with heap := h', toks := tk' }) : wpAny (model PySem.Challenge.rw_on0295_01.row.prog w) (ktrTop dp un gd cn cs L a ccd cl outer) (call (.ref 409) [.str "same" tn, .ref sl]) Q E s := by
  walk_at "m enter"
  k_steps
  all_goals exact hret _ _ _ _ _ (by k_asm) (by k_asm) (by walk_at "m sub2") (by k_mem)
set_option maxHeartbeats 1000000 in
theorem same_right {sl : Addr} {k1 : Blk} {v0 : Value} {tn : Tok} {c : Nat} (B : Below A₀ base outer h₀) (F : Fr h₀ L s.heap m) (X : (hd.heap_39 w.params).In h₀) (N : News h₀ L s.heap news) (T : Top p loose mean mg mb h₀) (hk : cs.kind = .function) (hd1 : dp + 60 < recursionLimit) (hu1 : un + 600 < cLine) (hs : (sl, listOf [v0, .ref k1.b].toArray c) ∈ news) (hm1 : (k1.b, listOf k1.us.toArray k1.c) ∈ news) (hv0 : PlainIs v0)
    (hret : ∀ r ta news' h' tk', Fr h₀ L h' m → News h₀ L h' news' → (∀ q ∈ news, q ∈ news') → (r, tup2 (.str "told" ta) (.bool false)) ∈ news' → Q (.ref r) { s with heap := h', toks := tk' }) : wpAny (model PySem.Challenge.rw_on0295_01.row.prog w) (ktrTop dp un gd cn cs L a ccd cl outer) (call (.ref 409) [.str "same" tn, .ref sl]) Q E s := by
  walk_at "m enter"
  k_steps
  all_goals exact hret _ _ _ _ _ (by k_asm) (by k_asm) (by walk_at "m sub2") (by k_mem)
set_option maxHeartbeats 1000000 in
theorem due_cons {sl : Addr} {v0 v1 : Value} {tn : Tok} {c : Nat} (B : Below A₀ base outer h₀) (F : Fr h₀ L s.heap m) (X : (hd.heap_39 w.params).In h₀) (N : News h₀ L s.heap news) (T : Top p loose mean mg mb h₀) (hk : cs.kind = .function) (hd1 : dp + 60 < recursionLimit) (hu1 : un + 600 < cLine) (hs : (sl, listOf [v0, v1].toArray c) ∈ news)
    (hret : ∀ r D ta tk cD news' h' tk', Fr h₀ L h' m → News h₀ L h' news' → (∀ q ∈ news, q ∈ news') → (∀ q ∈ news, q.1 < D) → (D, listOf [.str "pair" tk, v0, v1].toArray cD) ∈ news' → (r, tup2 (.str "told" ta) (.ref D)) ∈ news' → Q (.ref r) { s with heap := h', toks := tk' }) : wpAny (model PySem.Challenge.rw_on0295_01.row.prog w) (ktrTop dp un gd cn cs L a ccd cl outer) (call (.ref 409) [.str "cons" tn, .ref sl]) Q E s := by
  walk_at "m enter"
  k_steps
  all_goals exact hret _ _ _ _ _ _ _ _ (by k_asm) (by k_asm) (by walk_at "m up") (fun q hq => (by assumption : ∀ p ∈ _ :: news, p.1 < _) q (.tail _ hq)) (.tail _ (.head _)) (.head _)
set_option maxHeartbeats 1000000 in
theorem due_box {sl : Addr} {v0 : Value} {tn : Tok} {c : Nat} (B : Below A₀ base outer h₀) (F : Fr h₀ L s.heap m) (X : (hd.heap_39 w.params).In h₀) (N : News h₀ L s.heap news) (T : Top p loose mean mg mb h₀) (hk : cs.kind = .function) (hd1 : dp + 60 < recursionLimit) (hu1 : un + 600 < cLine) (hs : (sl, listOf [v0].toArray c) ∈ news)
    (hret : ∀ r D ta tk cD news' h' tk', Fr h₀ L h' m → News h₀ L h' news' → (∀ q ∈ news, q ∈ news') → (∀ q ∈ news, q.1 < D) → (D, listOf [.str "box" tk, v0].toArray cD) ∈ news' → (r, tup2 (.str "told" ta) (.ref D)) ∈ news' → Q (.ref r) { s with heap := h', toks := tk' }) : wpAny (model PySem.Challenge.rw_on0295_01.row.prog w) (ktrTop dp un gd cn cs L a ccd cl outer) (call (.ref 409) [.str "make-box" tn, .ref sl]) Q E s := by
  walk_at "m enter"
  k_steps
  all_goals exact hret _ _ _ _ _ _ _ _ (by k_asm) (by k_asm) (by walk_at "m up") (fun q hq => (by assumption : ∀ p ∈ _ :: news, p.1 < _) q (.tail _ hq)) (.tail _ (.head _)) (.head _)
def BadKind (op : Int) (k : Str) : Prop := k = "number" ∨ k = "other" ∨ k = (if op < 9 then "box" else "pair")
end
theorem ne_bad_pair {prog : Program} {w : World} {A : Around} {E : Value → Shared → Prop} {s : Shared} {Q : Value → Shared → Prop} {k : Str} {op : Int} {t u : Tok} (h : BadKind op k) (h9 : op < 9) (q : Q (.bool true) s) : wpAny (model prog w) A (compareOp .NotEq (.str k t) (.str "pair" u)) Q E s := by
  refine ne_str ?_
  unfold BadKind at h
  rw [if_pos h9] at h
  rcases h with rfl | rfl | rfl
  all_goals exact q
theorem ne_bad_box {prog : Program} {w : World} {A : Around} {E : Value → Shared → Prop} {s : Shared} {Q : Value → Shared → Prop} {k : Str} {op : Int} {t u : Tok} (h : BadKind op k) (h9 : ¬ op < 9) (q : Q (.bool true) s) : wpAny (model prog w) A (compareOp .NotEq (.str k t) (.str "box" u)) Q E s := by
  refine ne_str ?_
  unfold BadKind at h
  rw [if_neg h9] at h
  rcases h with rfl | rfl | rfl
  all_goals exact q
theorem ln_C9_3 : True := by
  k_with "L:compareOp NotEq str str" => (k_here; first | with_reducible refine ne_bad_pair (by with_reducible assumption) (by with_reducible assumption) ?_ | with_reducible refine ne_bad_box (by with_reducible assumption) (by with_reducible assumption) ?_)
  k_with "L:compareOp Eq str str" => (k_here; k_dflt (refine eq_row_no (by with_reducible assumption) (by with_reducible assumption) (by with_reducible assumption) (by first | with_reducible exact .inl rfl | with_reducible exact .inr (.inl rfl) | with_reducible exact .inr (.inr rfl)) ?_))
  k_with "L:compareOp In str ref" => (k_here; k_dflt (refine' in_arith_no (by k_asm) (by with_reducible exact List.mem_cons_self) (by omega) (by omega) ?_; k_whole))
  k_with "L:compareOp In str ref" => (k_here; k_dflt (refine' in_box_no (by k_asm) (by with_reducible exact List.mem_cons_self) (by omega) (by omega) ?_; k_whole))
  k_with "L:compareOp In str ref" => (k_here; k_dflt (refine' in_box (by k_asm) (by with_reducible exact List.mem_cons_self) (by omega) (by omega) ?_; k_whole))
  trivial
section
variable {w : World} {p : Program} {loose : List Str} {mean : ExcName → Option Value} {mg mb : Str → Option Value} {dp un : Nat} {gd : Option (List Code)} {cn : Str} {cs : Scope} {L a : Addr} {ccd : Value} {cl : List (Str × Addr)} {outer : List Env} {A₀ : Around} {base h₀ : Heap} {m : Str → Option Value} {news : List (Addr × Obj)} {s : Shared} {Q E : Value → Shared → Prop}
set_option maxHeartbeats 4000000 in
theorem due_no {sl : Addr} {bs : List Blk} {v0 : Value} {r0 : List Value} {k0 : Str} {op : Int} {tn : Tok} {c : Nat} (B : Below A₀ base outer h₀) (F : Fr h₀ L s.heap m) (X : (hd.heap_39 w.params).In h₀) (N : News h₀ L s.heap news) (T : Top p loose mean mg mb h₀) (hk : cs.kind = .function) (hd1 : dp + 60 < recursionLimit) (hu1 : un + 600 < cLine) (hs : (sl, listOf (v0 :: r0).toArray c) ∈ news) (hB : BlkIns news bs) (ho : op = 5 ∨ op = 6 ∨ op = 7 ∨ op = 8 ∨ op = 10 ∨ op = 11) (hv : KindIs bs v0 k0) (hk0 : BadKind op k0)
    (hret : ∀ r ta tp news' h' tk', Fr h₀ L h' m → News h₀ L h' news' → (∀ q ∈ news, q ∈ news') → (r, tup2 (.str "refused" ta) (.int 0 tp)) ∈ news' → Q (.ref r) { s with heap := h', toks := tk' }) : wpAny (model PySem.Challenge.rw_on0295_01.row.prog w) (ktrTop dp un gd cn cs L a ccd cl outer) (call (.ref 409) [.str (rowName' op) tn, .ref sl]) Q E s := by
  have o5 : 5 ≤ op := by omega
  have o12 : op < 12 := by omega
  have o9 : op ≠ 9 := by omega
  by_cases h9 : op < 9
  all_goals (walk_at "m enter")
  all_goals k_steps
  all_goals exact hret _ _ _ _ _ _ (by k_asm) (by k_asm) (by walk_at "m sub2") (by k_mem)
end
theorem ln_C10_1 : True := by
  k_with_none
  k_with "L:room" => (first | exact room1 hd1 rfl | exact room2 hd1 rfl | exact room3 hd1 rfl | exact room4 hd1 rfl | exact room9 hd1)
  k_with "L:units" => (first | exact unit1 hu1 rfl | exact unit2 hu1 rfl | exact unit3 hu1 rfl | exact unit4 hu1 rfl | exact unit9 hu1)
  k_with "L:k_ne" => (refine neN ?_; (try dsimp only); first | with_reducible assumption | exact Ne.symm (by with_reducible assumption) | exact Nat.ne_of_lt (by walk_at "m lt") | exact Nat.ne_of_gt (by walk_at "m lt"))
  k_with "L:m lt" => (first | with_reducible assumption | with_reducible exact And.left (by assumption) | with_reducible exact And.left (And.right (by assumption)) | with_reducible exact And.left (And.right (And.right (by assumption))) | with_reducible exact And.left (And.right (And.right (And.right (by assumption)))) | with_reducible exact And.left (And.right (And.right (And.right (And.right (by assumption))))) | with_reducible exact And.left (And.right (And.right (And.right (And.right (And.right (by assumption)))))) | with_reducible exact And.left (And.right (And.right (And.right (And.right (And.right (And.right (by assumption))))))) | with_reducible exact And.left (And.right (And.right (And.right (And.right (And.right (And.right (And.right (by assumption)))))))))
  k_with "L:m small" => (refine wpAny_call ?_; k_dflt ktr_enter; k_steps)
  k_with "L:m enter" => (refine wpAny_call ?_; k_dflt ktr_enter)
  k_with "L:m idx" => (first | decide | ((try simp only [List.length_append, List.length_cons, List.length_nil, List.length_set]); omega))
  k_with "L:m len" => ((try simp only [List.length_append, List.length_cons, List.length_nil, List.length_set]); omega)
  k_with "L:k_mem" => (assumption)
  k_with "L:k_all" => (first | assumption | (refine allLt_ne (by assumption) ?_; intro q hq; (repeat (refine List.Mem.tail _ ?_)); exact hq))
  k_with "L:newList" => (k_here; k_dflt (refine' newList_K (by k_asm) (by k_asm) ?_; k_whole); intro lz' hz' Fz' Nz' l1; (have l2 := l1); (try k_lt l2); (try k_sweep))
  k_with "L:call builtin:len" => (k_here; (with_reducible show wpAny _ _ (call (Value.builtin "len") [Value.ref _]) _ _ _); k_dflt (refine' kst_len (by k_asm) (by k_mem) (by exact rfl) (by walk_at "m len") ?_; k_whole))
  k_with "L:subscriptTail" => (k_here; (with_reducible show wpAny _ _ (subscriptTail _ _ (Value.ref _) (Value.int _ _)) _ _ _); k_dflt (refine' item_m (by k_asm) (by k_mem) (by walk_at "m idx") (by walk_at "m idx") (by first | assumption | exact rfl | exact (by assumption : 1 < _ → _ = some _) (by omega)) ?_ (by with_unfolding_all rfl); k_whole))
  k_with "L:setItem ref int" => (k_here; (with_reducible show wpAny _ _ (setItem (Value.ref _) (Value.int _ _) _) _ _ _); k_dflt (refine' set_m (by k_asm) (by k_asm) (by k_upd) (by omega) (by walk_at "m len") (by walk_at "m len") ?_; k_whole); intro hz' Fz' Nz'; (try k_sweep))
  k_with "L:call builtin:list.append" => (k_here; (with_reducible show wpAny _ _ (call (Value.builtin _) [Value.ref _, _]) _ _ _); k_dflt (refine' append_m (by k_asm) (by k_asm) (by k_upd) (by walk_at "m len") ?_; k_whole); intro hz' Fz' Nz'; (try k_sweep))
  k_with "L:call builtin:list.extend" => (k_here; (with_reducible show wpAny _ _ (call (Value.builtin _) [Value.ref _, Value.ref _]) _ _ _); k_dflt (refine' extend_m (by k_asm) (by k_asm) (by k_mem) (by k_upd) (by walk_at "m len") (by walk_at "m len") ?_; k_whole); intro hz' Fz' Nz'; (try k_sweep))
  k_with "L:call ref" => (k_here; (with_reducible show wpAny _ _ (call (Value.ref 106) _ _) _ _ _); k_dflt (refine' payload_r (by k_asm) (by k_asm) (by k_asm) (by k_asm) (by k_asm) (by first | exact rfl | assumption) (by ktr_room) (by ktr_units) ?_; k_whole); intro tz' hz' tkz' Fz' Nz'; (try dsimp only); (try k_sweep))
  k_with "L:call ref" => (k_here; (with_reducible show wpAny _ _ (call (Value.ref 148) _ _) _ _ _); k_dflt (refine' is_ref_r (by k_asm) (by k_asm) (by k_asm) (by k_asm) (by k_asm) (by first | exact rfl | assumption) (by ktr_room) (by ktr_units) ?_; k_whole); intro hz' tkz' Fz' Nz'; (try dsimp only); (try k_sweep))
  k_with "L:call ref" => (k_here; (with_reducible show wpAny _ _ (call (Value.ref 155) _ _) _ _ _); k_dflt (refine' is_header_y (by k_asm) (by k_asm) (by k_asm) (by k_asm) (by k_asm) (by first | exact rfl | assumption) (by ktr_room) (by ktr_units) (by walk_at "m prem") ?_; k_whole); intro hz' tkz' Fz' Nz'; (try dsimp only); (try k_sweep))
  k_with "L:m enterC" => (refine wpAny_call ?_; k_dflt (refine' code_defC (by k_asm) (by k_asm) (by k_asm) (by k_asm) (by k_asm) (by exact rfl) (by exact rfl) (by assumption) (by k_is) (by k_is) (by ktr_room) (by exact BindsTo.of_eq rfl) (by exact rfl) (by decide +kernel) ?_ (by exact rfl) (by exact rfl) (by exact rfl); k_whole; intro gz' Lz' hz' tkz' cellsz' FGz' Fz' Nz' Yz' Bz' Xz' Tz' l1; (try k_lt l1); k_cells Yz'; (try simp only [List.cons_append, List.nil_append] at Nz'); (try dsimp only); (try k_fold)))
  k_with "L:m news" => (first | k_asm | assumption | exact news_tl' (by assumption) | exact news_tl' (news_tl' (by assumption)) | exact news_tl' (news_tl' (news_tl' (by assumption))))
  k_with "L:pyIter ref" => (k_here; (with_reducible show wpAny _ _ (pyIter (Value.ref _)) (fun it s₂ => TurnsAt _ _ _ _ _ _ _ _ _ it s₂) _ _); k_dflt (refine' iter_tupTurns (by exact rfl) (by k_asm) (by k_asm) (by exact List.Mem.head _) (by exact rfl) (by exact rfl) ?_; k_whole); intro Iz' l1z')
  k_with "L:UnrEndW" => (k_dflt (refine' unrEndW_m (by assumption) (by assumption) (by assumption) ?_); refine ⟨⟨by k_mem, trivial⟩, ?_⟩)
  k_with "L:m up" => (intro q9 hq9; first | exact hq9 | exact .tail _ hq9 | exact .tail _ (.tail _ hq9) | exact .tail _ (.tail _ (.tail _ hq9)) | exact .tail _ (.tail _ (.tail _ (.tail _ hq9))) | exact .tail _ (.tail _ (.tail _ (.tail _ (.tail _ hq9)))))
  k_with "L:m blk" => (first | with_reducible assumption | (refine BlkIns.mono (by assumption) ?_; walk_at "m up"))
  k_with "L:m prem" => (first | with_reducible assumption | ((with_reducible show BlkIns _ _); walk_at "m blk") | exact rfl | k_mem | omega | assumption | decide)
  k_with "L:m sub2" => (first | with_reducible assumption | exact sub_tl (by with_reducible assumption) | exact sub_tl (sub_tl (by with_reducible assumption)) | exact sub_tl (sub_tl (sub_tl (by with_reducible assumption))) | walk_at "m up")
  k_with "L:call ref" => (k_here; (with_reducible show wpAny _ _ (call (Value.ref 395) _ _) _ _ _); k_dflt (refine' kind_ref (by k_asm) (by k_asm) (by k_asm) (by k_asm) (by k_asm) (by first | exact rfl | assumption) (by ktr_room) (by ktr_units) (by walk_at "m prem") (by walk_at "m prem") ?_; k_whole); intro hz' tkz' Fz' Nz'; (try dsimp only); (try k_sweep))
  trivial
section
variable {w : World} {p : Program} {loose : List Str} {mean : ExcName → Option Value} {mg mb : Str → Option Value} {dp un : Nat} {gd : Option (List Code)} {cn : Str} {cs : Scope} {L a : Addr} {ccd : Value} {cl : List (Str × Addr)} {outer : List Env} {A₀ : Around} {base h₀ : Heap} {m : Str → Option Value} {news : List (Addr × Obj)} {s : Shared} {Q E : Value → Shared → Prop}
set_option maxHeartbeats 1000000 in
theorem due_get5 {sl b : Addr} {x y : Value} {tk tn : Tok} {c cb : Nat} (B : Below A₀ base outer h₀) (F : Fr h₀ L s.heap m) (X : (hd.heap_39 w.params).In h₀) (N : News h₀ L s.heap news) (T : Top p loose mean mg mb h₀) (hk : cs.kind = .function) (hd1 : dp + 60 < recursionLimit) (hu1 : un + 600 < cLine) (hs : (sl, listOf [.ref b].toArray c) ∈ news) (hb : (b, listOf [.str "pair" tk, x, y].toArray cb) ∈ news)
    (hret : ∀ r ta news' h' tk', Fr h₀ L h' m → News h₀ L h' news' → (∀ q ∈ news, q ∈ news') → (r, tup2 (.str "told" ta) x) ∈ news' → Q (.ref r) { s with heap := h', toks := tk' }) : wpAny (model PySem.Challenge.rw_on0295_01.row.prog w) (ktrTop dp un gd cn cs L a ccd cl outer) (call (.ref 409) [.str "car" tn, .ref sl]) Q E s := by
  walk_at "m enter"
  k_steps
  all_goals exact hret _ _ _ _ _ (by k_asm) (by k_asm) (by walk_at "m sub2") (by k_mem)
set_option maxHeartbeats 1000000 in
theorem due_get6 {sl b : Addr} {x y : Value} {tk tn : Tok} {c cb : Nat} (B : Below A₀ base outer h₀) (F : Fr h₀ L s.heap m) (X : (hd.heap_39 w.params).In h₀) (N : News h₀ L s.heap news) (T : Top p loose mean mg mb h₀) (hk : cs.kind = .function) (hd1 : dp + 60 < recursionLimit) (hu1 : un + 600 < cLine) (hs : (sl, listOf [.ref b].toArray c) ∈ news) (hb : (b, listOf [.str "pair" tk, x, y].toArray cb) ∈ news)
    (hret : ∀ r ta news' h' tk', Fr h₀ L h' m → News h₀ L h' news' → (∀ q ∈ news, q ∈ news') → (r, tup2 (.str "told" ta) y) ∈ news' → Q (.ref r) { s with heap := h', toks := tk' }) : wpAny (model PySem.Challenge.rw_on0295_01.row.prog w) (ktrTop dp un gd cn cs L a ccd cl outer) (call (.ref 409) [.str "cdr" tn, .ref sl]) Q E s := by
  walk_at "m enter"
  k_steps
  all_goals exact hret _ _ _ _ _ (by k_asm) (by k_asm) (by walk_at "m sub2") (by k_mem)
set_option maxHeartbeats 1000000 in
theorem due_get10 {sl b : Addr} {x _y : Value} {tk tn : Tok} {c cb : Nat} (B : Below A₀ base outer h₀) (F : Fr h₀ L s.heap m) (X : (hd.heap_39 w.params).In h₀) (N : News h₀ L s.heap news) (T : Top p loose mean mg mb h₀) (hk : cs.kind = .function) (hd1 : dp + 60 < recursionLimit) (hu1 : un + 600 < cLine) (hs : (sl, listOf [.ref b].toArray c) ∈ news) (hb : (b, listOf [.str "box" tk, x].toArray cb) ∈ news)
    (hret : ∀ r ta news' h' tk', Fr h₀ L h' m → News h₀ L h' news' → (∀ q ∈ news, q ∈ news') → (r, tup2 (.str "told" ta) x) ∈ news' → Q (.ref r) { s with heap := h', toks := tk' }) : wpAny (model PySem.Challenge.rw_on0295_01.row.prog w) (ktrTop dp un gd cn cs L a ccd cl outer) (call (.ref 409) [.str "open-box" tn, .ref sl]) Q E s := by
  walk_at "m enter"
  k_steps
  all_goals exact hret _ _ _ _ _ (by k_asm) (by k_asm) (by walk_at "m sub2") (by k_mem)
set_option maxHeartbeats 1000000 in
theorem due_set7 {sl b : Addr} {x y z : Value} {tk tn : Tok} {c cb : Nat} (B : Below A₀ base outer h₀) (F : Fr h₀ L s.heap m) (X : (hd.heap_39 w.params).In h₀) (N : News h₀ L s.heap news) (T : Top p loose mean mg mb h₀) (hk : cs.kind = .function) (hd1 : dp + 60 < recursionLimit) (hu1 : un + 600 < cLine) (hs : (sl, listOf [.ref b, z].toArray c) ∈ news) (hb : (b, listOf [.str "pair" tk, x, y].toArray cb) ∈ news) (hne : sl ≠ b)
    (hret : ∀ r ta tt news' h' tk', Fr h₀ L h' m → News h₀ L h' news' → (∀ q ∈ news, q.1 ≠ b → q ∈ news') → (b, listOf [.str "pair" tk, z, y].toArray cb) ∈ news' → (r, tup2 (.str "told" ta) (.str "nothing" tt)) ∈ news' → Q (.ref r) { s with heap := h', toks := tk' }) : wpAny (model PySem.Challenge.rw_on0295_01.row.prog w) (ktrTop dp un gd cn cs L a ccd cl outer) (call (.ref 409) [.str "set-car" tn, .ref sl]) Q E s := by
  obtain ⟨rest, N2, hr, hs2, hb2⟩ := news_front N hb
  have hs' := hs2 _ hs hne
  clear N hb2
  walk_at "m enter"
  k_steps
  all_goals exact hret _ _ _ _ _ _ (by k_asm) (by k_asm) (fun q hq hn => by have z := hs2 q hq hn; (repeat (first | exact z | refine List.Mem.tail _ ?_))) (.tail _ (.tail _ (.tail _ (.tail _ (.tail _ (.head _)))))) (.head _)
set_option maxHeartbeats 1000000 in
theorem due_set8 {sl b : Addr} {x y z : Value} {tk tn : Tok} {c cb : Nat} (B : Below A₀ base outer h₀) (F : Fr h₀ L s.heap m) (X : (hd.heap_39 w.params).In h₀) (N : News h₀ L s.heap news) (T : Top p loose mean mg mb h₀) (hk : cs.kind = .function) (hd1 : dp + 60 < recursionLimit) (hu1 : un + 600 < cLine) (hs : (sl, listOf [.ref b, z].toArray c) ∈ news) (hb : (b, listOf [.str "pair" tk, x, y].toArray cb) ∈ news) (hne : sl ≠ b)
    (hret : ∀ r ta tt news' h' tk', Fr h₀ L h' m → News h₀ L h' news' → (∀ q ∈ news, q.1 ≠ b → q ∈ news') → (b, listOf [.str "pair" tk, x, z].toArray cb) ∈ news' → (r, tup2 (.str "told" ta) (.str "nothing" tt)) ∈ news' → Q (.ref r) { s with heap := h', toks := tk' }) : wpAny (model PySem.Challenge.rw_on0295_01.row.prog w) (ktrTop dp un gd cn cs L a ccd cl outer) (call (.ref 409) [.str "set-cdr" tn, .ref sl]) Q E s := by
  obtain ⟨rest, N2, hr, hs2, hb2⟩ := news_front N hb
  have hs' := hs2 _ hs hne
  clear N hb2
  walk_at "m enter"
  k_steps
  all_goals exact hret _ _ _ _ _ _ (by k_asm) (by k_asm) (fun q hq hn => by have z := hs2 q hq hn; (repeat (first | exact z | refine List.Mem.tail _ ?_))) (.tail _ (.tail _ (.tail _ (.tail _ (.tail _ (.head _)))))) (.head _)
set_option maxHeartbeats 1000000 in
theorem due_set11 {sl b : Addr} {x _y z : Value} {tk tn : Tok} {c cb : Nat} (B : Below A₀ base outer h₀) (F : Fr h₀ L s.heap m) (X : (hd.heap_39 w.params).In h₀) (N : News h₀ L s.heap news) (T : Top p loose mean mg mb h₀) (hk : cs.kind = .function) (hd1 : dp + 60 < recursionLimit) (hu1 : un + 600 < cLine) (hs : (sl, listOf [.ref b, z].toArray c) ∈ news) (hb : (b, listOf [.str "box" tk, x].toArray cb) ∈ news) (hne : sl ≠ b)
    (hret : ∀ r ta tt news' h' tk', Fr h₀ L h' m → News h₀ L h' news' → (∀ q ∈ news, q.1 ≠ b → q ∈ news') → (b, listOf [.str "box" tk, z].toArray cb) ∈ news' → (r, tup2 (.str "told" ta) (.str "nothing" tt)) ∈ news' → Q (.ref r) { s with heap := h', toks := tk' }) : wpAny (model PySem.Challenge.rw_on0295_01.row.prog w) (ktrTop dp un gd cn cs L a ccd cl outer) (call (.ref 409) [.str "fill-box" tn, .ref sl]) Q E s := by
  obtain ⟨rest, N2, hr, hs2, hb2⟩ := news_front N hb
  have hs' := hs2 _ hs hne
  clear N hb2
  walk_at "m enter"
  k_steps
  all_goals exact hret _ _ _ _ _ _ (by k_asm) (by k_asm) (fun q hq hn => by have z := hs2 q hq hn; (repeat (first | exact z | refine List.Mem.tail _ ?_))) (.tail _ (.tail _ (.tail _ (.tail _ (.tail _ (.head _)))))) (.head _)
end
section
open PyProof.Rows.LCg
variable {prog : Program} {w : World} {A : Around} {E : Value → Shared → Prop} {s : Shared} {h₀ : Heap} {L : Addr} {m : Str → Option Value} {env : Env}
/-- a comprehension over a list, one name, one test, test and item read only -/
theorem nameT_all {ct elt : PySem.Expr} {x : Str} {scope : Scope} {cl : List (Str × Addr)} {S : List (Addr × Obj) → Prop} {us : List Value} {Fin : List Value → List (Addr × Obj) → Prop} {news : List (Addr × Obj)} (J : Nat → List Value → Prop) (hS : S news) (h0 : J 0 [])
    (turn : ∀ (i : Nat) (v : Value), us[i]? = some v → ∀ (I : Addr) (oI : Obj) (C : Addr) (oC : Obj) (m₂ : Str → Option Value) (D : Addr) (ys : List Value) (h : Heap) (tk : Nat) (E' : Value → Shared → Prop),
      J i ys → NsObj oC m₂ → m₂ x = some v → Fr h₀ L h m → News h₀ L h ((I, oI) :: (C, oC) :: (D, lst ys) :: news) →
      wpAny (model prog w) A (isTrue ct (compEnvC scope cl C env) (eval ct (compEnvC scope cl C env))) (fun ok s' => if ok = true then
          wpAny (model prog w) A (eval elt (compEnvC scope cl C env)) (fun y s'' => ReadEnd { s with heap := h, toks := tk } h (J (i + 1) (ys ++ [y])) s'') E' s'
        else ReadEnd { s with heap := h, toks := tk } h (J (i + 1) ys) s') E' { s with heap := h, toks := tk })
    (fin : ∀ ys, J us.length ys → Fin ys news) :
    PyProof.Rows.LCt.CompRestT prog w A h₀ L m env ct elt x scope cl s S (fun i v => us.toArray[i]? = some v) Fin us.length 0 [] news := by
  have all : ∀ k i ys, i + k = us.length → J i ys → PyProof.Rows.LCt.CompRestT prog w A h₀ L m env ct elt x scope cl s S (fun i v => us.toArray[i]? = some v) Fin k i ys news := by
    intro k
    induction k with
    | zero =>
      intro i ys e hJ
      obtain rfl : i = us.length := by omega
      exact PyProof.Rows.LCt.CompRestT.zero (fin ys hJ)
    | succ k ih =>
      intro i ys e hJ
      refine PyProof.Rows.LCt.CompRestT.succ fun v I oI C oC D m₂ h tk E' hv hC hx F N off ne => ?_
      refine wpAny_mono (turn i v (by simpa using hv) I oI C oC m₂ D ys h tk E' hJ hC hx F N) (fun ok s' h' => ?_) fun _ _ x => x
      cases ok with
      | true =>
        simp only [if_true] at h' ⊢
        refine wpAny_mono h' (fun y s'' h'' => ?_) fun _ _ x => x
        obtain ⟨tk', rfl, hJ'⟩ := h''
        exact CompEnd.intro F N news (fun _ q => q) off hS (ih (i + 1) _ (by omega) hJ')
      | false =>
        simp only [Bool.false_eq_true, if_false] at h' ⊢
        obtain ⟨tk', rfl, hJ'⟩ := h'
        exact CompEnd.intro F N news (fun _ q => q) off hS (ih (i + 1) _ (by omega) hJ')
  exact all _ 0 [] (by omega) h0
end
/-- a thing that the law knows -/
def ThingOk (bs : List Blk) (v : Value) : Prop := PlainIs v ∨ ∃ k ∈ bs, v = .ref k.b
def Things (bs : List Blk) : Prop := ∀ k ∈ bs, ThingOk bs k.x ∧ ThingOk bs k.y
/-- the pairs met from a thing on, and the thing behind them -/
inductive Chain (bs : List Blk) (v0 : Value) : List Blk → Value → Prop
  | nil : Chain bs v0 [] v0
  | snoc {ks : List Blk} {k : Blk} : Chain bs v0 ks (.ref k.b) → k ∈ bs → k.pr = true → Chain bs v0 (ks ++ [k]) k.y
def bRefs (ks : List Blk) : List Value := ks.map fun k => .ref k.b
def xsOf (ks : List Blk) : List Value := ks.map (·.x)
theorem Chain.mem {bs : List Blk} {v0 v : Value} {ks : List Blk} (h : Chain bs v0 ks v) : ∀ k ∈ ks, k ∈ bs ∧ k.pr = true := by
  induction h with
  | nil => intro k hk; cases hk
  | snoc h1 h2 h3 ih =>
    intro k hk
    rcases List.mem_append.mp hk with hk | hk
    · exact ih k hk
    · rw [List.mem_singleton.mp hk]; exact ⟨h2, h3⟩
theorem Chain.ok {bs : List Blk} {v0 v : Value} {ks : List Blk} (h : Chain bs v0 ks v) (hT : Things bs) (h0 : ThingOk bs v0) : ThingOk bs v := by
  cases h with
  | nil => exact h0
  | snoc h1 h2 h3 => exact (hT _ h2).2
theorem nodup_le {ks bs : List Blk} (hn : ks.Nodup) (hs : ∀ k ∈ ks, k ∈ bs) : ks.length ≤ bs.length := by
  induction ks generalizing bs with
  | nil => exact Nat.zero_le _
  | cons k r ih =>
    have hk := hs k (.head _)
    obtain ⟨hnk, hnr⟩ := List.nodup_cons.mp hn
    obtain ⟨a, b, rfl⟩ := List.append_of_mem hk
    have := ih (bs := a ++ b) hnr fun q hq => by
      rcases List.mem_append.mp (hs q (.tail _ hq)) with h | h
      · exact List.mem_append_left _ h
      · rcases List.mem_cons.mp h with rfl | h
        · exact absurd hq hnk
        · exact List.mem_append_right _ h
    simp only [List.length_append, List.length_cons] at this ⊢
    omega
/-- what the thing behind is -/
theorem thing_cases {bs : List Blk} {v : Value} (h : ThingOk bs v) : (∃ k ∈ bs, v = .ref k.b ∧ k.pr = true) ∨ (∃ k ∈ bs, v = .ref k.b ∧ k.pr = false) ∨ PlainIs v := by
  rcases h with h | ⟨k, hk, e⟩
  · exact .inr (.inr h)
  · cases q : k.pr with
    | true => exact .inl ⟨k, hk, e, q⟩
    | false => exact .inr (.inl ⟨k, hk, e, q⟩)
theorem ln_C12_1 : True := by
  k_with "L:call ref" => (k_here; (with_reducible show wpAny _ _ (call (Value.ref 106) _ _) _ _ _); k_dflt (refine' payload_r (by k_asm) (by k_asm) (by k_asm) (by k_asm) (by k_asm) (by first | exact rfl | assumption) (by ktr_room) (by ktr_units) ?_; k_whole); intro tz' hz' tkz' Fz' Nz'; (try dsimp only); (try k_sweep))
  k_with "L:call ref" => (k_here; (with_reducible show wpAny _ _ (call (Value.ref 148) _ _) _ _ _); k_dflt (refine' is_ref_r (by k_asm) (by k_asm) (by k_asm) (by k_asm) (by k_asm) (by first | exact rfl | assumption) (by ktr_room) (by ktr_units) ?_; k_whole); intro hz' tkz' Fz' Nz'; (try dsimp only); (try k_sweep))
  k_with "L:call ref" => (k_here; (with_reducible show wpAny _ _ (call (Value.ref 155) _ _) _ _ _); k_dflt (refine' is_header_y (by k_asm) (by k_asm) (by k_asm) (by k_asm) (by k_asm) (by first | exact rfl | assumption) (by ktr_room) (by ktr_units) (by walk_at "m prem") ?_; k_whole); intro hz' tkz' Fz' Nz'; (try dsimp only); (try k_sweep))
  k_with "L:call ref" => (k_here; (with_reducible show wpAny _ _ (call (Value.ref 395) _ _) _ _ _); k_dflt (refine' kind_t (by k_asm) (by k_asm) (by k_asm) (by k_asm) (by k_asm) (by first | exact rfl | assumption) (by ktr_room) (by ktr_units) (by walk_at "m prem") (by walk_at "m prem") ?_; k_whole); intro tz' hz' tkz' Fz' Nz'; (try dsimp only); (try k_sweep))
  k_with "L:call ref" => (k_here; (with_reducible show wpAny _ _ (call (Value.ref 395) _ _) _ _ _); k_dflt (refine' kind_ref (by k_asm) (by k_asm) (by k_asm) (by k_asm) (by k_asm) (by first | exact rfl | assumption) (by ktr_room) (by ktr_units) (by walk_at "m prem") (by walk_at "m prem") ?_; k_whole); intro hz' tkz' Fz' Nz'; (try dsimp only); (try k_sweep))
  trivial
def iLed (ml fl cA : Addr) (oc : Obj) (cm cf : Nat) (ks : List Blk) (news : List (Addr × Obj)) : List (Addr × Obj) := (ml, listOf (bRefs ks).toArray cm) :: (fl, listOf (xsOf ks).toArray cf) :: (cA, oc) :: news
def ItemsRing (Q : Flow → Shared → Prop) (f : Flow) (s₃ : Shared) : Prop := f = .ret .none ∧ Q (.ret .none) s₃
def ItemsStep (h₀ : Heap) (L : Addr) (s : Shared) (m : Str → Option Value) (ml fl cA : Addr) (ks : List Blk) (k : Blk) (news : List (Addr × Obj)) (f : Flow) (s₃ : Shared) : Prop :=
  f = .next ∧ ∃ h' tk oc cm cf, s₃ = { s with heap := h', toks := tk } ∧ Fr h₀ L h' m ∧ oc.data = .cell (some k.y) ∧ News h₀ L h' (iLed ml fl cA oc cm cf (ks ++ [k]) news)
section
variable {prog : Program} {w : World} {A : Around} {E : Value → Shared → Prop} {s : Shared} {env : Env} {h₀ h₉ : Heap} {L L₉ ml fl cA : Addr} {m m₉ : Str → Option Value} {oc : Obj} {news : List (Addr × Obj)} {bs : List Blk} {v0 : Value} {cm cf : Nat} {Q : Flow → Shared → Prop}
theorem items_loop {test : PySem.Expr} {body : List Stmt} {pos : Pos} (F : Fr h₀ L s.heap m) (N : News h₀ L s.heap (iLed ml fl cA oc cm cf [] news)) (hoc : oc.data = .cell (some v0)) (hT : Things bs) (hok : ThingOk bs v0) (hB : BlkIns news bs)
    (stop : ∀ ks v oc cm cf h₁ tk₁, Fr h₀ L h₁ m → News h₀ L h₁ (iLed ml fl cA oc cm cf ks news) → oc.data = .cell (some v) → Chain bs v0 ks v → ks.length ≤ bs.length → (PlainIs v ∨ ∃ k ∈ bs, v = .ref k.b ∧ k.pr = false) →
      wpAny (model prog w) A (isTrue test env (eval test env)) (DrawStop Q) E { s with heap := h₁, toks := tk₁ })
    (ring : ∀ ks k oc cm cf h₁ tk₁, Fr h₀ L h₁ m → News h₀ L h₁ (iLed ml fl cA oc cm cf ks news) → oc.data = .cell (some (.ref k.b)) → Chain bs v0 ks (.ref k.b) → ks.length ≤ bs.length → k ∈ bs → k ∈ ks → (k.b, listOf [Value.str "pair" k.tk, k.x, k.y].toArray k.c) ∈ news →
      wpAny (model prog w) A (isTrue test env (eval test env)) (DrawTurn fun s₂ => wpAny (model prog w) A (execs body env) (ItemsRing Q) E s₂) E { s with heap := h₁, toks := tk₁ })
    (turn : ∀ ks k oc cm cf h₁ tk₁, Fr h₀ L h₁ m → News h₀ L h₁ (iLed ml fl cA oc cm cf ks news) → oc.data = .cell (some (.ref k.b)) → Chain bs v0 ks (.ref k.b) → ks.length ≤ bs.length → k ∈ bs → k ∉ ks → (k.b, listOf [Value.str "pair" k.tk, k.x, k.y].toArray k.c) ∈ news →
      wpAny (model prog w) A (isTrue test env (eval test env)) (DrawTurn fun s₂ => wpAny (model prog w) A (execs body env) (ItemsStep h₀ L s m ml fl cA ks k news) E s₂) E { s with heap := h₁, toks := tk₁ })
    (hE : PassesOwn (model prog w) A env E := by passes_own) : wpAny (model prog w) A (exec (.While test body [] pos) env) Q E s := by
  let J : Nat → (Str → Option Value) → List (Addr × Obj) → Prop := fun n m₁ news₁ => ∃ ks v oc cm cf, n + ks.length = bs.length + 1 ∧ m₁ = m ∧ news₁ = iLed ml fl cA oc cm cf ks news ∧ oc.data = .cell (some v) ∧ Chain bs v0 ks v ∧ ks.Nodup
  refine While_inv2 J (n₀ := bs.length + 1) F N ⟨[], v0, oc, cm, cf, rfl, rfl, rfl, hoc, .nil, List.nodup_nil⟩ ?_ hE
  rintro n m₁ news₁ h₁ tk₁ F₁ N₁ ⟨ks, v, oc, cm, cf, hn, rfl, rfl, hoc, ch, nd⟩
  have hle := nodup_le nd fun k hk => (ch.mem k hk).1
  rcases thing_cases (ch.ok hT hok) with ⟨k, hk, rfl, hp⟩ | h | h
  · have hb : (k.b, listOf [Value.str "pair" k.tk, k.x, k.y].toArray k.c) ∈ news := by
      have := hB.lst k hk
      unfold Blk.us at this
      rw [if_pos hp] at this
      exact this
    by_cases hin : k ∈ ks
    · refine wpAny_mono (ring ks k oc cm cf h₁ tk₁ F₁ N₁ hoc ch hle hk hin hb) (fun b s₂ h => ?_) fun _ _ x => x
      obtain ⟨rfl, h⟩ := h
      rw [if_pos rfl]
      refine wpAny_mono h (fun f s₃ h => ?_) fun _ _ x => x
      obtain ⟨rfl, h⟩ := h
      exact h
    · refine wpAny_mono (turn ks k oc cm cf h₁ tk₁ F₁ N₁ hoc ch hle hk hin hb) (fun b s₂ h => ?_) fun _ _ x => x
      obtain ⟨rfl, h⟩ := h
      rw [if_pos rfl]
      refine wpAny_mono h (fun f s₃ h => ?_) fun _ _ x => x
      obtain ⟨rfl, h', tk, oc', cm', cf', rfl, F₂, hoc', N₂⟩ := h
      have nd' : (ks ++ [k]).Nodup := List.nodup_append.mpr ⟨nd, by simp, fun a ha b hb' e => hin (by rw [List.mem_singleton.mp hb'] at e; exact e ▸ ha)⟩
      have ch' : Chain bs v0 (ks ++ [k]) k.y := .snoc ch hk hp
      have hle' := nodup_le nd' fun k hk => (ch'.mem k hk).1
      rw [List.length_append, List.length_singleton] at hle'
      exact ⟨h', tk, _, _, n - 1, rfl, F₂, N₂, by omega, ks ++ [k], k.y, oc', cm', cf', by rw [List.length_append, List.length_singleton]; omega, rfl, rfl, hoc', ch', nd'⟩
  · refine wpAny_mono (stop ks v oc cm cf h₁ tk₁ F₁ N₁ hoc ch hle (.inr h)) (fun b s₂ h => ?_) fun _ _ x => x
    obtain ⟨rfl, h⟩ := h
    exact h
  · refine wpAny_mono (stop ks v oc cm cf h₁ tk₁ F₁ N₁ hoc ch hle (.inl h)) (fun b s₂ h => ?_) fun _ _ x => x
    obtain ⟨rfl, h⟩ := h
    exact h
end
/-- the thing is no list: a ring, or a dotted end -/
def NoList (bs : List Blk) (v0 : Value) : Prop := (∃ ks k, Chain bs v0 ks (.ref k.b) ∧ k ∈ bs ∧ k ∈ ks) ∨ ∃ ks v, Chain bs v0 ks v ∧ (PlainIs v ∨ ∃ k ∈ bs, v = .ref k.b ∧ k.pr = false) ∧ ∀ t, v ≠ .str "empty" t
theorem ln_C12_2 : True := by
  k_with "L:DrawStop" => (refine ⟨rfl, ?_⟩)
  k_with "L:DrawTurn" => (refine ⟨rfl, ?_⟩)
  k_with "L:ItemsRing" => (refine ⟨rfl, ?_⟩)
  trivial
theorem ints_snoc {vs : List Value} {ns : List Int} (h : IntsAre vs ns) (x : Int) (t : Tok) : IntsAre (vs ++ [Value.int x t]) (ns ++ [x]) := by
  induction h with
  | nil => exact .cons x t .nil
  | cons y u _ ih => exact .cons y u ih
theorem bRefs_get {ks : List Blk} {i : Nat} {v : Value} (h : (bRefs ks)[i]? = some v) : ∃ k, ks[i]? = some k ∧ v = .ref k.b := by
  rw [bRefs, List.getElem?_map] at h
  cases q : ks[i]? with
  | none => rw [q] at h; cases h
  | some k => rw [q] at h; exact ⟨k, rfl, (Option.some.inj h).symm⟩
theorem items_step {h₀ h' : Heap} {L ml fl cA : Addr} {s : Shared} {m : Str → Option Value} {ks : List Blk} {k : Blk} {news : List (Addr × Obj)} {oc : Obj} {cm cf tk : Nat} (F : Fr h₀ L h' m) (hoc : oc.data = .cell (some k.y))
    (N : News h₀ L h' ((ml, listOf (bRefs ks ++ [Value.ref k.b]).toArray cm) :: (fl, listOf (xsOf ks ++ [k.x]).toArray cf) :: (cA, oc) :: news)) : ItemsStep h₀ L s m ml fl cA ks k news .next { s with heap := h', toks := tk } :=
  ⟨rfl, h', tk, oc, cm, cf, rfl, F, hoc, by
    unfold iLed
    rw [show bRefs (ks ++ [k]) = bRefs ks ++ [Value.ref k.b] from List.map_append, show xsOf (ks ++ [k]) = xsOf ks ++ [k.x] from List.map_append]
    exact N⟩
theorem eq_list_str {prog : Program} {w : World} {A : Around} {E : Value → Shared → Prop} {s : Shared} {h₀ : Heap} {L b : Addr} {news : List (Addr × Obj)} {us : List Value} {c : Nat} {x : Str} {t : Tok} {Q : Value → Shared → Prop} (N : News h₀ L s.heap news) (hm : (b, listOf us.toArray c) ∈ news)
    (hu : A.units + 64 < cLine) (h : Q (.bool false) s) : wpAny (model prog w) A (compareOp .Eq (.ref b) (.str x t)) Q E s := cmp_ofEq (PySem.SeqAt.RcAt.list_str x t ⟨_, (N _ hm).1, rfl, c, rfl⟩ (by omega) prog w E Q h)
structure RingJ (k : Blk) (ks : List Blk) (i : Nat) (ys : List Value) : Prop where
  vals : ∃ ns, IntsAre ys ns
  has : k ∈ ks.take i → ys ≠ []
theorem RingJ.snoc {k : Blk} {ks : List Blk} {i : Nat} {ys : List Value} (h : RingJ k ks i ys) (x : Int) (t : Tok) : RingJ k ks (i + 1) (ys ++ [Value.int x t]) := ⟨let ⟨ns, q⟩ := h.vals; ⟨_, ints_snoc q x t⟩, fun _ => by simp⟩
theorem RingJ.skip {k k' : Blk} {ks : List Blk} {i : Nat} {ys : List Value} (h : RingJ k ks i ys) (hk : ks[i]? = some k') (hne : k' ≠ k) : RingJ k ks (i + 1) ys := ⟨h.vals, fun z => h.has (by
  rw [List.take_add_one, hk] at z
  rcases List.mem_append.mp z with z | z
  · exact z
  · exact absurd (List.mem_singleton.mp (by simpa using z)).symm hne)⟩
theorem ln_C12_3 : True := by
  k_with "L:compareOp Is ref ref" => (k_here; (with_reducible show wpAny _ _ (compareOp CmpOp.Is (Value.ref _) (Value.ref _)) _ _ _); k_dflt (refine' is_other_m (by k_asm) (by k_mem) (by k_mem) (by with_reducible assumption) (by decide) ?_; k_whole))
  k_with "L:compareOp NotEq ref ref" => (k_here; k_dflt (refine' ne_nil1 (by k_asm) (by k_mem) (by k_mem) (by assumption) (by ktr_units) ?_; k_whole))
  k_with "L:compareOp NotEq ref ref" => (k_here; k_dflt (refine' ne_nil0 (by k_asm) (by k_mem) (by k_mem) (by ktr_units) ?_; k_whole))
  k_with "L:m len" => (first | with_reducible assumption | ((try simp only [List.length_append, List.length_cons, List.length_nil, List.length_set]); omega))
  k_with "L:compareOp Eq ref str" => (k_here; k_dflt (refine' eq_list_str (by k_asm) (by k_mem) (by ktr_units) ?_; k_whole))
  k_with "L:eval ListComp" => (k_here; k_dflt (refine PyProof.Rows.LCt.ListComp_T (F₀ := by k_asm) (by with_unfolding_all rfl) (by decide) (by rfl) (by decide) (by rfl) ?_))
  trivial
theorem ne_succ {r : List (Addr × Obj)} {a : Nat} (h : ∀ q ∈ r, @LT.lt Nat _ q.1 a) : ∀ q ∈ r, q.1 ≠ (a + 1 : Nat) := fun q hq => Nat.ne_of_lt (Nat.lt_succ_of_lt (h q hq))
theorem ln_C12_4 : True := by
  k_with "L:k_all" => (first | assumption | exact List.forall_mem_nil _ | (refine allLt_ne (by assumption) ?_; intro q hq; (repeat (refine List.Mem.tail _ ?_)); exact hq) | exact ne_succ (by assumption) | (refine' List.forall_mem_cons.mpr ⟨(by k_ne), (by k_all)⟩))
  k_with "L:exec While Compare cons nil" => (k_here; rename HoldMark => hmk9; clear hmk9; refine hold_in ?_)
  trivial
section
variable {w : World} {p : Program} {loose : List Str} {mean : ExcName → Option Value} {mg mb : Str → Option Value} {dp un : Nat} {gd : Option (List Code)} {cn : Str} {cs : Scope} {L a : Addr} {ccd : Value} {cl : List (Str × Addr)} {outer : List Env} {A₀ : Around} {base h₀ : Heap} {m : Str → Option Value} {news : List (Addr × Obj)} {s : Shared} {Q E : Value → Shared → Prop}
set_option maxHeartbeats 2000000 in
theorem items_t {bs : List Blk} {v0 : Value} (B : Below A₀ base outer h₀) (F : Fr h₀ L s.heap m) (X : (hd.heap_39 w.params).In h₀) (N : News h₀ L s.heap news) (T : Top p loose mean mg mb h₀) (hk : cs.kind = .function) (hd1 : dp + 60 < recursionLimit) (hu1 : un + 600 < cLine) (hB : BlkIns news bs) (hT : Things bs) (hok : ThingOk bs v0)
    (hnone : ∀ h' tk', Fr h₀ L h' m → News h₀ L h' news → NoList bs v0 → Q .none { s with heap := h', toks := tk' })
    (hlist : ∀ fl cf ks t news' h' tk', Fr h₀ L h' m → News h₀ L h' news' → (∀ q ∈ news, q ∈ news') → (fl, listOf (xsOf ks).toArray cf) ∈ news' → Chain bs v0 ks (.str "empty" t) → ks.length ≤ bs.length → Q (.ref fl) { s with heap := h', toks := tk' }) : wpAny (model PySem.Challenge.rw_on0295_01.row.prog w) (ktrTop dp un gd cn cs L a ccd cl outer) (call (.ref 428) [v0]) Q E s := by
  walk_at "m enterC"
  have hmk : HoldMark := trivial
  k_steps
  refine hold_out ?_
  k_dflt (refine' items_loop (bs := bs) (v0 := v0) (news := news) ?F ?N ?oc hT hok hB ?stop ?ring ?turn; (case F => k_asm); (case N => exact news_tl' (by k_asm)); (case oc => k_asm))
  case stop =>
    intro ks v oc cm cf h₁ tk₁ F₁ N₁ hoc ch hle hv
    unfold iLed at N₁
    rcases hv with hp | ⟨k, hk, rfl, hp⟩
    · cases v with
      | int n t =>
        have hkd : KindIs bs (.int n t) "number" := rfl
        k_steps
        all_goals exact hnone _ _ (by k_asm) (news_tl' (news_tl' (news_tl' (by k_asm)))) (.inr ⟨ks, _, ch, .inl hp, fun t e => by cases e⟩)
      | bool b =>
        have hkd : KindIs bs (.bool b) "other" := rfl
        k_steps
        all_goals exact hnone _ _ (by k_asm) (news_tl' (news_tl' (news_tl' (by k_asm)))) (.inr ⟨ks, _, ch, .inl hp, fun t e => by cases e⟩)
      | str x t =>
        have hp' := hp
        rcases hp' with rfl | rfl
        · have hkd : KindIs bs (.str "empty" t) "other" := rfl
          k_steps
          all_goals exact hlist _ _ ks t _ _ _ (by k_asm) (by k_asm) (by walk_at "m up") (.tail _ (.head _)) ch hle
        · have hkd : KindIs bs (.str "nothing" t) "other" := rfl
          k_steps
          all_goals exact hnone _ _ (by k_asm) (news_tl' (news_tl' (news_tl' (by k_asm)))) (.inr ⟨ks, _, ch, .inl hp, fun t e => by injection e with e1; exact absurd e1 (by decide +kernel)⟩)
      | _ => exact hp.elim
    · have hb : (k.b, listOf [Value.str "box" k.tk, k.x].toArray k.c) ∈ news := by
        have := hB.lst k hk
        unfold Blk.us at this
        rw [if_neg (by rw [hp]; decide)] at this
        exact this
      k_steps
      all_goals exact hnone _ _ (by k_asm) (news_tl' (news_tl' (news_tl' (by k_asm)))) (.inr ⟨ks, _, ch, .inr ⟨k, hk, rfl, hp⟩, fun t e => by cases e⟩)
  case ring =>
    intro ks k oc cm cf h₁ tk₁ F₁ N₁ hoc ch hle hk hin hb
    unfold iLed at N₁
    k_steps
    refine PyProof.Rows.LCt.CompSrcT.ledger (its := (bRefs ks).toArray) (by rfl) (by k_asm) (by k_asm) (.head _) (by have := hB.few; rw [sizeLine_eq]; simp [bRefs]; omega) ?_
    intro g
    refine nameT_all (us := bRefs ks) (RingJ k ks) (.inr ⟨_, .head _, rfl, _, rfl⟩) ⟨⟨[], .nil⟩, by simp⟩ ?_ ?_
    · intro i v hv I oI C oC m₂ D ys h tk E' hJ hC hx F₃ N₃
      obtain ⟨k', hk', rfl⟩ := bRefs_get hv
      have hb' := hB.lst k' (ch.mem k' (List.mem_of_getElem? hk')).1
      by_cases e : k'.b = k.b
      · have e' := hB.one k hk k' (ch.mem k' (List.mem_of_getElem? hk')).1 e
        subst e'
        k_steps
        exact ⟨_, rfl, hJ.snoc _ _⟩
      · k_steps
        exact ⟨_, rfl, hJ.skip hk' fun z => e (z ▸ rfl)⟩
    · intro ys hJ
      have hne : ys ≠ [] := hJ.has (by rw [bRefs, List.length_map, List.take_length]; exact hin)
      obtain ⟨ns, hi⟩ := hJ.vals
      intro D h tk F₃ N₃ off
      cases hi with
      | nil => exact absurd rfl hne
      | cons x t hi =>
        have hi' := IntsAre.cons x t hi
        k_steps
        exact hnone _ _ (by k_asm) (news_tl' (news_tl' (news_tl' (news_tl' (news_tl' (by k_asm)))))) (.inl ⟨ks, k, ch, hk, hin⟩)
  case turn =>
    intro ks k oc cm cf h₁ tk₁ F₁ N₁ hoc ch hle hk hin hb
    unfold iLed at N₁
    k_steps
    refine PyProof.Rows.LCt.CompSrcT.ledger (its := (bRefs ks).toArray) (by rfl) (by k_asm) (by k_asm) (.head _) (by have := hB.few; rw [sizeLine_eq]; simp [bRefs]; omega) ?_
    intro g
    refine nameT_all (us := bRefs ks) (fun _ ys => ys = []) (.inr ⟨_, .head _, rfl, _, rfl⟩) rfl ?_ ?_
    · intro i v hv I oI C oC m₂ D ys h tk E' hJ hC hx F₃ N₃
      obtain ⟨k', hk', rfl⟩ := bRefs_get hv
      have hb' := hB.lst k' (ch.mem k' (List.mem_of_getElem? hk')).1
      have e : k'.b ≠ k.b := fun e => hin (hB.one k hk k' (ch.mem k' (List.mem_of_getElem? hk')).1 e ▸ List.mem_of_getElem? hk')
      k_steps
      exact ⟨_, rfl, hJ⟩
    · intro ys hJ
      subst hJ
      intro D h tk F₃ N₃ off
      simp only [PyProof.Rows.LCg.Off1] at off
      have hl1 : (bRefs ks).length < 1000 := by have := hB.few; simp [bRefs]; omega
      have hl2 : (xsOf ks).length < 1000 := by have := hB.few; simp [xsOf]; omega
      k_steps
      exact items_step (by k_asm) (by assumption) (news_tl' (news_tl' (by k_asm)))
end
/-! dict(a list of pairs) with int keys -/
section
open Builtin Builtin.Dict
theorem keys_list_none : typeLookup (.type "list") "keys" = pure none := am_miss_of_fast (by decide +kernel)
theorem entry_update_loop : entryFor table "dict.update.loop" = some Builtin.«dict.update.loop» := entryFor_of_tree (by kernel_rfl)
theorem quiet_update_loop (a : Args) : (Code.builtin "dict.update.loop" a).quiet = true := Code.quiet_builtin _ (by decide +kernel)
variable {prog : Program} {w : World} {A : Around} {E : Value → Shared → Prop}
theorem no_keys {s : Shared} {a : Addr} {xs : Array Value} {k : Nat} {sl : Array (Option Value)} {Q : Option Value → Shared → Prop} (hx : s.heap.get? a = some { cls := .type "list", dict := none, data := .seq xs k, slots := sl }) (hA : A.handled = none)
    (h : ∀ h' tk, (∀ b o, s.heap.get? b = some o → h'.get? b = some o) → Q none { s with heap := h', toks := tk }) : wpAny (model prog w) A (getAttr? (.ref a) "keys") Q E s := by
  obtain ⟨hp, g, d, tk, os⟩ := s
  have hT : ∀ tk', (⟨hp, g, d, tk', os⟩ : Shared).TypeIs (.ref a) "list" := fun _ => ⟨_, hx, rfl⟩
  have f1 := sub_AttributeError
  have f3 := F.slot_list_getattribute.lookup
  have f4 := F.slot_list_getattribute.bind (.ref a)
  have f5 := am_list_getattr_none
  unfold getAttr? getAttrBy? getAttrBy
  repeat (any_goals (first | assumption | exact hT _ | ((with_reducible show wpAny _ _ (call (Value.builtin "list.__getattribute__") _ _) _ _ _); refine call_meets F.slot_list_getattribute (hT _) am_entry_list_getattribute (F.args_list_getattribute_2 _ _) (meets_getattribute_miss_list a xs k sl "keys" _ keys_list_none (by decide +kernel)) ⟨hx, hA, fun h' tk' e hx' => ?_⟩) | wp_step))
  obtain ⟨t', u', he⟩ := hx'.there
  show wpAny _ _ (getattributeRaised _ _ _ _ _ _ _) _ _ _
  unfold getattributeRaised
  repeat (any_goals (first | assumption | wp_step))
  exact h _ _ hx'.of.keeps
theorem upd_loop {src d I : Addr} {us : List Value} {c : Nat} {H0 : Heap} {s : Shared} (ws : List Int) (hh : A.handled = none) (hsi : src ≠ I) (hdi : d ≠ I) (hsd : src ≠ d) (hlen : us.length = ws.length) (h100 : us.length ≤ 1000)
    (hus : ∀ (i : Nat) (v : Value), us[i]? = some v → ∃ (t : Addr) (x : Int) (tk : Tok) (y : Value), v = .ref t ∧ H0.get? t = some { cls := .type "tuple", data := .seq #[Value.int x tk, y] } ∧ ws[i]? = some x)
    (hd0 : H0.get? d = none) (hi0 : H0.get? I = none)
    {R : Result → Shared → Prop} (fin : ∀ h tk kvs, (∀ b o, H0.get? b = some o → h.get? b = some o) → h.DictOf (intKind prog w) d kvs → (ws.Nodup → kvs.length = ws.length) → R (.ok (.ret .none)) { s with heap := h, toks := tk }) :
    ∀ n i (kvs : List (Int × Value)) h tk, i + n = us.length → (∀ b o, H0.get? b = some o → h.get? b = some o) → (h.IsListIter I src i ∧ h.IsList src us.toArray) → h.DictOf (intKind prog w) d kvs → kvs.length ≤ i → (ws.Nodup → kvs.map (·.1) = ws.take i) →
      codeAny (model prog w) A (.builtin "dict.update.loop" ⟨[.ref d, .ref I, rawInt i, .none], []⟩) R { s with heap := h, toks := tk } := by
  intro n
  induction n with
  | zero =>
    intro i kvs h tk e hk st hd hle hnd
    refine codeAny_builtin entry_update_loop ?_
    have W := Walks.list (prog := prog) (w := w) (A := A.under (.builtin "dict.update.loop" ⟨[.ref d, .ref I, rawInt i, .none], []⟩)) hh I src hsi us.toArray
    unfold Builtin.«dict.update.loop» rawInt
    dsimp only
    refine wpAny_bind (W.done _ _ _ ?_ fun h' tk' hk' => ?_)
    · obtain rfl : i = us.length := by omega
      simpa using st
    · have hk2 : ∀ b o, b ≠ I → h.get? b = some o → h'.get? b = some o := fun b o hb q => hk' b o (by simpa using hb) q
      show wpAny _ _ (addKeywords d [] >>= fun _ => ret .none) _ _ _
      refine wpAny_bind (wpAny_pure (wpAny_pure (fin h' tk' kvs (fun b o q => hk2 b o (fun z => by rw [z, hi0] at q; cases q) (hk b o q)) ?_ fun nd => ?_)))
      · obtain ⟨o, es, ep, ho, r⟩ := hd
        exact ⟨o, es, ep, hk2 _ _ hdi ho, r⟩
      · have := congrArg List.length (hnd nd)
        rw [List.length_map, show i = ws.length by omega, List.take_length] at this
        exact this
  | succ n ih =>
    intro i kvs h tk e hk st hd hle hnd
    refine codeAny_builtin entry_update_loop ?_
    have W := Walks.list (prog := prog) (w := w) (A := A.under (.builtin "dict.update.loop" ⟨[.ref d, .ref I, rawInt i, .none], []⟩)) hh I src hsi us.toArray
    unfold Builtin.«dict.update.loop» rawInt
    dsimp only
    refine wpAny_bind (W.item i _ _ _ (by simp; omega) st fun v h' tk' hP st' hk' => ?_)
    have hv : us[i]? = some v := by have z : us.toArray[i]? = some v := hP; simpa using z
    obtain ⟨t, x, tx, y, rfl, ht, hw⟩ := hus i v hv
    have hk2 : ∀ b o, b ≠ I → h.get? b = some o → h'.get? b = some o := fun b o hb q => hk' b o (by simpa using hb) q
    have hk3 : ∀ b o, H0.get? b = some o → h'.get? b = some o := fun b o q => hk2 b o (fun z => by rw [z, hi0] at q; cases q) (hk b o q)
    have hd' : h'.DictOf (intKind prog w) d kvs := by
      obtain ⟨o, es, ep, ho, r⟩ := hd
      exact ⟨o, es, ep, hk2 _ _ hdi ho, r⟩
    have ht' := hk3 _ _ ht
    refine wpAny_bind (wpAny_holding (wpAny_bind (wpAny_tryCatch ?_)))
    unfold pairItems
    refine wpAny_bind (wpAny_typeOf (T := "tuple") ⟨_, ht', rfl⟩ ?_)
    rw [if_pos (by decide)]
    refine wpAny_bind (wpAny_seqItems ht' rfl (wpAny_pure ?_))
    show wpAny _ _ (holding [Value.int x tx, y] (dictSet d (.int x tx) y)) _ _ _
    refine wpAny_holding (wpAny_dictSet_pairs (knd := intKind prog w) (k := x) ?_ hd' (fun h'' hd'' hs => wpAny_pure ⟨quiet_update_loop _, ?_⟩) (by rw [sizeLine_eq]; omega))
    · simp [intKind, Value.isInt]
    · refine ih (i + 1) _ h'' _ (by omega) (fun b o q => hs.extBut b o (fun z => by rw [z, hd0] at q; cases q) (hk3 b o q)) ?_ hd'' ?_ ?_
      · exact ⟨st'.1.at fun o q => hs.extBut _ o (Ne.symm hdi) q, st'.2.at fun o q => hs.extBut _ o hsd q⟩
      · exact Nat.le_trans (stored_length_le kvs x y) (Nat.succ_le_succ hle)
      · intro nd
        have e1 := hnd nd
        have hi : i < ws.length := by omega
        have hx : x ∉ kvs.map (·.1) := by
          rw [e1]
          intro hm
          obtain ⟨j, hj, ej⟩ := List.mem_iff_getElem.mp hm
          rw [List.length_take] at hj
          rw [List.getElem_take] at ej
          have hxi : ws[i]'hi = x := by rw [List.getElem?_eq_getElem hi] at hw; exact Option.some.inj hw
          have := (List.getElem_inj (h₀ := by omega) (h₁ := hi) nd).mp (ej.trans hxi.symm)
          omega
        have hst : stored kvs x y = kvs ++ [(x, y)] := by
          unfold stored
          rw [if_neg]
          intro ha
          obtain ⟨p, hp, hq⟩ := List.any_eq_true.mp ha
          exact hx (List.mem_map.mpr ⟨p, hp, by simpa using hq⟩)
        rw [hst, List.map_append, e1, List.take_add_one, hw]
        rfl
theorem call_dict_pairs {src : Addr} {us : List Value} {c : Nat} {s : Shared} {h₀ : Heap} {L : Addr} {m : Str → Option Value} {news : List (Addr × Obj)} {Q : Value → Shared → Prop} (ws : List Int) (hbig : sysModules < h₀.objs.size) (hh : A.handled = none) (Fa : Fr h₀ L s.heap m) (N : News h₀ L s.heap news) (hm : (src, W.listOf us.toArray c) ∈ news)
    (hlen : us.length = ws.length) (h100 : us.length ≤ 1000) (hnd : ws.Nodup)
    (hus : ∀ (i : Nat) (v : Value), us[i]? = some v → ∃ (t : Addr) (x : Int) (tk : Tok) (y : Value), v = .ref t ∧ (t, ({ cls := .type "tuple", data := .seq #[Value.int x tk, y] } : Obj)) ∈ news ∧ ws[i]? = some x)
    (h : ∀ D oD kvs h' tk, Fr h₀ L h' m → News h₀ L h' ((D, oD) :: news) → oD.IsDictOf (intKind prog w) kvs → kvs.length = us.length → (D == sysModules) = false → (∀ q ∈ news, q.1 < D) → Q (.ref D) { s with heap := h', toks := tk }) :
    wpAny (model prog w) A (call (.type "dict") [.ref src]) Q E s := by
  refine callType_codes (Q₁ := fun obj s₁ => obj = .ref s.heap.objs.size ∧ s₁ = { s with heap := s.heap.push { cls := .type "dict", data := .dict #[] } }) F.kt_called_dict (F.kt_typeCall_dict_1 _) F.entry_dict_init (kt_code_dict_new _ ⟨rfl, rfl⟩) ?_
  rintro obj s₁ ⟨rfl, rfl⟩
  have hnew : (s.heap.push { cls := .type "dict", data := .dict #[] }).DictOf (intKind prog w) s.heap.objs.size [] := Heap.DictOf.new s.heap
  refine ⟨hnew.typeIs, F.args_dict_init_2 _ _, ?_⟩
  unfold Builtin.«dict.__init__»
  refine wpAny_bind ?_
  unfold Builtin.Dict.selfAndRest
  refine wpAny_bind (wpAny_notOrdered_dict hnew.typeIs ?_)
  show wpAny _ _ (pure (s.heap.objs.size, [Value.ref src])) _ _ _
  refine wpAny_pure ?_
  show wpAny _ _ (Builtin.Dict.updateFrom "dict.__init__" s.heap.objs.size (.ref src) [] .none) _ _ _
  have hsrc := (N _ hm).1
  have hslt := Heap.lt_size hsrc
  have keep0 : ∀ b o, s.heap.get? b = some o → (s.heap.push { cls := .type "dict", data := .dict #[] }).get? b = some o := fun b o q => Heap.get?_push_of_some _ q
  have hD0 : s.heap.get? s.heap.objs.size = none := Heap.get?_none_of_le (Nat.le_refl _)
  unfold Builtin.Dict.updateFrom
  refine wpAny_bind (wpAny_typeOf (T := "list") ⟨_, keep0 _ _ hsrc, rfl⟩ ?_)
  rw [if_pos (by decide)]
  refine wpAny_bind (no_keys (keep0 _ _ hsrc) hh fun h' tk hk => ?_)
  rw [if_pos (show (none : Option Value).isNone = true from rfl)]
  refine wpAny_bind (wpAny_rule ?_)
  have hl : h'.IsList src us.toArray := ⟨_, hk _ _ (keep0 _ _ hsrc), rfl, c, rfl⟩
  refine wpAny_bind (wpAny_pyIter_list hl ?_)
  have hDs : s.heap.objs.size < h'.objs.size := by
    obtain ⟨o, _, _, ho, _⟩ := hnew
    exact Heap.lt_size (hk _ _ ho)
  refine wpAny_pure ⟨quiet_update_loop _, ?_⟩
  have up : ∀ b o, h'.get? b = some o → (h'.push { cls := .type "list_iterator", data := .fields #[.ref src, .int 0 0] }).get? b = some o := fun b o q => Heap.get?_push_of_some _ q
  refine upd_loop (A := A.in1) (src := src) (d := s.heap.objs.size) (I := h'.objs.size) (us := us) (c := c) (H0 := s.heap) (s := s) ws hh (Nat.ne_of_lt (Nat.lt_trans hslt hDs)) (Nat.ne_of_lt hDs) (Nat.ne_of_lt hslt) hlen h100 (fun i v hv => ?_) hD0 (Heap.get?_none_of_le (Nat.le_of_lt hDs)) (fun h'' tk'' kvs hk'' hd'' hl'' => ?_) us.length 0 [] _ _ (by omega) (fun b o q => up b o (hk b o (keep0 b o q))) ?_ ?_ (Nat.le_refl _) (fun _ => by simp)
  · obtain ⟨t, x, tk, y, e, ht, hw⟩ := hus i v hv
    exact ⟨t, x, tk, y, e, (N _ ht).1, hw⟩
  · obtain ⟨o', ho', hd'⟩ := Heap.dictOf_iff.mp hd''
    refine ⟨rfl, h _ o' kvs h'' tk'' (Fa.keeps hk'') (fun q hq => ?_) hd' (by rw [hl'' hnd, hlen]) (Fa.notModules hbig) fun q hq => Heap.lt_size (N q hq).1⟩
    rcases List.mem_cons.mp hq with rfl | hq
    · exact ⟨ho', Nat.ne_of_gt Fa.ns.lt, none_at_size Fa⟩
    · exact ⟨hk'' _ _ (N q hq).1, (N q hq).2⟩
  · exact ⟨⟨_, Heap.get?_push_size _ rfl, rfl, rfl⟩, hl.at fun o q => up _ o q⟩
  · obtain ⟨o, es, ep, ho, r⟩ := hnew
    exact ⟨o, es, ep, up _ _ (hk _ _ ho), r⟩
end
theorem ln_C14_1 : True := by
  k_with_none
  k_with "L:room" => (first | exact room1 hd1 rfl | exact room2 hd1 rfl | exact room3 hd1 rfl | exact room4 hd1 rfl | exact room9 hd1)
  k_with "L:units" => (first | exact unit1 hu1 rfl | exact unit2 hu1 rfl | exact unit3 hu1 rfl | exact unit4 hu1 rfl | exact unit9 hu1)
  k_with "L:k_ne" => (refine neN ?_; (try dsimp only); first | with_reducible assumption | exact Ne.symm (by with_reducible assumption) | exact Nat.ne_of_lt (by walk_at "m lt") | exact Nat.ne_of_gt (by walk_at "m lt"))
  k_with "L:m lt" => (first | with_reducible assumption | with_reducible exact And.left (by assumption) | with_reducible exact And.left (And.right (by assumption)) | with_reducible exact And.left (And.right (And.right (by assumption))) | with_reducible exact And.left (And.right (And.right (And.right (by assumption)))) | with_reducible exact And.left (And.right (And.right (And.right (And.right (by assumption))))) | with_reducible exact And.left (And.right (And.right (And.right (And.right (And.right (by assumption)))))) | with_reducible exact And.left (And.right (And.right (And.right (And.right (And.right (And.right (by assumption))))))) | with_reducible exact And.left (And.right (And.right (And.right (And.right (And.right (And.right (And.right (by assumption)))))))))
  k_with "L:m small" => (refine wpAny_call ?_; k_dflt ktr_enter; k_steps)
  k_with "L:m enter" => (refine wpAny_call ?_; k_dflt ktr_enter)
  k_with "L:m idx" => (first | decide | ((try simp only [List.length_append, List.length_cons, List.length_nil, List.length_set]); omega))
  k_with "L:m len" => ((try simp only [List.length_append, List.length_cons, List.length_nil, List.length_set]); omega)
  k_with "L:k_mem" => (assumption)
  k_with "L:k_all" => (first | assumption | (refine allLt_ne (by assumption) ?_; intro q hq; (repeat (refine List.Mem.tail _ ?_)); exact hq))
  k_with "L:newList" => (k_here; k_dflt (refine' newList_K (by k_asm) (by k_asm) ?_; k_whole); intro lz' hz' Fz' Nz' l1; (have l2 := l1); (try k_lt l2); (try k_sweep))
  k_with "L:call builtin:len" => (k_here; (with_reducible show wpAny _ _ (call (Value.builtin "len") [Value.ref _]) _ _ _); k_dflt (refine' kst_len (by k_asm) (by k_mem) (by exact rfl) (by walk_at "m len") ?_; k_whole))
  k_with "L:subscriptTail" => (k_here; (with_reducible show wpAny _ _ (subscriptTail _ _ (Value.ref _) (Value.int _ _)) _ _ _); k_dflt (refine' item_m (by k_asm) (by k_mem) (by walk_at "m idx") (by walk_at "m idx") (by first | assumption | exact rfl | exact (by assumption : 1 < _ → _ = some _) (by omega)) ?_ (by with_unfolding_all rfl); k_whole))
  k_with "L:setItem ref int" => (k_here; (with_reducible show wpAny _ _ (setItem (Value.ref _) (Value.int _ _) _) _ _ _); k_dflt (refine' set_m (by k_asm) (by k_asm) (by k_upd) (by omega) (by walk_at "m len") (by walk_at "m len") ?_; k_whole); intro hz' Fz' Nz'; (try k_sweep))
  k_with "L:call builtin:list.append" => (k_here; (with_reducible show wpAny _ _ (call (Value.builtin _) [Value.ref _, _]) _ _ _); k_dflt (refine' append_m (by k_asm) (by k_asm) (by k_upd) (by walk_at "m len") ?_; k_whole); intro hz' Fz' Nz'; (try k_sweep))
  k_with "L:call builtin:list.extend" => (k_here; (with_reducible show wpAny _ _ (call (Value.builtin _) [Value.ref _, Value.ref _]) _ _ _); k_dflt (refine' extend_m (by k_asm) (by k_asm) (by k_mem) (by k_upd) (by walk_at "m len") (by walk_at "m len") ?_; k_whole); intro hz' Fz' Nz'; (try k_sweep))
  k_with "L:call ref" => (k_here; (with_reducible show wpAny _ _ (call (Value.ref 106) _ _) _ _ _); k_dflt (refine' payload_r (by k_asm) (by k_asm) (by k_asm) (by k_asm) (by k_asm) (by first | exact rfl | assumption) (by ktr_room) (by ktr_units) ?_; k_whole); intro tz' hz' tkz' Fz' Nz'; (try dsimp only); (try k_sweep))
  k_with "L:call ref" => (k_here; (with_reducible show wpAny _ _ (call (Value.ref 148) _ _) _ _ _); k_dflt (refine' is_ref_r (by k_asm) (by k_asm) (by k_asm) (by k_asm) (by k_asm) (by first | exact rfl | assumption) (by ktr_room) (by ktr_units) ?_; k_whole); intro hz' tkz' Fz' Nz'; (try dsimp only); (try k_sweep))
  k_with "L:call ref" => (k_here; (with_reducible show wpAny _ _ (call (Value.ref 155) _ _) _ _ _); k_dflt (refine' is_header_y (by k_asm) (by k_asm) (by k_asm) (by k_asm) (by k_asm) (by first | exact rfl | assumption) (by ktr_room) (by ktr_units) (by walk_at "m prem") ?_; k_whole); intro hz' tkz' Fz' Nz'; (try dsimp only); (try k_sweep))
  k_with "L:m enterC" => (refine wpAny_call ?_; k_dflt (refine' code_defC (by k_asm) (by k_asm) (by k_asm) (by k_asm) (by k_asm) (by exact rfl) (by exact rfl) (by assumption) (by k_is) (by k_is) (by ktr_room) (by exact BindsTo.of_eq rfl) (by exact rfl) (by decide +kernel) ?_ (by exact rfl) (by exact rfl) (by exact rfl); k_whole; intro gz' Lz' hz' tkz' cellsz' FGz' Fz' Nz' Yz' Bz' Xz' Tz' l1; (try k_lt l1); k_cells Yz'; (try simp only [List.cons_append, List.nil_append] at Nz'); (try dsimp only); (try k_fold)))
  k_with "L:m news" => (first | k_asm | assumption | exact news_tl' (by assumption) | exact news_tl' (news_tl' (by assumption)) | exact news_tl' (news_tl' (news_tl' (by assumption))))
  k_with "L:pyIter ref" => (k_here; (with_reducible show wpAny _ _ (pyIter (Value.ref _)) (fun it s₂ => TurnsAt _ _ _ _ _ _ _ _ _ it s₂) _ _); k_dflt (refine' iter_tupTurns (by exact rfl) (by k_asm) (by k_asm) (by exact List.Mem.head _) (by exact rfl) (by exact rfl) ?_; k_whole); intro Iz' l1z')
  k_with "L:UnrEndW" => (k_dflt (refine' unrEndW_m (by assumption) (by assumption) (by assumption) ?_); refine ⟨⟨by k_mem, trivial⟩, ?_⟩)
  k_with "L:m up" => (intro q9 hq9; first | exact hq9 | exact .tail _ hq9 | exact .tail _ (.tail _ hq9) | exact .tail _ (.tail _ (.tail _ hq9)) | exact .tail _ (.tail _ (.tail _ (.tail _ hq9))) | exact .tail _ (.tail _ (.tail _ (.tail _ (.tail _ hq9)))))
  k_with "L:m blk" => (first | with_reducible assumption | (refine BlkIns.mono (by assumption) ?_; walk_at "m up"))
  k_with "L:m prem" => (first | with_reducible assumption | ((with_reducible show BlkIns _ _); walk_at "m blk") | exact rfl | k_mem | omega | assumption | decide)
  k_with "L:m sub2" => (first | with_reducible assumption | exact sub_tl (by with_reducible assumption) | exact sub_tl (sub_tl (by with_reducible assumption)) | exact sub_tl (sub_tl (sub_tl (by with_reducible assumption))) | walk_at "m up")
  k_with "L:m prem" => (first | with_reducible assumption | ((with_reducible show BlkIns _ _); walk_at "m blk") | exact rfl | k_mem | decide | omega | assumption)
  k_with "L:call ref" => (k_here; (with_reducible show wpAny _ _ (call (Value.ref 388) _ _) _ _ _); k_dflt (refine' word_t (by k_asm) (by k_asm) (by k_asm) (by k_asm) (by k_asm) (by first | exact rfl | assumption) (by ktr_room) (by ktr_units) (by walk_at "m prem") (by walk_at "m prem") (by walk_at "m prem") ?_; k_whole); intro tz' hz' tkz' Fz' Nz'; (try dsimp only); (try k_sweep))
  k_with "L:call ref" => (k_here; (with_reducible show wpAny _ _ (call (Value.ref 336) _ _) _ _ _); k_dflt (refine' field_t (by k_asm) (by k_asm) (by k_asm) (by k_asm) (by k_asm) (by first | exact rfl | assumption) (by ktr_room) (by ktr_units) (by walk_at "m prem") (by walk_at "m prem") (by walk_at "m prem") (by walk_at "m prem") (by walk_at "m prem") (by walk_at "m prem") (by walk_at "m prem") (by walk_at "m prem") (by walk_at "m prem") (by walk_at "m prem") ?_; k_whole); intro hz' tkz' Fz' Nz'; (try dsimp only); (try k_sweep))
  trivial
section
variable {prog : Program} {w : World} {A : Around} {E : Value → Shared → Prop} {s : Shared} {env : Env} {h₀ : Heap} {target : PySem.Expr} {body : List Stmt} {Q : Flow → Shared → Prop} {I ax : Addr} {lo : Obj} {news : List (Addr × Obj)}
theorem turns_all (P : (Str → Option Value) → Prop) (hk : (ax, lo) ∈ news)
    (fin : ∀ m h tk, P m → Fr h₀ env.locals h m → News h₀ env.locals h news → Q .next { s with heap := h, toks := tk }) : ∀ (us : List Value)
    (_turn : ∀ v ∈ us, ∀ m h tk o, P m → Fr h₀ env.locals h m → o.cls = .type "list_iterator" → News h₀ env.locals h ((I, o) :: news) →
      wpAny (model prog w) A (assign target env v) (fun _ s₂ => wpAny (model prog w) A (execs body env) (UnrPostW h₀ env.locals { s with heap := h, toks := tk } [(I, o)] (fun m' n' => P m' ∧ n' = news) Q) E s₂) E { s with heap := h, toks := tk }) (m : Str → Option Value), P m →
    ItemsRest prog w A E h₀ env target body Q s [(I, "list_iterator")] [(ax, lo)] (us.map .val) m news := by
  intro us
  induction us with
  | nil => exact fun _ m hm => ItemsRest.zero fun h tk F N => fin m h tk hm F N
  | cons v r ih =>
    intro turn m hm
    refine ItemsRest.val fun h tk F => AllObj.cons fun o hc => AllObj.nil fun N => ?_
    refine wpAny_mono (turn v (.head _) m h tk o hm F hc N) (fun _ s₂ h₂ => wpAny_mono h₂ (fun f s₃ h₃ => ?_) fun _ _ x => x) fun _ _ x => x
    have fin' : UnrEndW h₀ env.locals { s with heap := h, toks := tk } [(I, o)] (fun m' n' => P m' ∧ n' = news) s₃ → UnrEndW h₀ env.locals { s with heap := h, toks := tk } [(I, o)] (fun m' n' => SubL [(ax, lo)] n' ∧ ItemsRest prog w A E h₀ env target body Q s [(I, "list_iterator")] [(ax, lo)] (r.map .val) m' n') s₃ := by
      rintro ⟨h', tk', m', n', e, F', N', hn, hP, rfl⟩
      exact ⟨h', tk', m', n', e, F', N', hn, ⟨hk, trivial⟩, ih (fun v hv => turn v (.tail _ hv)) m' hP⟩
    cases f with
    | ret v => exact h₃
    | brk => exact h₃
    | next => exact fin' h₃
    | cont => exact fin' h₃
end
theorem unrEndW_s {h₀ : Heap} {L I : Addr} {it : Obj} {rest : (Str → Option Value) → List (Addr × Obj) → Prop} {s₁ : Shared} {h' : Heap} {tk : Nat} {m' : Str → Option Value} {ns all : List (Addr × Obj)} (F : Fr h₀ L h' m') (N : News h₀ L h' all) (hI : (I, it) ∈ all) (hs : ∀ p ∈ ns, p ∈ all)
    (l1 : ∀ p ∈ ns, p.1 < I) (r : rest m' ns) : UnrEndW h₀ L s₁ [(I, it)] rest { s₁ with heap := h', toks := tk } :=
  unrEndW_m F (fun q hq => by
    rcases List.mem_cons.mp hq with rfl | hq
    · exact N _ hI
    · exact N _ (hs q hq)) l1 r
theorem unrEndW_2 {h₀ : Heap} {L I : Addr} {a b : Obj} {rest : (Str → Option Value) → List (Addr × Obj) → Prop} {s₁ : Shared} {h' : Heap} {tk : Nat} {m' : Str → Option Value} {ns : List (Addr × Obj)} (F : Fr h₀ L h' m') (N : News h₀ L h' ((I + 1, a) :: (I, b) :: ns))
    (l1 : ∀ p ∈ ns, p.1 < I) (r : rest m' ns) : UnrEndW h₀ L s₁ [(I + 1, a), (I, b)] rest { s₁ with heap := h', toks := tk } :=
  ⟨h', tk, m', ns, rfl, F, N, fun p hp q hq => by
    have := l1 p hp
    rcases List.mem_cons.mp hq with rfl | hq
    · exact Nat.ne_of_lt (Nat.lt_succ_of_lt this)
    · rw [List.mem_singleton.mp hq]; exact Nat.ne_of_lt this, r⟩
section
open PyProof.Rows.LCg
variable {prog : Program} {w : World} {A : Around} {s : Shared} {h₀ : Heap} {L : Addr} {m : Str → Option Value} {env : Env}
/-- a comprehension over a list of pairs that makes objects -/
theorem pairG_all {elt : PySem.Expr} {x x₂ : Str} {scope : Scope} {cl : List (Str × Addr)} {S : List (Addr × Obj) → Prop} {us : List Value} {Fin : List Value → List (Addr × Obj) → Prop} {news : List (Addr × Obj)} (J : Nat → List Value → List (Addr × Obj) → Prop) (h0 : J 0 [] news)
    (turn : ∀ (i : Nat) (v : Value) (ys : List Value) (ns : List (Addr × Obj)), us[i]? = some v → J i ys ns → ∃ (t : Addr) (p q : Value), v = .ref t ∧ (t, { cls := .type "tuple", data := .seq #[p, q] }) ∈ ns ∧
      ∀ (I : Addr) (oI : Obj) (C : Addr) (oC : Obj) (m₂ : Str → Option Value) (D : Addr) (h : Heap) (tk : Nat) (E' : Value → Shared → Prop), NsObj oC m₂ → m₂ x = some p → m₂ x₂ = some q → Fr h₀ L h m → News h₀ L h ((I, oI) :: (C, oC) :: (D, lst ys) :: ns) → Off3 I C D ns →
        wpAny (model prog w) A (eval elt (compEnvC scope cl C env)) (CompEnd h₀ L m { s with heap := h, toks := tk } I oI C oC D (lst ys) S (fun y ns' => J (i + 1) (ys ++ [y]) ns')) E' { s with heap := h, toks := tk })
    (fin : ∀ ys ns, J us.length ys ns → Fin ys ns) :
    PyProof.Rows.LCp.CompRestP prog w A h₀ L m env elt x x₂ scope cl s S (fun i v => us.toArray[i]? = some v) Fin us.length 0 [] news := by
  have all : ∀ k i ys ns, i + k = us.length → J i ys ns → PyProof.Rows.LCp.CompRestP prog w A h₀ L m env elt x x₂ scope cl s S (fun i v => us.toArray[i]? = some v) Fin k i ys ns := by
    intro k
    induction k with
    | zero =>
      intro i ys ns e hJ
      obtain rfl : i = us.length := by omega
      exact PyProof.Rows.LCp.CompRestP.zero (fin ys ns hJ)
    | succ k ih =>
      intro i ys ns e hJ
      refine PyProof.Rows.LCp.CompRestP.succ fun v hv => ?_
      obtain ⟨t, p, q, rfl, ht, H⟩ := turn i v ys ns (by simpa using hv) hJ
      refine ⟨t, _, p, q, 0, rfl, ht, rfl, rfl, fun I oI C oC D m₂ h tk E' hC h1 h2 F N off ne => ?_⟩
      refine wpAny_mono (H I oI C oC m₂ D h tk E' hC h1 h2 F N off) (fun y s' h' => ?_) fun _ _ x => x
      obtain ⟨h', tk', ns', e1, F', N', off', hS', hJ'⟩ := h'
      exact ⟨h', tk', ns', e1, F', N', off', hS', ih (i + 1) _ ns' (by omega) hJ'⟩
  exact all _ 0 [] news (by omega) h0
end
/-- the frame of _law_is_whole between two turns -/
def wholeM (m0 : Str → Option Value) (u1 u2 u3 u4 : Option Value) : Str → Option Value :=
  fun y => if y = "_law_thing" then u1 else if y = "_law_at" then u2 else if y = "_law_own" then u3 else if y = "_law_word_here" then u4 else m0 y
def WholeP (m0 m : Str → Option Value) : Prop := ∃ u1 u2 u3 u4, m = wholeM m0 u1 u2 u3 u4
theorem wholeP_of {m0 m : Str → Option Value} (h : ∀ y : Str, y ≠ "_law_thing" → y ≠ "_law_at" → y ≠ "_law_own" → y ≠ "_law_word_here" → m y = m0 y) : WholeP m0 m := by
  refine ⟨m "_law_thing", m "_law_at", m "_law_own", m "_law_word_here", ?_⟩
  funext y
  unfold wholeM
  by_cases h1 : y = "_law_thing"
  · rw [if_pos h1, h1]
  · rw [if_neg h1]
    by_cases h2 : y = "_law_at"
    · rw [if_pos h2, h2]
    · rw [if_neg h2]
      by_cases h3 : y = "_law_own"
      · rw [if_pos h3, h3]
      · rw [if_neg h3]
        by_cases h4 : y = "_law_word_here"
        · rw [if_pos h4, h4]
        · rw [if_neg h4]
          exact h y h1 h2 h3 h4
structure DictJ (bs : List Blk) (news : List (Addr × Obj)) (i : Nat) (ys : List Value) (ns : List (Addr × Obj)) : Prop where
  len : ys.length = i
  sub : ∀ q ∈ news, q ∈ ns
  at_ : ∀ (j : Nat) (v : Value), ys[j]? = some v → ∃ (t : Addr) (tk : Tok) (y : Value) (k : Blk), v = .ref t ∧ (t, ({ cls := .type "tuple", data := .seq #[Value.int ((k.ad : Int) * 8 + 1) tk, y] } : Obj)) ∈ ns ∧ bs[j]? = some k
theorem DictJ.snoc {bs : List Blk} {news : List (Addr × Obj)} {i : Nat} {ys : List Value} {ns : List (Addr × Obj)} (h : DictJ bs news i ys ns) {k : Blk} (hk : bs[i]? = some k) (t : Addr) (tk : Tok) (y : Value) :
    DictJ bs news (i + 1) (ys ++ [.ref t]) ((t, ({ cls := .type "tuple", data := .seq #[Value.int ((k.ad : Int) * 8 + 1) tk, y] } : Obj)) :: ns) := by
  refine ⟨by rw [List.length_append, h.len]; rfl, fun q hq => .tail _ (h.sub q hq), fun j v hv => ?_⟩
  by_cases hj : j < ys.length
  · rw [List.getElem?_append_left hj] at hv
    obtain ⟨t', tk', y', k', e, hm, hk'⟩ := h.at_ j v hv
    exact ⟨t', tk', y', k', e, .tail _ hm, hk'⟩
  · rw [List.getElem?_append_right (by omega)] at hv
    have hj' : j - ys.length = 0 := by
      have := lt_of_get? hv
      simp at this
      omega
    rw [hj'] at hv
    cases hv
    obtain rfl : j = i := by have := h.len; omega
    exact ⟨t, tk, y, k, rfl, .head _, hk⟩
theorem comp_end_new {h₀ h' : Heap} {L I C D T : Addr} {m : Str → Option Value} {s₁ : Shared} {oI oC oD oT : Obj} {S : List (Addr × Obj) → Prop} {rest : Value → List (Addr × Obj) → Prop} {y : Value} {tk : Nat} {ns : List (Addr × Obj)} (F : Fr h₀ L h' m)
    (N : News h₀ L h' ((T, oT) :: (I, oI) :: (C, oC) :: (D, oD) :: ns)) (h1 : @LT.lt Nat _ I T) (h2 : @LT.lt Nat _ C T) (h3 : @LT.lt Nat _ D T) (off : PyProof.Rows.LCg.Off3 I C D ns) (hS : S ((T, oT) :: ns)) (r : rest y ((T, oT) :: ns)) :
    PyProof.Rows.LCg.CompEnd h₀ L m s₁ I oI C oC D oD S rest y { s₁ with heap := h', toks := tk } :=
  PyProof.Rows.LCg.CompEnd.intro F N ((T, oT) :: ns) (fun p hp => by
    simp only [List.mem_cons] at hp ⊢
    rcases hp with h | h | h | h | h
    · exact .inr (.inl h)
    · exact .inr (.inr (.inl h))
    · exact .inr (.inr (.inr (.inl h)))
    · exact .inl h
    · exact .inr (.inr (.inr (.inr h)))) ⟨⟨Nat.ne_of_gt h1, Nat.ne_of_gt h2, Nat.ne_of_gt h3⟩, off⟩ hS r
theorem news_sub {h₀ h : Heap} {L : Addr} {n all : List (Addr × Obj)} (N : News h₀ L h all) (s : ∀ q ∈ n, q ∈ all) : News h₀ L h n := fun q hq => N q (s q hq)
theorem word_inj {bs : List Blk} (h : (bs.map (·.ad)).Nodup) : (bs.map fun k => (k.ad : Int) * 8 + 1).Nodup := by
  have e : (bs.map fun k => (k.ad : Int) * 8 + 1) = (bs.map (·.ad)).map (fun a : Nat => (a : Int) * 8 + 1) := by rw [List.map_map]; rfl
  rw [e]
  exact List.Pairwise.map _ (fun a b hab q => hab (by omega)) h
/-- the cells hold what the lists hold -/
def Coh (vs : List Value) (bs : List Blk) : Prop := ∀ k ∈ bs, (∃ th, vs[k.ad]? = some (.int (if k.pr then 261 else 165) th)) ∧ (∃ wx tx, vs[((k.ad : Int) + 1 + 0).toNat]? = some (.int wx tx) ∧ ThingW bs k.x wx) ∧
  (k.pr = true → ∃ wy ty, vs[((k.ad : Int) + 1 + 1).toNat]? = some (.int wy ty) ∧ ThingW bs k.y wy)
theorem ln_C14_2 : True := by
  k_with "L:call type:enumerate" => (k_here; k_dflt (refine' ktu_enum (by exact rfl) (by k_asm) (by k_asm) (by exact List.Mem.head _) (by exact rfl) (by exact rfl) (by exact rfl) ?_; k_whole); intro Iz' l1z')
  k_with "L:UnrEndW" => (k_dflt (refine' unrEndW_2 (by assumption) (by assumption) (by assumption) ?_); refine ⟨⟨by k_mem, trivial⟩, ?_⟩)
  k_with "L:eval ListComp" => (k_here; k_dflt (refine PyProof.Rows.LCp.ListComp_P (F₀ := by k_asm) (by with_unfolding_all rfl) (by decide) (by rfl) (by decide) (by rfl) (by rfl) (by decide) ?_))
  k_with "L:call builtin:len" => (k_here; (with_reducible show wpAny _ _ (call (Value.builtin "len") [Value.ref _]) _ _ _); k_dflt (refine' kda_len (knd := intKind _ _) (by k_asm) (by k_mem) (by with_reducible assumption) (by with_reducible assumption) (by omega) ?_; k_whole))
  k_with "L:m len" => ((try simp only [blkRefs, List.length_map, List.length_append, List.length_cons, List.length_nil, List.length_set]); omega)
  k_with "L:exec For" => (k_here; (rename Fr _ _ _ _ => lFz'); (with_unfolding_all refine' For_turns lFz' ?_; k_whole))
  k_with "L:exec For Tuple Call cons nil" => (k_here; (rename Fr _ _ _ _ => lFz'); (with_unfolding_all refine' For_turns lFz' ?_; k_whole))
  k_with "L:exec For Tuple Name cons nil" => (k_here; (rename Fr _ _ _ _ => lFz'); (with_unfolding_all refine' For_turns lFz' ?_; k_whole))
  k_with "L:pyIter ref" => (k_here; rename HoldMark => hmk9; clear hmk9; refine hold_in ?_)
  k_with "L:call type:dict cons nil" => (k_here; refine hold_in ?_)
  k_with "L:call type:dict" => (k_here; refine hold_in ?_)
  trivial
section
variable {w : World} {p : Program} {loose : List Str} {mean : ExcName → Option Value} {mg mb : Str → Option Value} {dp un : Nat} {gd : Option (List Code)} {cn : Str} {cs : Scope} {L a : Addr} {ccd : Value} {cl : List (Str × Addr)} {outer : List Env} {A₀ : Around} {base h₀ : Heap} {m : Str → Option Value} {news : List (Addr × Obj)} {s : Shared} {Q E : Value → Shared → Prop}
set_option maxHeartbeats 2000000 in
theorem whole_t {hx hdx HC bl : Addr} {t1 t2 t3 : Tok} {k1 k2 : Int} {dn cn' c : Nat} {vs : List Value} {bs : List Blk} (B : Below A₀ base outer h₀) (F : Fr h₀ L s.heap m) (X : (hd.heap_39 w.params).In h₀) (N : News h₀ L s.heap news) (T : Top p loose mean mg mb h₀) (hk : cs.kind = .function) (hd1 : dp + 90 < recursionLimit) (hu1 : un + 900 < cLine) (h1 : (hx, instObj 360 hdx) ∈ news) (h2 : (hdx, dictOf [⟨k1, .str "limit" t1, .int 1000 t2⟩, ⟨k2, .str "cells" t3, .ref HC⟩] dn) ∈ news) (h3 : (HC, listOf vs.toArray cn') ∈ news) (h5 : vs.length < 800)
    (hbl : (bl, listOf (blkRefs bs).toArray c) ∈ news) (hB : BlkIns news bs) (hC : Coh vs bs) (hnd : (bs.map (·.ad)).Nodup)
    (hret : ∀ h' tk', Fr h₀ L h' m → News h₀ L h' news → Q (.bool true) { s with heap := h', toks := tk' }) : wpAny (model PySem.Challenge.rw_on0295_01.row.prog w) (ktrTop dp un gd cn cs L a ccd cl outer) (call (.ref 433) [.ref hx, .ref bl]) Q E s := by
  walk_at "m enter"
  have hmk : HoldMark := trivial
  k_steps
  refine hold_out ?_
  k_dflt (refine' iter_listTurns (vs := blkRefs bs) ?h ?F ?N ?m ?c ?d ?_; (case h => exact rfl); (case F => k_asm); (case N => k_asm); (case m => exact hbl); (case c => exact rfl); (case d => exact rfl))
  intro I l1
  refine turns_all (WholeP _) hbl ?fin _ ?turn _ (wholeP_of fun _ _ _ _ _ => rfl)
  case turn =>
    intro v hv m₃ h₃ tk₃ o hP F₃ ho N₃
    obtain ⟨u1, u2, u3, u4, rfl⟩ := hP
    obtain ⟨k, hk1, rfl⟩ := List.mem_map.mp hv
    obtain ⟨⟨th, c0⟩, ⟨wx, tx, c1, c2⟩, c3⟩ := hC k hk1
    have hin : (k.tu, ({ cls := .type "tuple", data := .seq #[Value.int ((k.ad : Int) * 8 + 1) k.tw, .ref k.b] } : Obj)) ∈ news := hB.tup k hk1
    have hb := hB.lst k hk1
    unfold Blk.us at hb
    have hlt := lt_of_get? c1
    cases hp : k.pr with
    | true =>
      rw [hp] at c0 c3 hb
      have c1' : vs[((k.ad : Int) + 1 + ((0 : Nat) : Int)).toNat]? = some (.int wx tx) := c1
      have q1 : (k.ad : Int) + 1 + ((0 : Nat) : Int) < 900 := by omega
      obtain ⟨wy, ty, c4, c5⟩ := c3 rfl
      simp only [if_true] at c0 hb
      have c4' : vs[((k.ad : Int) + 1 + ((0 + 1 : Nat) : Int)).toNat]? = some (.int wy ty) := c4
      have q2 : (k.ad : Int) + 1 + ((0 + 1 : Nat) : Int) < 900 := by have := lt_of_get? c4; omega
      clear c1 c4
      k_steps
      · exact absurd rfl (by assumption)
      · exact absurd rfl (by assumption)
      · exact unrEndW_s (by assumption) (by assumption) (.tail _ (.head _)) (fun q hq => .tail _ (.tail _ hq)) l1 ⟨wholeP_of fun y q1 q2 q3 q4 => by simp only [wholeM, if_neg q1, if_neg q2, if_neg q3, if_neg q4], rfl⟩
    | false =>
      rw [hp] at c0 hb
      have c1' : vs[((k.ad : Int) + 1 + ((0 : Nat) : Int)).toNat]? = some (.int wx tx) := c1
      have q1 : (k.ad : Int) + 1 + ((0 : Nat) : Int) < 900 := by omega
      simp only [Bool.false_eq_true, if_false] at c0 hb
      clear c1 c3
      k_steps
      · exact absurd rfl (by assumption)
      · exact unrEndW_s (by assumption) (by assumption) (.tail _ (.head _)) (fun q hq => .tail _ (.tail _ hq)) l1 ⟨wholeP_of fun y q1 q2 q3 q4 => by simp only [wholeM, if_neg q1, if_neg q2, if_neg q3, if_neg q4], rfl⟩
  case fin =>
    intro m₃ h₃ tk₃ hP F₃ N₃
    obtain ⟨u1, u2, u3, u4, rfl⟩ := hP
    k_steps
    refine PyProof.Rows.LCp.SrcLP.ledger (its := (blkRefs bs).toArray) (by rfl) (by k_asm) (by k_asm) hbl (by have := hB.few; rw [sizeLine_eq]; simp [blkRefs]; omega) ?_
    intro g
    refine pairG_all (us := blkRefs bs) (DictJ bs news) ⟨rfl, fun _ q => q, fun j v hv => by cases hv⟩ ?_ ?_
    · intro i v ys ns hv hJ
      obtain ⟨k, hk, rfl⟩ := blkRefs_get hv
      have hin : (k.tu, ({ cls := .type "tuple", data := .seq #[Value.int ((k.ad : Int) * 8 + 1) k.tw, .ref k.b] } : Obj)) ∈ ns := hJ.sub _ (hB.tup k (List.mem_of_getElem? hk))
      refine ⟨k.tu, _, _, rfl, hin, ?_⟩
      intro I oI C oC m₂ D h tk E' hC hx1 hx2 F₃ N₃ off
      k_steps
      exact comp_end_new (by k_asm) (by assumption) (by omega) (by omega) (by omega) off (.inr ⟨_, .tail _ (hJ.sub _ hbl), rfl, _, rfl⟩) (hJ.snoc hk _ _ _)
    · intro ys ns hJ
      intro D h tk F₃ N₃ off
      have hlen : ys.length = bs.length := by rw [hJ.len, blkRefs, List.length_map]
      have hfew := hB.few
      k_steps
      refine hold_out ?_
      k_dflt (refine call_dict_pairs (us := ys) (c := ys.length) (bs.map fun k => (k.ad : Int) * 8 + 1) (modules_low (Top.nolimit (by k_asm))) (by rfl) (by k_asm) (by k_asm) (.head _) (by rw [List.length_map]; exact hlen) (by omega) (word_inj hnd) (fun i v hv => ?_) ?_)
      · obtain ⟨t, tk, y, k, e, hm, hk⟩ := hJ.at_ i v hv
        exact ⟨t, _, tk, y, e, .tail _ hm, by rw [List.getElem?_map, hk]; rfl⟩
      · intro D2 oD kvs h' tk' F' N' hd' hl' hlo l1'
        have hbl' := hJ.sub _ hbl
        k_steps
        have e : ((kvs.length : Int) == ((blkRefs bs).length : Int)) = true := by
          rw [beq_iff_eq, hl', hlen, blkRefs, List.length_map]
        rw [e]
        exact hret _ _ (by k_asm) (news_sub (by k_asm) fun q hq => .tail _ (.tail _ (hJ.sub q hq)))
end
theorem ln_C15_1 : True := by
  k_with_none
  k_with "L:room" => (first | exact room1 hd1 rfl | exact room2 hd1 rfl | exact room3 hd1 rfl | exact room4 hd1 rfl | exact room9 hd1)
  k_with "L:units" => (first | exact unit1 hu1 rfl | exact unit2 hu1 rfl | exact unit3 hu1 rfl | exact unit4 hu1 rfl | exact unit9 hu1)
  k_with "L:k_ne" => (refine neN ?_; (try dsimp only); first | with_reducible assumption | exact Ne.symm (by with_reducible assumption) | exact Nat.ne_of_lt (by walk_at "m lt") | exact Nat.ne_of_gt (by walk_at "m lt"))
  k_with "L:m lt" => (first | with_reducible assumption | with_reducible exact And.left (by assumption) | with_reducible exact And.left (And.right (by assumption)) | with_reducible exact And.left (And.right (And.right (by assumption))) | with_reducible exact And.left (And.right (And.right (And.right (by assumption)))) | with_reducible exact And.left (And.right (And.right (And.right (And.right (by assumption))))) | with_reducible exact And.left (And.right (And.right (And.right (And.right (And.right (by assumption)))))) | with_reducible exact And.left (And.right (And.right (And.right (And.right (And.right (And.right (by assumption))))))) | with_reducible exact And.left (And.right (And.right (And.right (And.right (And.right (And.right (And.right (by assumption)))))))))
  k_with "L:m small" => (refine wpAny_call ?_; k_dflt ktr_enter; k_steps)
  k_with "L:m enter" => (refine wpAny_call ?_; k_dflt ktr_enter)
  k_with "L:m idx" => (first | decide | ((try simp only [List.length_append, List.length_cons, List.length_nil, List.length_set]); omega))
  k_with "L:m len" => ((try simp only [List.length_append, List.length_cons, List.length_nil, List.length_set]); omega)
  k_with "L:k_mem" => (assumption)
  k_with "L:k_all" => (first | assumption | (refine allLt_ne (by assumption) ?_; intro q hq; (repeat (refine List.Mem.tail _ ?_)); exact hq))
  k_with "L:newList" => (k_here; k_dflt (refine' newList_K (by k_asm) (by k_asm) ?_; k_whole); intro lz' hz' Fz' Nz' l1; (have l2 := l1); (try k_lt l2); (try k_sweep))
  k_with "L:call builtin:len" => (k_here; (with_reducible show wpAny _ _ (call (Value.builtin "len") [Value.ref _]) _ _ _); k_dflt (refine' kst_len (by k_asm) (by k_mem) (by exact rfl) (by walk_at "m len") ?_; k_whole))
  k_with "L:subscriptTail" => (k_here; (with_reducible show wpAny _ _ (subscriptTail _ _ (Value.ref _) (Value.int _ _)) _ _ _); k_dflt (refine' item_m (by k_asm) (by k_mem) (by walk_at "m idx") (by walk_at "m idx") (by first | assumption | exact rfl | exact (by assumption : 1 < _ → _ = some _) (by omega)) ?_ (by with_unfolding_all rfl); k_whole))
  k_with "L:setItem ref int" => (k_here; (with_reducible show wpAny _ _ (setItem (Value.ref _) (Value.int _ _) _) _ _ _); k_dflt (refine' set_m (by k_asm) (by k_asm) (by k_upd) (by omega) (by walk_at "m len") (by walk_at "m len") ?_; k_whole); intro hz' Fz' Nz'; (try k_sweep))
  k_with "L:call builtin:list.append" => (k_here; (with_reducible show wpAny _ _ (call (Value.builtin _) [Value.ref _, _]) _ _ _); k_dflt (refine' append_m (by k_asm) (by k_asm) (by k_upd) (by walk_at "m len") ?_; k_whole); intro hz' Fz' Nz'; (try k_sweep))
  k_with "L:call builtin:list.extend" => (k_here; (with_reducible show wpAny _ _ (call (Value.builtin _) [Value.ref _, Value.ref _]) _ _ _); k_dflt (refine' extend_m (by k_asm) (by k_asm) (by k_mem) (by k_upd) (by walk_at "m len") (by walk_at "m len") ?_; k_whole); intro hz' Fz' Nz'; (try k_sweep))
  k_with "L:call ref" => (k_here; (with_reducible show wpAny _ _ (call (Value.ref 106) _ _) _ _ _); k_dflt (refine' payload_r (by k_asm) (by k_asm) (by k_asm) (by k_asm) (by k_asm) (by first | exact rfl | assumption) (by ktr_room) (by ktr_units) ?_; k_whole); intro tz' hz' tkz' Fz' Nz'; (try dsimp only); (try k_sweep))
  k_with "L:call ref" => (k_here; (with_reducible show wpAny _ _ (call (Value.ref 148) _ _) _ _ _); k_dflt (refine' is_ref_r (by k_asm) (by k_asm) (by k_asm) (by k_asm) (by k_asm) (by first | exact rfl | assumption) (by ktr_room) (by ktr_units) ?_; k_whole); intro hz' tkz' Fz' Nz'; (try dsimp only); (try k_sweep))
  k_with "L:call ref" => (k_here; (with_reducible show wpAny _ _ (call (Value.ref 155) _ _) _ _ _); k_dflt (refine' is_header_y (by k_asm) (by k_asm) (by k_asm) (by k_asm) (by k_asm) (by first | exact rfl | assumption) (by ktr_room) (by ktr_units) (by walk_at "m prem") ?_; k_whole); intro hz' tkz' Fz' Nz'; (try dsimp only); (try k_sweep))
  k_with "L:m enterC" => (refine wpAny_call ?_; k_dflt (refine' code_defC (by k_asm) (by k_asm) (by k_asm) (by k_asm) (by k_asm) (by exact rfl) (by exact rfl) (by assumption) (by k_is) (by k_is) (by ktr_room) (by exact BindsTo.of_eq rfl) (by exact rfl) (by decide +kernel) ?_ (by exact rfl) (by exact rfl) (by exact rfl); k_whole; intro gz' Lz' hz' tkz' cellsz' FGz' Fz' Nz' Yz' Bz' Xz' Tz' l1; (try k_lt l1); k_cells Yz'; (try simp only [List.cons_append, List.nil_append] at Nz'); (try dsimp only); (try k_fold)))
  k_with "L:m news" => (first | k_asm | assumption | exact news_tl' (by assumption) | exact news_tl' (news_tl' (by assumption)) | exact news_tl' (news_tl' (news_tl' (by assumption))))
  trivial
section
open PyProof.Rows.LCg
variable {prog : Program} {w : World} {A : Around} {s : Shared} {h₀ : Heap} {L : Addr} {m : Str → Option Value} {env : Env}
/-- a comprehension over a list, one name, no test, the item reads only -/
theorem nameU_all {elt : PySem.Expr} {x : Str} {scope : Scope} {cl : List (Str × Addr)} {S : List (Addr × Obj) → Prop} {us : List Value} {Fin : List Value → List (Addr × Obj) → Prop} {news : List (Addr × Obj)} (J : Nat → List Value → Prop) (hS : S news) (h0 : J 0 [])
    (turn : ∀ (i : Nat) (v : Value), us[i]? = some v → ∀ (I : Addr) (oI : Obj) (C : Addr) (oC : Obj) (m₂ : Str → Option Value) (D : Addr) (ys : List Value) (h : Heap) (tk : Nat) (E' : Value → Shared → Prop),
      J i ys → NsObj oC m₂ → m₂ x = some v → Fr h₀ L h m → News h₀ L h ((I, oI) :: (C, oC) :: (D, lst ys) :: news) →
      wpAny (model prog w) A (eval elt (compEnvC scope cl C env)) (fun y s'' => ReadEnd { s with heap := h, toks := tk } h (J (i + 1) (ys ++ [y])) s'') E' { s with heap := h, toks := tk })
    (fin : ∀ ys, J us.length ys → Fin ys news) : CompRest prog w A h₀ L m env elt x scope cl s S (fun i v => us.toArray[i]? = some v) Fin us.length 0 [] news := by
  have all : ∀ k i ys, i + k = us.length → J i ys → CompRest prog w A h₀ L m env elt x scope cl s S (fun i v => us.toArray[i]? = some v) Fin k i ys news := by
    intro k
    induction k with
    | zero =>
      intro i ys e hJ
      obtain rfl : i = us.length := by omega
      exact CompRest.zero (fin ys hJ)
    | succ k ih =>
      intro i ys e hJ
      refine CompRest.succ fun v I oI C oC D m₂ h tk E' hv hC hx F N off ne => ?_
      refine wpAny_mono (turn i v (by simpa using hv) I oI C oC m₂ D ys h tk E' hJ hC hx F N) (fun y s' h' => ?_) fun _ _ x => x
      obtain ⟨tk', rfl, hJ'⟩ := h'
      exact CompEnd.intro F N news (fun _ q => q) off hS (ih (i + 1) _ (by omega) hJ')
  exact all _ 0 [] (by omega) h0
end
theorem ints_get {vs : List Value} {ns : List Int} (h : IntsAre vs ns) {i : Nat} {v : Value} (hv : vs[i]? = some v) : ∃ n t, v = .int n t ∧ n ∈ ns := by
  induction h generalizing i with
  | nil => simp at hv
  | cons x t _ ih =>
    cases i with
    | zero => cases hv; exact ⟨x, t, rfl, .head _⟩
    | succ i =>
      obtain ⟨n, t', e, hn⟩ := ih (by simpa using hv)
      exact ⟨n, t', e, .tail _ hn⟩
structure CellsJ (i : Nat) (ys : List Value) : Prop where
  len : ys.length ≤ i
  vals : ∃ ns, IntsAre ys ns ∧ ∀ x ∈ ns, 0 ≤ x
theorem CellsJ.snoc {i : Nat} {ys : List Value} (h : CellsJ i ys) {x : Int} (hx : 0 ≤ x) (t : Tok) : CellsJ (i + 1) (ys ++ [Value.int x t]) :=
  ⟨by rw [List.length_append]; exact Nat.succ_le_succ h.len, let ⟨ns, q, r⟩ := h.vals; ⟨_, ints_snoc q x t, fun y hy => by
    rcases List.mem_append.mp hy with hy | hy
    · exact r y hy
    · rw [List.mem_singleton.mp hy]; exact hx⟩⟩
theorem CellsJ.skip {i : Nat} {ys : List Value} (h : CellsJ i ys) : CellsJ (i + 1) ys := ⟨Nat.le_succ_of_le h.len, h.vals⟩
def CompMark : Prop := True
theorem ln_C15_2 : True := by
  k_with "L:eval ListComp" => (k_here; first | (rename CompMark => cmk; clear cmk; k_dflt (refine PyProof.Rows.LCt.ListComp_T (F₀ := by k_asm) (by with_unfolding_all rfl) (by decide) (by rfl) (by decide) (by rfl) ?_)) | k_dflt (refine PyProof.Rows.LCg.ListComp_U (F₀ := by k_asm) (by with_unfolding_all rfl) (by decide) (by rfl) (by decide) (by rfl) ?_))
  trivial
def MixP (m0 m : Str → Option Value) : Prop := ∃ mx t u, 0 ≤ mx ∧ mx < 2147483647 ∧ m = fun (y : Str) => if y = "_law_mixed" then some (.int mx t) else if y = "_law_cell" then u else m0 y
theorem mixP_of {m0 m : Str → Option Value} {mx : Int} {t : Tok} (e : m "_law_mixed" = some (.int mx t)) (h0 : 0 ≤ mx) (h1 : mx < 2147483647) (h : ∀ y : Str, y ≠ "_law_mixed" → y ≠ "_law_cell" → m y = m0 y) : MixP m0 m := by
  refine ⟨mx, t, m "_law_cell", h0, h1, ?_⟩
  funext y
  by_cases h1 : y = "_law_mixed"
  · rw [if_pos h1, h1, e]
  · rw [if_neg h1]
    by_cases h2 : y = "_law_cell"
    · rw [if_pos h2, h2]
    · rw [if_neg h2]
      exact h y h1 h2
theorem ln_C15_3 : True := by
  k_with "L:exec For Name Name cons nil" => (k_here; (rename Fr _ _ _ _ => lFz'); (with_unfolding_all refine' For_turns lFz' ?_; k_whole))
  trivial
theorem off1_ne {D : Addr} : ∀ {l : List (Addr × Obj)}, PyProof.Rows.LCg.Off1 D l → ∀ q ∈ l, q.1 ≠ D
  | [], _, q, hq => nomatch hq
  | p :: r, h, q, hq => by
    rcases List.mem_cons.mp hq with rfl | hq
    · exact h.1
    · exact off1_ne h.2 q hq
theorem ln_C15_4 : True := by
  k_with "L:pyIter ref" => (k_here; rename HoldMark => hmk9; clear hmk9; refine hold_in ?_)
  k_with "L:CompSrc" => (refine hold_in ?_)
  k_with "L:CompSrcT" => (refine hold_in ?_)
  trivial
section
variable {w : World} {p : Program} {loose : List Str} {mean : ExcName → Option Value} {mg mb : Str → Option Value} {dp un : Nat} {gd : Option (List Code)} {cn : Str} {cs : Scope} {L a : Addr} {ccd : Value} {cl : List (Str × Addr)} {outer : List Env} {A₀ : Around} {base h₀ : Heap} {m : Str → Option Value} {news : List (Addr × Obj)} {s : Shared} {Q E : Value → Shared → Prop}
set_option maxHeartbeats 2000000 in
theorem deck_t {l : Addr} {vs : List Value} {ns : List Int} (B : Below A₀ base outer h₀) (F : Fr h₀ L s.heap m) (X : (hd.heap_39 w.params).In h₀) (N : News h₀ L s.heap news) (T : Top p loose mean mg mb h₀) (hk : cs.kind = .function) (hd1 : dp + 20 < recursionLimit) (hu1 : un + 200 < cLine) (hl : h₀.IsList l vs.toArray) (hi : IntsAre vs ns) (h63 : ns.length ≤ 63)
    (hret : ∀ dk dl news' h' tk', Fr h₀ L h' m → News h₀ L h' news' → (∀ q ∈ news, q ∈ news') → DeckIn news' dk dl → (∀ q ∈ news, q.1 ≠ dk ∧ q.1 ≠ dl) → Q (.ref dk) { s with heap := h', toks := tk' }) : wpAny (model PySem.Challenge.rw_on0295_01.row.prog w) (ktrTop dp un gd cn cs L a ccd cl outer) (call (.ref 369) [.ref l]) Q E s := by
  walk_at "m enter"
  rename Fr h₀ L _ m => FGx
  have hlg := hl.at fun o e => FGx.keep l o e
  k_steps
  refine hold_out ?_
  rename IntsAre _ (List.take 24 ns) => hI
  rename List Value => ws
  have hws : ws.length ≤ 24 := by rw [hI.length, List.length_take]; omega
  refine PyProof.Rows.LCg.CompSrc.ledger (its := ws.toArray) (by rfl) (by k_asm) (by k_asm) (.head _) (by rw [sizeLine_eq]; simp; omega) ?_
  intro g
  refine nameU_all (us := ws) CellsJ (.inr ⟨_, .head _, rfl, _, rfl⟩) ⟨Nat.le_refl _, [], .nil, by simp⟩ ?_ ?_
  · intro i v hv I oI C oC m₂ D ys h tk E' hJ hC hx F₃ N₃
    obtain ⟨n, t, rfl, _⟩ := ints_get hI hv
    k_steps
    exact ⟨_, rfl, hJ.snoc (Int.fmod_nonneg_of_pos _ (by decide +kernel)) _⟩
  · intro ys hJ
    intro D h tk F₃ N₃ off
    obtain ⟨xs, hxs, hx0⟩ := hJ.vals
    have hys := hJ.len
    have hmk : HoldMark := trivial
    k_steps
    refine hold_out ?_
    k_dflt (refine' iter_listTurns (vs := ys) ?h ?F ?N ?m ?c ?d ?_; (case h => exact rfl); (case F => k_asm); (case N => k_asm); (case m => exact .tail _ (.head _)); (case c => exact rfl); (case d => exact rfl))
    intro I l1
    refine turns_all (MixP _) (.tail _ (.head _)) ?fin _ ?turn _ (mixP_of (mx := 7) rfl (by decide) (by decide) fun _ _ _ => rfl)
    case turn =>
      intro v hv m₃ h₃ tk₃ o hP F₃ ho N₃
      obtain ⟨mx, t, u, hm0, hm1, rfl⟩ := hP
      obtain ⟨j, hj, ej⟩ := List.mem_iff_getElem.mp hv
      obtain ⟨x, tx, rfl, hxm⟩ := ints_get hxs (i := j) (v := v) (by rw [List.getElem?_eq_getElem hj, ej])
      k_steps
      exact unrEndW_s (by assumption) (by assumption) (.head _) (fun q hq => .tail _ hq) l1 ⟨mixP_of rfl (Int.fmod_nonneg_of_pos _ (by decide)) (Int.fmod_lt_of_pos _ (by decide)) (fun y q1 q2 => by simp only [if_neg q1, if_neg q2]), rfl⟩
    case fin =>
      intro m₃ h₃ tk₃ hP F₃ N₃
      obtain ⟨mx, t, u, hm0, hm1, rfl⟩ := hP
      have cmk : CompMark := trivial
      k_steps
      refine hold_out ?_
      refine PyProof.Rows.LCt.CompSrcT.ledger (its := ys.toArray) (by rfl) (by k_asm) (by k_asm) (by k_mem) (by rw [sizeLine_eq]; simp; omega) ?_
      intro g
      refine nameT_all (us := ys) CellsJ (.inr ⟨_, .tail _ (.head _), rfl, _, rfl⟩) ⟨Nat.le_refl _, [], .nil, by simp⟩ ?_ ?_
      · intro i v hv I oI C oC m₂ D ys h tk E' hJ hC hx F₃ N₃
        obtain ⟨j, hj, ej⟩ := List.mem_iff_getElem.mp (List.mem_of_getElem? hv)
        obtain ⟨n, t, rfl, hn⟩ := ints_get hxs hv
        have hn0 := hx0 n hn
        k_steps
        all_goals first | exact ⟨_, rfl, hJ.snoc hn0 _⟩ | exact ⟨_, rfl, hJ.skip⟩
      · intro zs hJ
        intro D' h' tk' F₄ N₄ off'
        k_steps
        have q1 := l1
        have q2 := l2
        obtain ⟨zn, hzn, hz0⟩ := hJ.vals
        have hzs := hJ.len
        have o2 := off1_ne off'
        refine hret _ D' _ _ _ (by k_asm) (by k_asm) (fun q hq => ?_) ⟨?_, _, _, _, _, _, _, .head _, .tail _ (.head _), hzn, hz0, by omega, hm0, hm1⟩ fun q hq => ⟨?_, ?_⟩
        · exact .tail _ (.tail _ (.tail _ (.tail _ (.tail _ hq))))
        · exact (Nat.ne_of_lt q2.1).symm
        · exact Nat.ne_of_lt (q1 _ (.tail _ (.tail _ (.tail _ (.tail _ hq)))))
        · exact o2 _ (.tail _ (.tail _ (.tail _ hq)))
end
theorem ofString_inj {a b : String} (h : Str.ofString a = Str.ofString b) : a = b := by
  rw [Str.ofString_eq_toList, Str.ofString_eq_toList] at h
  injection h with h
  have h' : a.toList.map Char.toNat = b.toList.map Char.toNat := by simpa using congrArg Array.toList h
  have e : a.toList = b.toList := (List.map_inj_right fun x y q => Char.ext (UInt32.toNat_inj.mp q)).mp h'
  exact String.toList_inj.mp e
theorem chars_nn {n : Int} (h : 0 ≤ n) : (toString n).toList = Nat.toDigits 10 n.toNat := by
  show (Int.repr n).toList = _
  rw [Int.repr_eq_if, if_pos h]
  unfold Nat.repr
  simp
theorem chars_neg {n : Int} (h : ¬ 0 ≤ n) : (toString n).toList = '-' :: Nat.toDigits 10 (-n).toNat := by
  show (Int.repr n).toList = _
  rw [Int.repr_eq_if, if_neg h, String.toList_append]
  unfold Nat.repr
  simp
theorem digits_inj {a b : Nat} (h : Nat.toDigits 10 a = Nat.toDigits 10 b) : a = b := by
  rw [← Nat.ofDigitChars_toDigits (b := 10) (n := a) (by decide) (by decide), h, Nat.ofDigitChars_toDigits (by decide) (by decide)]
theorem no_minus {a : Nat} {l : List Char} (h : Nat.toDigits 10 a = '-' :: l) : False := by
  have := Nat.isDigit_of_mem_toDigits (b := 10) (n := a) (c := '-') (by decide) (by decide) (h ▸ .head _)
  exact absurd this (by decide)
theorem int_text_inj {a b : Int} (h : toString a = toString b) : a = b := by
  have h' := congrArg String.toList h
  by_cases ha : 0 ≤ a <;> by_cases hb : 0 ≤ b
  · rw [chars_nn ha, chars_nn hb] at h'
    have := digits_inj h'
    omega
  · rw [chars_nn ha, chars_neg hb] at h'
    exact (no_minus h').elim
  · rw [chars_neg ha, chars_nn hb] at h'
    exact (no_minus h'.symm).elim
  · rw [chars_neg ha, chars_neg hb] at h'
    have := digits_inj (List.cons.inj h').2
    omega
/-- no number's text begins so -/
theorem int_text_no {n : Int} {c : Char} {s : String} {l : List Char} (h : toString n = s) (hs : s.toList = c :: l) (hc : c.isDigit = false) (hm : c ≠ '-') : False := by
  have h' := congrArg String.toList h
  rw [hs] at h'
  by_cases hn : 0 ≤ n
  · rw [chars_nn hn] at h'
    have := Nat.isDigit_of_mem_toDigits (b := 10) (n := n.toNat) (c := c) (by decide) (by decide) (h' ▸ .head _)
    rw [hc] at this
    cases this
  · rw [chars_neg hn] at h'
    exact hm (List.cons.inj h').1.symm
theorem repr_empty : reprText "empty" = Str.ofString "'empty'" := by decide +kernel
theorem repr_nothing : reprText "nothing" = Str.ofString "'nothing'" := by decide +kernel
theorem plain_same {bs : List Blk} {v0 v1 : Value} {w0 w1 : Int} (h0 : PlainIs v0) (h1 : PlainIs v1) (q0 : ThingW bs v0 w0) (q1 : ThingW bs v1 w1) : (reprS v0 == reprS v1) = decide (w0 = w1) := by
  have no : ∀ (n : Int) (s : String) (c : Char) (l : List Char), s.toList = c :: l → c.isDigit = false → c ≠ '-' → Str.ofString (toString n) ≠ Str.ofString s := fun n s c l a b d e => int_text_no (ofString_inj e) a b d
  have t1 : ∀ n : Int, Str.ofString (toString n) ≠ Str.ofString "True" := fun n => no n "True" 'T' ['r', 'u', 'e'] rfl rfl (by decide)
  have t2 : ∀ n : Int, Str.ofString (toString n) ≠ Str.ofString "False" := fun n => no n "False" 'F' ['a', 'l', 's', 'e'] rfl rfl (by decide)
  have t3 : ∀ n : Int, Str.ofString (toString n) ≠ Str.ofString "'empty'" := fun n => no n "'empty'" '\'' ['e', 'm', 'p', 't', 'y', '\''] rfl rfl (by decide)
  have t4 : ∀ n : Int, Str.ofString (toString n) ≠ Str.ofString "'nothing'" := fun n => no n "'nothing'" '\'' ['n', 'o', 't', 'h', 'i', 'n', 'g', '\''] rfl rfl (by decide)
  have eqv : ∀ (a b : Str) (p : Prop) [Decidable p], (a = b ↔ p) → (a == b) = decide p := fun a b p _ h => by
    by_cases hp : p
    · rw [h.mpr hp, decide_eq_true hp]; exact beq_self_eq_true b
    · rw [decide_eq_false hp]; exact beq_eq_false_iff_ne.mpr fun e => hp (h.mp e)
  apply eqv
  cases v0 with
  | int n tn =>
    cases q0
    cases v1 with
    | int k tk =>
      cases q1
      show Str.ofString (toString n) = Str.ofString (toString k) ↔ _
      exact ⟨fun e => by rw [int_text_inj (ofString_inj e)], fun e => by rw [show n = k by omega]⟩
    | bool b =>
      cases q1
      cases b
      · exact ⟨fun e => (t2 n e).elim, fun e => by simp at e; omega⟩
      · exact ⟨fun e => (t1 n e).elim, fun e => by simp at e; omega⟩
    | str x tx =>
      rcases q1 with ⟨rfl, rfl⟩ | ⟨rfl, rfl⟩
      · exact ⟨fun e => (t3 n (e.trans repr_empty)).elim, fun e => by omega⟩
      · exact ⟨fun e => (t4 n (e.trans repr_nothing)).elim, fun e => by omega⟩
    | _ => exact h1.elim
  | bool b =>
    cases q0
    cases v1 with
    | int k tk =>
      cases q1
      cases b
      · exact ⟨fun e => (t2 k e.symm).elim, fun e => by simp at e; omega⟩
      · exact ⟨fun e => (t1 k e.symm).elim, fun e => by simp at e; omega⟩
    | bool b' =>
      cases q1
      cases b <;> cases b' <;> simp [reprS] <;> decide +kernel
    | str x tx =>
      rcases q1 with ⟨rfl, rfl⟩ | ⟨rfl, rfl⟩ <;> cases b <;> simp [reprS] <;> decide +kernel
    | _ => exact h1.elim
  | str x tx =>
    cases v1 with
    | int k tk =>
      cases q1
      rcases q0 with ⟨rfl, rfl⟩ | ⟨rfl, rfl⟩
      · exact ⟨fun e => (t3 k (e.symm.trans repr_empty)).elim, fun e => by omega⟩
      · exact ⟨fun e => (t4 k (e.symm.trans repr_nothing)).elim, fun e => by omega⟩
    | bool b' =>
      cases q1
      rcases q0 with ⟨rfl, rfl⟩ | ⟨rfl, rfl⟩ <;> cases b' <;> simp [reprS] <;> decide +kernel
    | str y ty =>
      rcases q0 with ⟨rfl, rfl⟩ | ⟨rfl, rfl⟩ <;> rcases q1 with ⟨rfl, rfl⟩ | ⟨rfl, rfl⟩ <;> simp [reprS] <;> decide +kernel
    | _ => exact h1.elim
  | _ => exact h0.elim
/-- a list of the ledger's duties: who lies where in the law's heap -/
structure Lay where
  dk : Addr
  dl : Addr
  lx : Addr
  ldx : Addr
  hx : Addr
  hdx : Addr
  HC : Addr
  tl : Addr
  bl : Addr
  o1 : Obj
  o2 : Obj
  o3 : Obj
def LibIn (news : List (Addr × Obj)) (Y : Lay) : Prop := ∃ (t1 t2 t3 t4 : Tok) (k1 k2 k3 : Int) (dn dn2 : Nat), (Y.lx, instObj 255 Y.ldx) ∈ news ∧ (Y.ldx, dictOf [⟨k3, .str "heap" t4, .ref Y.hx⟩] dn2) ∈ news ∧ (Y.hx, instObj 360 Y.hdx) ∈ news ∧ (Y.hdx, dictOf [⟨k1, .str "limit" t1, .int 1000 t2⟩, ⟨k2, .str "cells" t3, .ref Y.HC⟩] dn) ∈ news
structure Roles (ρ : Addr → Nat) (Y : Lay) (L : Addr) (bs : List Blk) : Prop where
  dk : ρ Y.dk = 1
  dl : ρ Y.dl = 2
  HC : ρ Y.HC = 3
  tl : ρ Y.tl = 4
  bl : ρ Y.bl = 5
  lx : ρ Y.lx = 6
  ldx : ρ Y.ldx = 7
  hx : ρ Y.hx = 8
  hdx : ρ Y.hdx = 9
  c1 : ρ (L + 1) = 10
  c2 : ρ (L + 1 + 1) = 11
  c3 : ρ (L + 1 + 1 + 1) = 12
  c4 : ρ (L + 1 + 1 + 1 + 1) = 13
  tu : ∀ k ∈ bs, ρ k.tu = 14
  b : ∀ k ∈ bs, ρ k.b = 15
theorem role_ne {ρ : Addr → Nat} {x y : Addr} {i j : Nat} (hx : ρ x = i) (hy : ρ y = j) (h : i ≠ j) : x ≠ y := fun e => h (hx ▸ hy ▸ e ▸ rfl)
structure Led (ρ : Addr → Nat) (Y : Lay) (L : Addr) (o4 : Obj) (vs : List Value) (bs : List Blk) (ts : List Value) (news : List (Addr × Obj)) : Prop where
  dom : ∀ a, ρ a ≠ 0 → ∃ o, (a, o) ∈ news
  deck : DeckIn news Y.dk Y.dl
  lib : LibIn news Y
  cel : ∃ c, (Y.HC, listOf vs.toArray c) ∈ news
  thg : ∃ c, (Y.tl, listOf ts.toArray c) ∈ news
  blo : ∃ c, (Y.bl, listOf (blkRefs bs).toArray c) ∈ news
  blk : BlkIns news bs
  c1 : (L + 1, Y.o1) ∈ news
  c2 : (L + 1 + 1, Y.o2) ∈ news
  c3 : (L + 1 + 1 + 1, Y.o3) ∈ news
  c4 : (L + 1 + 1 + 1 + 1, o4) ∈ news
  r : Roles ρ Y L bs
section
variable {ρ : Addr → Nat} {Y : Lay} {L : Addr} {o4 : Obj} {vs : List Value} {bs : List Blk} {ts : List Value} {news news' : List (Addr × Obj)}
/-- all that has a role is kept -/
theorem Led.res (H : Led ρ Y L o4 vs bs ts news) (k : ∀ q ∈ news, ρ q.1 ≠ 0 → q ∈ news') : Led ρ Y L o4 vs bs ts news' where
  dom a ha := let ⟨o, h⟩ := H.dom a ha; ⟨o, k _ h ha⟩
  deck := by
    obtain ⟨hne, vs, ns, mx, tm, lc, dc, e1, e2, r⟩ := H.deck
    exact ⟨hne, vs, ns, mx, tm, lc, dc, k _ e1 (by simp [H.r.dk]), k _ e2 (by simp [H.r.dl]), r⟩
  lib := by
    obtain ⟨t1, t2, t3, t4, k1, k2, k3, dn, dn2, a, b, c, d⟩ := H.lib
    exact ⟨t1, t2, t3, t4, k1, k2, k3, dn, dn2, k _ a (by simp [H.r.lx]), k _ b (by simp [H.r.ldx]), k _ c (by simp [H.r.hx]), k _ d (by simp [H.r.hdx])⟩
  cel := let ⟨c, h⟩ := H.cel; ⟨c, k _ h (by simp [H.r.HC])⟩
  thg := let ⟨c, h⟩ := H.thg; ⟨c, k _ h (by simp [H.r.tl])⟩
  blo := let ⟨c, h⟩ := H.blo; ⟨c, k _ h (by simp [H.r.bl])⟩
  blk := ⟨fun q hq => k _ (H.blk.tup q hq) (by simp [H.r.tu q hq]), fun q hq => k _ (H.blk.lst q hq) (by simp [H.r.b q hq]), H.blk.one, H.blk.few⟩
  c1 := k _ H.c1 (by simp [H.r.c1])
  c2 := k _ H.c2 (by simp [H.r.c2])
  c3 := k _ H.c3 (by simp [H.r.c3])
  c4 := k _ H.c4 (by simp [H.r.c4])
  r := H.r
theorem Led.mono (H : Led ρ Y L o4 vs bs ts news) (k : ∀ q ∈ news, q ∈ news') : Led ρ Y L o4 vs bs ts news' := H.res fun q hq _ => k q hq
theorem Led.zero (H : Led ρ Y L o4 vs bs ts news) {a : Addr} (h : ∀ q ∈ news, q.1 ≠ a) : ρ a = 0 := by
  by_cases e : ρ a = 0
  · exact e
  · obtain ⟨o, ho⟩ := H.dom a e
    exact absurd rfl (h _ ho)
theorem Led.zero_lt (H : Led ρ Y L o4 vs bs ts news) {a : Addr} (h : ∀ q ∈ news, q.1 < a) : ρ a = 0 := H.zero fun q hq => Nat.ne_of_lt (h q hq)
theorem zero_ne {a d : Addr} {i : Nat} (h : ρ a = 0) (hd : ρ d = i + 1) : a ≠ d := role_ne h hd (by omega)
theorem Led.drawn (H : Led ρ Y L o4 vs bs ts news) (D : Drawn' Y.dk Y.dl news news') : Led ρ Y L o4 vs bs ts news' ∧ ∀ q ∈ news, ρ q.1 = 0 → q ∈ news' := by
  have k : ∀ q ∈ news, ρ q.1 ≠ 1 → ρ q.1 ≠ 2 → q ∈ news' := fun q hq h1 h2 => D.keep q hq (fun e => h1 (e ▸ H.r.dk)) (fun e => h2 (e ▸ H.r.dl))
  refine ⟨⟨fun a ha => ?_, D.deck, ?_, ?_, ?_, ?_, ?_, ?_, ?_, ?_, ?_, H.r⟩, fun q hq h0 => k q hq (by omega) (by omega)⟩
  · obtain ⟨o, ho⟩ := H.dom a ha
    by_cases e1 : a = Y.dk
    · obtain ⟨hne, vs, ns, mx, tm, lc, dc, q1, q2, r⟩ := D.deck
      exact ⟨_, e1 ▸ q1⟩
    · by_cases e2 : a = Y.dl
      · obtain ⟨hne, vs, ns, mx, tm, lc, dc, q1, q2, r⟩ := D.deck
        exact ⟨_, e2 ▸ q2⟩
      · exact ⟨o, D.keep _ ho e1 e2⟩
  · obtain ⟨t1, t2, t3, t4, k1, k2, k3, dn, dn2, a, b, c, d⟩ := H.lib
    exact ⟨t1, t2, t3, t4, k1, k2, k3, dn, dn2, k _ a (by simp [H.r.lx]) (by simp [H.r.lx]), k _ b (by simp [H.r.ldx]) (by simp [H.r.ldx]), k _ c (by simp [H.r.hx]) (by simp [H.r.hx]), k _ d (by simp [H.r.hdx]) (by simp [H.r.hdx])⟩
  · obtain ⟨c, h⟩ := H.cel; exact ⟨c, k _ h (by simp [H.r.HC]) (by simp [H.r.HC])⟩
  · obtain ⟨c, h⟩ := H.thg; exact ⟨c, k _ h (by simp [H.r.tl]) (by simp [H.r.tl])⟩
  · obtain ⟨c, h⟩ := H.blo; exact ⟨c, k _ h (by simp [H.r.bl]) (by simp [H.r.bl])⟩
  · exact ⟨fun q hq => k _ (H.blk.tup q hq) (by simp [H.r.tu q hq]) (by simp [H.r.tu q hq]), fun q hq => k _ (H.blk.lst q hq) (by simp [H.r.b q hq]) (by simp [H.r.b q hq]), H.blk.one, H.blk.few⟩
  · exact k _ H.c1 (by simp [H.r.c1]) (by simp [H.r.c1])
  · exact k _ H.c2 (by simp [H.r.c2]) (by simp [H.r.c2])
  · exact k _ H.c3 (by simp [H.r.c3]) (by simp [H.r.c3])
  · exact k _ H.c4 (by simp [H.r.c4]) (by simp [H.r.c4])
/-- the heap's cells anew -/
theorem Led.cells (H : Led ρ Y L o4 vs bs ts news) {vs' : List Value} {c : Nat} (hm : (Y.HC, listOf vs'.toArray c) ∈ news') (k' : ∀ q ∈ news, q.1 ≠ Y.HC → q ∈ news') : Led ρ Y L o4 vs' bs ts news' ∧ ∀ q ∈ news, ρ q.1 = 0 → q ∈ news' := by
  have k : ∀ q ∈ news, ρ q.1 ≠ 3 → q ∈ news' := fun q hq h1 => k' q hq (fun e => h1 (e ▸ H.r.HC))
  refine ⟨⟨fun a ha => ?_, ?_, ?_, ⟨c, hm⟩, ?_, ?_, ?_, ?_, ?_, ?_, ?_, H.r⟩, fun q hq h0 => k q hq (by omega)⟩
  · obtain ⟨o, ho⟩ := H.dom a ha
    by_cases e1 : a = Y.HC
    · exact ⟨_, e1 ▸ hm⟩
    · exact ⟨o, k' _ ho e1⟩
  · obtain ⟨hne, vs, ns, mx, tm, lc, dc, e1, e2, r⟩ := H.deck
    exact ⟨hne, vs, ns, mx, tm, lc, dc, k _ e1 (by simp [H.r.dk]), k _ e2 (by simp [H.r.dl]), r⟩
  · obtain ⟨t1, t2, t3, t4, k1, k2, k3, dn, dn2, a, b, c, d⟩ := H.lib
    exact ⟨t1, t2, t3, t4, k1, k2, k3, dn, dn2, k _ a (by simp [H.r.lx]), k _ b (by simp [H.r.ldx]), k _ c (by simp [H.r.hx]), k _ d (by simp [H.r.hdx])⟩
  · obtain ⟨c, h⟩ := H.thg; exact ⟨c, k _ h (by simp [H.r.tl])⟩
  · obtain ⟨c, h⟩ := H.blo; exact ⟨c, k _ h (by simp [H.r.bl])⟩
  · exact ⟨fun q hq => k _ (H.blk.tup q hq) (by simp [H.r.tu q hq]), fun q hq => k _ (H.blk.lst q hq) (by simp [H.r.b q hq]), H.blk.one, H.blk.few⟩
  · exact k _ H.c1 (by simp [H.r.c1])
  · exact k _ H.c2 (by simp [H.r.c2])
  · exact k _ H.c3 (by simp [H.r.c3])
  · exact k _ H.c4 (by simp [H.r.c4])
/-- the things anew -/
theorem Led.things (H : Led ρ Y L o4 vs bs ts news) {ts' : List Value} {c : Nat} (hm : (Y.tl, listOf ts'.toArray c) ∈ news') (k' : ∀ q ∈ news, q.1 ≠ Y.tl → q ∈ news') : Led ρ Y L o4 vs bs ts' news' ∧ ∀ q ∈ news, ρ q.1 = 0 → q ∈ news' := by
  have k : ∀ q ∈ news, ρ q.1 ≠ 4 → q ∈ news' := fun q hq h1 => k' q hq (fun e => h1 (e ▸ H.r.tl))
  refine ⟨⟨fun a ha => ?_, ?_, ?_, ?_, ⟨c, hm⟩, ?_, ?_, ?_, ?_, ?_, ?_, H.r⟩, fun q hq h0 => k q hq (by omega)⟩
  · obtain ⟨o, ho⟩ := H.dom a ha
    by_cases e1 : a = Y.tl
    · exact ⟨_, e1 ▸ hm⟩
    · exact ⟨o, k' _ ho e1⟩
  · obtain ⟨hne, vs, ns, mx, tm, lc, dc, e1, e2, r⟩ := H.deck
    exact ⟨hne, vs, ns, mx, tm, lc, dc, k _ e1 (by simp [H.r.dk]), k _ e2 (by simp [H.r.dl]), r⟩
  · obtain ⟨t1, t2, t3, t4, k1, k2, k3, dn, dn2, a, b, c, d⟩ := H.lib
    exact ⟨t1, t2, t3, t4, k1, k2, k3, dn, dn2, k _ a (by simp [H.r.lx]), k _ b (by simp [H.r.ldx]), k _ c (by simp [H.r.hx]), k _ d (by simp [H.r.hdx])⟩
  · obtain ⟨c, h⟩ := H.cel; exact ⟨c, k _ h (by simp [H.r.HC])⟩
  · obtain ⟨c, h⟩ := H.blo; exact ⟨c, k _ h (by simp [H.r.bl])⟩
  · exact ⟨fun q hq => k _ (H.blk.tup q hq) (by simp [H.r.tu q hq]), fun q hq => k _ (H.blk.lst q hq) (by simp [H.r.b q hq]), H.blk.one, H.blk.few⟩
  · exact k _ H.c1 (by simp [H.r.c1])
  · exact k _ H.c2 (by simp [H.r.c2])
  · exact k _ H.c3 (by simp [H.r.c3])
  · exact k _ H.c4 (by simp [H.r.c4])
/-- the fourth cell anew -/
theorem Led.cell4 (H : Led ρ Y L o4 vs bs ts news) {o' : Obj} (hm : (L + 1 + 1 + 1 + 1, o') ∈ news') (k' : ∀ q ∈ news, q.1 ≠ L + 1 + 1 + 1 + 1 → q ∈ news') : Led ρ Y L o' vs bs ts news' ∧ ∀ q ∈ news, ρ q.1 = 0 → q ∈ news' := by
  have k : ∀ q ∈ news, ρ q.1 ≠ 13 → q ∈ news' := fun q hq h1 => k' q hq (fun e => h1 (e ▸ H.r.c4))
  refine ⟨⟨fun a ha => ?_, ?_, ?_, ?_, ?_, ?_, ?_, ?_, ?_, ?_, hm, H.r⟩, fun q hq h0 => k q hq (by omega)⟩
  · obtain ⟨o, ho⟩ := H.dom a ha
    by_cases e1 : a = L + 1 + 1 + 1 + 1
    · exact ⟨_, e1 ▸ hm⟩
    · exact ⟨o, k' _ ho e1⟩
  · obtain ⟨hne, vs, ns, mx, tm, lc, dc, e1, e2, r⟩ := H.deck
    exact ⟨hne, vs, ns, mx, tm, lc, dc, k _ e1 (by simp [H.r.dk]), k _ e2 (by simp [H.r.dl]), r⟩
  · obtain ⟨t1, t2, t3, t4, k1, k2, k3, dn, dn2, a, b, c, d⟩ := H.lib
    exact ⟨t1, t2, t3, t4, k1, k2, k3, dn, dn2, k _ a (by simp [H.r.lx]), k _ b (by simp [H.r.ldx]), k _ c (by simp [H.r.hx]), k _ d (by simp [H.r.hdx])⟩
  · obtain ⟨c, h⟩ := H.cel; exact ⟨c, k _ h (by simp [H.r.HC])⟩
  · obtain ⟨c, h⟩ := H.thg; exact ⟨c, k _ h (by simp [H.r.tl])⟩
  · obtain ⟨c, h⟩ := H.blo; exact ⟨c, k _ h (by simp [H.r.bl])⟩
  · exact ⟨fun q hq => k _ (H.blk.tup q hq) (by simp [H.r.tu q hq]), fun q hq => k _ (H.blk.lst q hq) (by simp [H.r.b q hq]), H.blk.one, H.blk.few⟩
  · exact k _ H.c1 (by simp [H.r.c1])
  · exact k _ H.c2 (by simp [H.r.c2])
  · exact k _ H.c3 (by simp [H.r.c3])
/-- one block is set anew, at its own list -/
def setBlk (bs : List Blk) (b : Addr) (k1 : Blk) : List Blk := bs.map fun k => if k.b = b then k1 else k
theorem Led.set (H : Led ρ Y L o4 vs bs ts news) {k0 k1 : Blk} (h0 : k0 ∈ bs) (e1 : k1.tu = k0.tu) (e2 : k1.b = k0.b) (e3 : k1.ad = k0.ad) (e4 : k1.tw = k0.tw) (hm : (k0.b, listOf k1.us.toArray k1.c) ∈ news') (k' : ∀ q ∈ news, q.1 ≠ k0.b → q ∈ news') :
    Led ρ Y L o4 vs (setBlk bs k0.b k1) ts news' ∧ ∀ q ∈ news, ρ q.1 = 0 → q ∈ news' := by
  have k : ∀ q ∈ news, ρ q.1 ≠ 15 → q ∈ news' := fun q hq h1 => k' q hq (fun e => h1 (e ▸ H.r.b k0 h0))
  have mem : ∀ q ∈ setBlk bs k0.b k1, (q = k1) ∨ (q ∈ bs ∧ q.b ≠ k0.b) := fun q hq => by
    obtain ⟨p, hp, rfl⟩ := List.mem_map.mp hq
    by_cases e : p.b = k0.b
    · exact .inl (if_pos e)
    · refine .inr ?_
      rw [if_neg e]
      exact ⟨hp, e⟩
  have refs : blkRefs (setBlk bs k0.b k1) = blkRefs bs := by
    unfold blkRefs setBlk
    rw [List.map_map]
    refine List.map_congr_left fun q hq => ?_
    by_cases e : q.b = k0.b
    · have := H.blk.one k0 h0 q hq e
      simp [this, e1]
    · simp [e]
  refine ⟨⟨fun a ha => ?_, ?_, ?_, ?_, ?_, ?_, ⟨?_, ?_, ?_, ?_⟩, ?_, ?_, ?_, ?_, ⟨H.r.dk, H.r.dl, H.r.HC, H.r.tl, H.r.bl, H.r.lx, H.r.ldx, H.r.hx, H.r.hdx, H.r.c1, H.r.c2, H.r.c3, H.r.c4, ?_, ?_⟩⟩, fun q hq h0 => k q hq (by omega)⟩
  · obtain ⟨o, ho⟩ := H.dom a ha
    by_cases e1 : a = k0.b
    · exact ⟨_, e1 ▸ hm⟩
    · exact ⟨o, k' _ ho e1⟩
  · obtain ⟨hne, vs, ns, mx, tm, lc, dc, e1, e2, r⟩ := H.deck
    exact ⟨hne, vs, ns, mx, tm, lc, dc, k _ e1 (by simp [H.r.dk]), k _ e2 (by simp [H.r.dl]), r⟩
  · obtain ⟨t1, t2, t3, t4, k1, k2, k3, dn, dn2, a, b, c, d⟩ := H.lib
    exact ⟨t1, t2, t3, t4, k1, k2, k3, dn, dn2, k _ a (by simp [H.r.lx]), k _ b (by simp [H.r.ldx]), k _ c (by simp [H.r.hx]), k _ d (by simp [H.r.hdx])⟩
  · obtain ⟨c, h⟩ := H.cel; exact ⟨c, k _ h (by simp [H.r.HC])⟩
  · obtain ⟨c, h⟩ := H.thg; exact ⟨c, k _ h (by simp [H.r.tl])⟩
  · obtain ⟨c, h⟩ := H.blo; rw [refs]; exact ⟨c, k _ h (by simp [H.r.bl])⟩
  · intro q hq
    rcases mem q hq with rfl | ⟨hq, hne⟩
    · have := k _ (H.blk.tup k0 h0) (by simp [H.r.tu k0 h0])
      unfold Blk.tuO Blk.wv at *
      rw [e1, e2, e3, e4]
      exact this
    · exact k _ (H.blk.tup q hq) (by simp [H.r.tu q hq])
  · intro q hq
    rcases mem q hq with rfl | ⟨hq, hne⟩
    · rw [e2]; exact hm
    · exact k' _ (H.blk.lst q hq) hne
  · intro p hp q hq e
    rcases mem p hp with rfl | ⟨hp, hne⟩ <;> rcases mem q hq with rfl | ⟨hq, hne'⟩
    · rfl
    · exact absurd (e.trans e2) hne'
    · exact absurd (e.symm.trans e2) hne
    · exact H.blk.one p hp q hq e
  · unfold setBlk; rw [List.length_map]; exact H.blk.few
  · exact k _ H.c1 (by simp [H.r.c1])
  · exact k _ H.c2 (by simp [H.r.c2])
  · exact k _ H.c3 (by simp [H.r.c3])
  · exact k _ H.c4 (by simp [H.r.c4])
  · intro q hq
    rcases mem q hq with rfl | ⟨hq, hne⟩
    · rw [e1]; exact H.r.tu k0 h0
    · exact H.r.tu q hq
  · intro q hq
    rcases mem q hq with rfl | ⟨hq, hne⟩
    · rw [e2]; exact H.r.b k0 h0
    · exact H.r.b q hq
/-- a new block -/
def roleAdd (ρ : Addr → Nat) (tu b : Addr) : Addr → Nat := fun a => if a = tu then 14 else if a = b then 15 else ρ a
theorem Led.add (H : Led ρ Y L o4 vs bs ts news) {k1 : Blk} {c : Nat} (z1 : ρ k1.tu = 0) (z2 : ρ k1.b = 0) (hne : k1.tu ≠ k1.b) (ht : (k1.tu, k1.tuO) ∈ news') (hb : (k1.b, listOf k1.us.toArray k1.c) ∈ news') (hm : (Y.bl, listOf (blkRefs (bs ++ [k1])).toArray c) ∈ news') (few : bs.length < 100) (k' : ∀ q ∈ news, q.1 ≠ Y.bl → q ∈ news') :
    Led (roleAdd ρ k1.tu k1.b) Y L o4 vs (bs ++ [k1]) ts news' := by
  have k : ∀ q ∈ news, ρ q.1 ≠ 5 → q ∈ news' := fun q hq h1 => k' q hq (fun e => h1 (e ▸ H.r.bl))
  have old : ∀ {a : Addr} {i : Nat}, ρ a = i + 1 → roleAdd ρ k1.tu k1.b a = i + 1 := fun {a i} h => by
    unfold roleAdd
    rw [if_neg (Ne.symm (zero_ne z1 h)), if_neg (Ne.symm (zero_ne z2 h)), h]
  refine ⟨fun a ha => ?_, ?_, ?_, ?_, ?_, ⟨c, hm⟩, ⟨?_, ?_, ?_, ?_⟩, ?_, ?_, ?_, ?_, ⟨old H.r.dk, old H.r.dl, old H.r.HC, old H.r.tl, old H.r.bl, old H.r.lx, old H.r.ldx, old H.r.hx, old H.r.hdx, old H.r.c1, old H.r.c2, old H.r.c3, old H.r.c4, ?_, ?_⟩⟩
  · by_cases e1 : a = k1.tu
    · exact ⟨_, e1 ▸ ht⟩
    · by_cases e2 : a = k1.b
      · exact ⟨_, e2 ▸ hb⟩
      · unfold roleAdd at ha
        rw [if_neg e1, if_neg e2] at ha
        obtain ⟨o, ho⟩ := H.dom a ha
        by_cases e3 : a = Y.bl
        · exact ⟨_, e3 ▸ hm⟩
        · exact ⟨o, k' _ ho e3⟩
  · obtain ⟨hne, vs, ns, mx, tm, lc, dc, e1, e2, r⟩ := H.deck
    exact ⟨hne, vs, ns, mx, tm, lc, dc, k _ e1 (by simp [H.r.dk]), k _ e2 (by simp [H.r.dl]), r⟩
  · obtain ⟨t1, t2, t3, t4, k1, k2, k3, dn, dn2, a, b, c, d⟩ := H.lib
    exact ⟨t1, t2, t3, t4, k1, k2, k3, dn, dn2, k _ a (by simp [H.r.lx]), k _ b (by simp [H.r.ldx]), k _ c (by simp [H.r.hx]), k _ d (by simp [H.r.hdx])⟩
  · obtain ⟨c, h⟩ := H.cel; exact ⟨c, k _ h (by simp [H.r.HC])⟩
  · obtain ⟨c, h⟩ := H.thg; exact ⟨c, k _ h (by simp [H.r.tl])⟩
  · intro q hq
    rcases List.mem_append.mp hq with hq | hq
    · exact k _ (H.blk.tup q hq) (by simp [H.r.tu q hq])
    · rw [List.mem_singleton.mp hq]; exact ht
  · intro q hq
    rcases List.mem_append.mp hq with hq | hq
    · exact k _ (H.blk.lst q hq) (by simp [H.r.b q hq])
    · rw [List.mem_singleton.mp hq]; exact hb
  · intro p hp q hq e
    rcases List.mem_append.mp hp with hp | hp <;> rcases List.mem_append.mp hq with hq | hq
    · exact H.blk.one p hp q hq e
    · rw [List.mem_singleton.mp hq] at e
      exact absurd e (zero_ne z2 (H.r.b p hp))
    · rw [List.mem_singleton.mp hp] at e
      exact absurd e.symm (zero_ne z2 (H.r.b q hq))
    · rw [List.mem_singleton.mp hp, List.mem_singleton.mp hq]
  · rw [List.length_append]; exact few
  · exact k _ H.c1 (by simp [H.r.c1])
  · exact k _ H.c2 (by simp [H.r.c2])
  · exact k _ H.c3 (by simp [H.r.c3])
  · exact k _ H.c4 (by simp [H.r.c4])
  · intro q hq
    rcases List.mem_append.mp hq with hq | hq
    · exact old (H.r.tu q hq)
    · rw [List.mem_singleton.mp hq]; unfold roleAdd; rw [if_pos rfl]
  · intro q hq
    rcases List.mem_append.mp hq with hq | hq
    · exact old (H.r.b q hq)
    · rw [List.mem_singleton.mp hq]; unfold roleAdd; rw [if_neg (Ne.symm hne), if_pos rfl]
end
section
variable {prog : Program} {w : World} {A : Around} {E : Value → Shared → Prop} {s : Shared} {env : Env} {h₀ : Heap} {x : Str} {body : List Stmt} {Q : Flow → Shared → Prop}
def LawPost (h₀ : Heap) (L : Addr) (J : (Str → Option Value) → List (Addr × Obj) → Prop) (I : Addr) (oI : Obj) (s₁ : Shared) (Q : Flow → Shared → Prop) (f : Flow) (s₂ : Shared) : Prop :=
  match f with
  | .ret v => Q (.ret v) s₂
  | .brk => Q .next s₂
  | _ => ∃ h' tk m' nx, s₂ = { s₁ with heap := h', toks := tk } ∧ Fr h₀ L h' m' ∧ News h₀ L h' ((I, oI) :: nx) ∧ (∀ p ∈ nx, p.1 ≠ I) ∧ J m' nx
theorem law_iter {r : Addr} {a₀ b₀ : Int} {t₀ u₀ v₀ : Tok} {n : Nat} {m₀ : Str → Option Value} {news : List (Addr × Obj)} (J : Nat → (Str → Option Value) → List (Addr × Obj) → Prop)
    (hh : A.handled = none) (hr : IsRange s.heap r a₀ b₀ 1 t₀ u₀ v₀) (hsmall : Builtin.Range.small a₀ b₀ 1 = true) (hn : Builtin.Range.rangeSize a₀ b₀ 1 = (n : Int)) (F : Fr h₀ env.locals s.heap m₀) (N : News h₀ env.locals s.heap news) (hj : J 0 m₀ news)
    (turn : ∀ i k t m₁ nx h tk I oI, i < n → J i m₁ nx → (∀ p ∈ nx, p.1 ≠ I) → Fr h₀ env.locals h (fun y => if y = x then some (.int k t) else m₁ y) → News h₀ env.locals h ((I, oI) :: nx) →
      wpAny (model prog w) A (execs body env) (LawPost h₀ env.locals (J (i + 1)) I oI { s with heap := h, toks := tk } Q) E { s with heap := h, toks := tk })
    (done : ∀ m₁ nx h tk, J n m₁ nx → Fr h₀ env.locals h m₁ → News h₀ env.locals h nx → Q .next { s with heap := h, toks := tk }) :
    wpAny (model prog w) A (pyIter (.ref r)) (fun it s₂ => LoopAtV prog w A h₀ env x body Q E it s₂) E s := by
  refine wpAny_pyIter_range hr hsmall ?_
  have W : Walks prog w A s.heap.objs.size [s.heap.objs.size] [s.heap.objs.size] n (fun i v => i < n ∧ ∃ t, v = .int (a₀ + i * 1) t)
      (fun i h => IsRangeIter h s.heap.objs.size (a₀ + (i : Nat) * 1) ((n : Int) - (i : Nat)) 1) := (Walks.range hh _ a₀ 1 n).bound
  refine ⟨_, _, _, n, _, _, m₀, news, J, rfl, W, ?_, ?_, ?_, (by show IsRangeIter _ _ _ _ _; rw [hn]; simpa using Heap.get?_push_size _ rfl), F.push _, (fun p hp => ⟨Heap.get?_push_of_some _ (N p hp).1, (N p hp).2⟩), hj, ?_, ?_⟩
  · intro hm
    exact absurd F.ns.lt ((List.mem_singleton.mp hm) ▸ Nat.lt_irrefl _)
  · intro b hb
    rw [List.mem_singleton.mp hb]
    exact next_is_new F
  · intro p hp hI
    exact absurd (Heap.lt_size (N p hp).1) ((List.mem_singleton.mp hI) ▸ Nat.lt_irrefl _)
  · rintro i v m₁ nx s₁ own ⟨h, tk, rfl⟩ hi ⟨_, t, rfl⟩ hJ hoff hown hat hmem hst F₁ N₁
    have hI0 : h₀.get? s.heap.objs.size = none := next_is_new F
    obtain ⟨oI, hoI⟩ : ∃ oI, h.get? s.heap.objs.size = some oI := ⟨_, hst⟩
    have hIo := hmem _ (.head _) hI0 oI hoI
    have hoff' : ∀ p ∈ nx, p.1 ≠ s.heap.objs.size := fun p hp e => hoff p hp (e ▸ .head _)
    have N₂ : News h₀ env.locals h ((s.heap.objs.size, oI) :: nx) := fun p hp => by
      rcases List.mem_cons.mp hp with rfl | hp
      · exact N₁ _ (List.mem_append_left _ hIo)
      · exact N₁ _ (List.mem_append_right _ hp)
    refine wpAny_mono (turn i _ t m₁ nx h tk s.heap.objs.size oI hi hJ hoff' F₁ N₂) (fun f s₂ p => ?_) fun _ _ e => e
    have fin : (∃ h' tk' m' nx, s₂ = { s with heap := h', toks := tk' } ∧ Fr h₀ env.locals h' m' ∧ News h₀ env.locals h' ((s.heap.objs.size, oI) :: nx) ∧ (∀ p ∈ nx, p.1 ≠ s.heap.objs.size) ∧ J (i + 1) m' nx) → LoopStepU h₀ env.locals [s.heap.objs.size] own (J (i + 1)) { s with heap := h, toks := tk } .next s₂ := by
      rintro ⟨h', tk', m', nx', rfl, F', N', hn', hJ'⟩
      refine ⟨rfl, h', tk', m', nx', rfl, F', fun p hp => ?_, fun p hp hq => hn' p hp (List.mem_singleton.mp hq), hJ'⟩
      rcases List.mem_append.mp hp with hp | hp
      · have e1 := List.mem_singleton.mp (hown p hp)
        have e2 := hat p hp
        obtain ⟨pa, po⟩ := p
        dsimp only at e1 e2
        subst e1
        rw [hoI] at e2
        cases e2
        exact N' _ (.head _)
      · exact N' _ (.tail _ hp)
    cases f with
    | ret v => exact .ret p
    | brk => exact .brk p
    | next => exact .next (fin p)
    | cont => exact .cont (fin p)
  · intro h' tk m' news' F' N' _ hJ
    exact done m' news' h' tk hJ F' N'
end
/-- what has no role is kept -/
def Keep0 (ρ : Addr → Nat) (news news' : List (Addr × Obj)) : Prop := ∀ q ∈ news, ρ q.1 = 0 → q ∈ news'
theorem Keep0.at {ρ : Addr → Nat} {news news' : List (Addr × Obj)} {a : Addr} {o : Obj} (h : Keep0 ρ news news') (hq : (a, o) ∈ news) (hz : ρ a = 0) : (a, o) ∈ news' := h _ hq hz
/-- roles by place in a list -/
noncomputable def roleFrom : Nat → List Addr → Addr → Nat
  | _, [], _ => 0
  | n, x :: r, a => if a = x then n else roleFrom (n + 1) r a
theorem roleFrom_mem {n : Nat} {l : List Addr} {a : Addr} (h : roleFrom n l a ≠ 0) : a ∈ l := by
  induction l generalizing n with
  | nil => exact absurd rfl h
  | cons x r ih =>
    by_cases e : a = x
    · rw [e]; exact .head _
    · unfold roleFrom at h
      rw [if_neg e] at h
      exact .tail _ (ih h)
theorem roleFrom_head {n : Nat} {x : Addr} {r : List Addr} : roleFrom n (x :: r) x = n := if_pos rfl
theorem roleFrom_tail {n : Nat} {x a : Addr} {r : List Addr} (h : a ≠ x) : roleFrom n (x :: r) a = roleFrom (n + 1) r a := if_neg h
theorem roleFrom_at : ∀ {l : List Addr} {n i : Nat} {a : Addr}, l.Pairwise (fun a b => a ≠ b) → l[i]? = some a → roleFrom n l a = n + i
  | [], _, _, _, _, h => by simp at h
  | x :: r, n, 0, a, _, h => by
    obtain rfl : x = a := by simpa using h
    exact roleFrom_head
  | x :: r, n, i + 1, a, p, h => by
    have h' : r[i]? = some a := by simpa using h
    obtain ⟨p1, p2⟩ := List.pairwise_cons.mp p
    rw [roleFrom_tail (Ne.symm (p1 a (List.mem_of_getElem? h'))), roleFrom_at p2 h']
    omega
def roleList (Y : Lay) (L : Addr) : List Addr := [Y.dk, Y.dl, Y.HC, Y.tl, Y.bl, Y.lx, Y.ldx, Y.hx, Y.hdx, L + 1, L + 1 + 1, L + 1 + 1 + 1, L + 1 + 1 + 1 + 1]
theorem led_init {Y : Lay} {L : Addr} {o4 : Obj} {ts : List Value} {news : List (Addr × Obj)} (hp : (roleList Y L).Pairwise (fun a b => a ≠ b)) (deck : DeckIn news Y.dk Y.dl) (lib : LibIn news Y) (cel : ∃ c, (Y.HC, listOf ([] : List Value).toArray c) ∈ news)
    (thg : ∃ c, (Y.tl, listOf ts.toArray c) ∈ news) (blo : ∃ c, (Y.bl, listOf ([] : List Value).toArray c) ∈ news) (c1 : (L + 1, Y.o1) ∈ news) (c2 : (L + 1 + 1, Y.o2) ∈ news) (c3 : (L + 1 + 1 + 1, Y.o3) ∈ news) (c4 : (L + 1 + 1 + 1 + 1, o4) ∈ news) :
    Led (roleFrom 1 (roleList Y L)) Y L o4 [] [] ts news where
  dom a ha := by
    have h := roleFrom_mem ha
    obtain ⟨_, vs, ns, mx, tm, lc, dc, e1, e2, _⟩ := deck
    obtain ⟨t1, t2, t3, t4, k1, k2, k3, dn, dn2, l1, l2, l3, l4⟩ := lib
    obtain ⟨_, e3⟩ := cel
    obtain ⟨_, e4⟩ := thg
    obtain ⟨_, e5⟩ := blo
    unfold roleList at h
    simp only [List.mem_cons, List.not_mem_nil, or_false] at h
    rcases h with rfl | rfl | rfl | rfl | rfl | rfl | rfl | rfl | rfl | rfl | rfl | rfl | rfl
    all_goals exact ⟨_, by assumption⟩
  deck := deck
  lib := lib
  cel := cel
  thg := thg
  blo := blo
  blk := ⟨fun _ h => (nomatch h), fun _ h => (nomatch h), fun _ h => (nomatch h), by decide⟩
  c1 := c1
  c2 := c2
  c3 := c3
  c4 := c4
  r := ⟨roleFrom_at (i := 0) hp rfl, roleFrom_at (i := 1) hp rfl, roleFrom_at (i := 2) hp rfl, roleFrom_at (i := 3) hp rfl, roleFrom_at (i := 4) hp rfl, roleFrom_at (i := 5) hp rfl, roleFrom_at (i := 6) hp rfl, roleFrom_at (i := 7) hp rfl, roleFrom_at (i := 8) hp rfl, roleFrom_at (i := 9) hp rfl, roleFrom_at (i := 10) hp rfl, roleFrom_at (i := 11) hp rfl, roleFrom_at (i := 12) hp rfl,
    fun _ h => (nomatch h), fun _ h => (nomatch h)⟩
theorem pair_nat : ∀ {l : List Nat}, l.Pairwise (fun a b : Nat => a ≠ b) → List.Pairwise (α := Addr) (fun a b => a ≠ b) l := fun h => h
theorem law_start {h₀ h : Heap} {L T bl tl HC hx hdx lx ldx dk dl : Addr} {oT o1 o2 o3 o4 : Obj} {ts : List Value} {k1 k2 k3 : Int} {dn dn2 cb ct cc lc dc : Nat} {t1 t2 t3 t4 tm : Tok} {mx : Int} {vs0 : List Value} {ns0 : List Int} {v4 : Option Value}
    (N : News h₀ L h [(T, oT), (bl, listOf ([] : List Value).toArray cb), (tl, listOf ts.toArray ct), (HC, listOf ([] : List Value).toArray cc), (hx, instObj 360 hdx), (hdx, dictOf [⟨k1, .str "limit" t1, .int 1000 t2⟩, ⟨k2, .str "cells" t3, .ref HC⟩] dn), (lx, instObj 255 ldx), (ldx, dictOf [⟨k3, .str "heap" t4, .ref hx⟩] dn2),
      (L + 1 + 1 + 1 + 1, o4), (L + 1 + 1 + 1, o3), (L + 1 + 1, o2), (L + 1, o1), (dk, listOf [Value.ref dl, .int mx tm].toArray dc), (dl, listOf vs0.toArray lc)])
    (hi : IntsAre vs0 ns0) (h0 : ∀ x ∈ ns0, 0 ≤ x) (h24 : vs0.length ≤ 24) (hx0 : 0 ≤ mx) (hx1 : mx < 2147483647) (d1 : o1.data = .cell (some (.ref dk))) (d2 : o2.data = .cell (some (.ref tl))) (d3 : o3.data = .cell (some (.ref bl))) (d4 : o4.data = .cell v4)
    (hp : List.Pairwise (fun a b : Nat => a ≠ b) [dk, dl, HC, tl, bl, lx, ldx, hx, hdx, L + 1, L + 1 + 1, L + 1 + 1 + 1, L + 1 + 1 + 1 + 1]) :
    ∃ (Y : Lay) (ρ : Addr → Nat) (news : List (Addr × Obj)), News h₀ L h news ∧ Led ρ Y L o4 [] [] ts news ∧ lx = Y.lx ∧ hx = Y.hx ∧ Y.o1.data = .cell (some (.ref Y.dk)) ∧ Y.o2.data = .cell (some (.ref Y.tl)) ∧ Y.o3.data = .cell (some (.ref Y.bl)) := by
  refine ⟨⟨dk, dl, lx, ldx, hx, hdx, HC, tl, bl, o1, o2, o3⟩, _, _, N, led_init (pair_nat hp) ⟨?_, vs0, ns0, mx, tm, lc, dc, List.mem_of_getElem? (i := 12) rfl, List.mem_of_getElem? (i := 13) rfl, hi, h0, h24, hx0, hx1⟩
    ⟨t1, t2, t3, t4, k1, k2, k3, dn, dn2, List.mem_of_getElem? (i := 6) rfl, List.mem_of_getElem? (i := 7) rfl, List.mem_of_getElem? (i := 4) rfl, List.mem_of_getElem? (i := 5) rfl⟩ ⟨cc, List.mem_of_getElem? (i := 3) rfl⟩ ⟨ct, List.mem_of_getElem? (i := 2) rfl⟩ ⟨cb, List.mem_of_getElem? (i := 1) rfl⟩
    (List.mem_of_getElem? (i := 11) rfl) (List.mem_of_getElem? (i := 10) rfl) (List.mem_of_getElem? (i := 9) rfl) (List.mem_of_getElem? (i := 8) rfl), rfl, rfl, d1, d2, d3⟩
  exact (List.pairwise_cons.mp hp).1 dl (.head _)
section
variable {w : World} {p : Program} {loose : List Str} {mean : ExcName → Option Value} {mg mb : Str → Option Value} {dp un : Nat} {gd : Option (List Code)} {cn : Str} {cs : Scope} {L a : Addr} {ccd : Value} {cl : List (Str × Addr)} {outer : List Env} {A₀ : Around} {base h₀ : Heap} {m : Str → Option Value} {news : List (Addr × Obj)} {s : Shared} {Q E : Value → Shared → Prop}
variable {ρ : Addr → Nat} {Y : Lay} {o4 : Obj} {vs : List Value} {bs : List Blk} {ts : List Value}
theorem draw_L {many : Int} {t : Tok} (B : Below A₀ base outer h₀) (F : Fr h₀ L s.heap m) (X : (hd.heap_39 w.params).In h₀) (N : News h₀ L s.heap news) (T : Top p loose mean mg mb h₀) (hk : cs.kind = .function) (hd1 : dp + 20 < recursionLimit) (hu1 : un + 200 < cLine) (H : Led ρ Y L o4 vs bs ts news) (hm : 1 ≤ many) (hm' : many ≤ 100)
    (hret : ∀ r t' news' h' tk', Fr h₀ L h' m → News h₀ L h' news' → Led ρ Y L o4 vs bs ts news' → Keep0 ρ news news' → 0 ≤ r → r < many → Q (.int r t') { s with heap := h', toks := tk' }) : wpAny (model PySem.Challenge.rw_on0295_01.row.prog w) (ktrTop dp un gd cn cs L a ccd cl outer) (call (.ref 376) [.ref Y.dk, .int many t]) Q E s :=
  draw_m B F X N T hk hd1 hu1 hm hm' H.deck fun r t' n' h' tk' F' N' D a b => hret r t' n' h' tk' F' N' (H.drawn D).1 (H.drawn D).2 a b
theorem one_L (B : Below A₀ base outer h₀) (F : Fr h₀ L s.heap m) (X : (hd.heap_39 w.params).In h₀) (N : News h₀ L s.heap news) (T : Top p loose mean mg mb h₀) (hk : cs.kind = .function) (hd1 : dp + 40 < recursionLimit) (hu1 : un + 300 < cLine) (H : Led ρ Y L o4 vs bs ts news) (h1 : 1 ≤ ts.length) (h2 : ts.length ≤ 100)
    (hret : ∀ v news' h' tk', Fr h₀ L h' m → News h₀ L h' news' → Led ρ Y L o4 vs bs ts news' → Keep0 ρ news news' → v ∈ ts → Q v { s with heap := h', toks := tk' }) : wpAny (model PySem.Challenge.rw_on0295_01.row.prog w) (ktrTop dp un gd cn cs L a ccd cl outer) (call (.ref 383) [.ref Y.dk, .ref Y.tl]) Q E s := by
  obtain ⟨c, hc⟩ := H.thg
  exact one_m B F X N T hk hd1 hu1 H.deck hc (role_ne H.r.tl H.r.dk (by decide)) (role_ne H.r.tl H.r.dl (by decide)) h1 h2 fun v n' h' tk' F' N' D a => hret v n' h' tk' F' N' (H.drawn D).1 (H.drawn D).2 a
theorem word_L {v : Value} {wd : Int} (B : Below A₀ base outer h₀) (F : Fr h₀ L s.heap m) (X : (hd.heap_39 w.params).In h₀) (N : News h₀ L s.heap news) (T : Top p loose mean mg mb h₀) (hk : cs.kind = .function) (hd1 : dp + 20 < recursionLimit) (hu1 : un + 200 < cLine) (H : Led ρ Y L o4 vs bs ts news) (hv : ThingW bs v wd)
    (hret : ∀ t' h' tk', Fr h₀ L h' m → News h₀ L h' news → Q (.int wd t') { s with heap := h', toks := tk' }) : wpAny (model PySem.Challenge.rw_on0295_01.row.prog w) (ktrTop dp un gd cn cs L a ccd cl outer) (call (.ref 388) [v, .ref Y.bl]) Q E s := by
  obtain ⟨c, hc⟩ := H.blo
  exact word_t B F X N T hk hd1 hu1 hc H.blk hv hret
theorem whole_L (B : Below A₀ base outer h₀) (F : Fr h₀ L s.heap m) (X : (hd.heap_39 w.params).In h₀) (N : News h₀ L s.heap news) (T : Top p loose mean mg mb h₀) (hk : cs.kind = .function) (hd1 : dp + 90 < recursionLimit) (hu1 : un + 900 < cLine) (H : Led ρ Y L o4 vs bs ts news) (h5 : vs.length < 800) (hC : Coh vs bs) (hnd : (bs.map (·.ad)).Nodup)
    (hret : ∀ h' tk', Fr h₀ L h' m → News h₀ L h' news → Q (.bool true) { s with heap := h', toks := tk' }) : wpAny (model PySem.Challenge.rw_on0295_01.row.prog w) (ktrTop dp un gd cn cs L a ccd cl outer) (call (.ref 433) [.ref Y.hx, .ref Y.bl]) Q E s := by
  obtain ⟨c, hc⟩ := H.blo
  obtain ⟨c', hc'⟩ := H.cel
  obtain ⟨t1, t2, t3, t4, k1, k2, k3, dn, dn2, l1, l2, l3, l4⟩ := H.lib
  exact whole_t B F X N T hk hd1 hu1 l3 l4 hc' h5 hc H.blk hC hnd hret
theorem called_L {wl : Addr} {ws : List Value} {op w0 w1 : Int} {t t0 t01 : Tok} {c : Nat} (B : Below A₀ h₀ [] h₀) (F : Fr h₀ L s.heap m) (X : (hd.heap_39 w.params).In h₀) (N : News h₀ L s.heap news) (T : Top p loose mean mg mb h₀) (hk : cs.kind = .function) (hd1 : dp + 140 < recursionLimit) (hu1 : un + 1100 < cLine) (H : Led ρ Y L o4 vs bs ts news) (ho0 : 0 ≤ op) (ho : op ≤ 12)
    (h5 : vs.length < 800) (hw : (wl, listOf ws.toArray c) ∈ news) (hz : ρ wl = 0) (hl : ws.length < 10) (i0 : ws[0]? = some (Value.int w0 t0)) (i1 : 1 < ws.length → ws[1]? = some (Value.int w1 t01)) (hB : isBlk op → BlkIn vs op w0)
    (hfault : ∀ r t' news' h' tk', Fr h₀ L h' m → News h₀ L h' news' → Led ρ Y L o4 vs bs ts news' → Keep0 ρ news news' → op = 12 → (r, { cls := .type "tuple", data := .seq #[Value.str "fault" t'] }) ∈ news' → Q (.ref r) { s with heap := h', toks := tk' })
    (harity : ∀ r ta tn tp news' h' tk', Fr h₀ L h' m → News h₀ L h' news' → Led ρ Y L o4 vs bs ts news' → Keep0 ρ news news' → op < 12 → (ws.length : Int) ≠ rowMany op → (r, { cls := .type "tuple", data := .seq #[Value.str "arity" ta, .str (rowName op) tn, .int ws.length tp] }) ∈ news' → Q (.ref r) { s with heap := h', toks := tk' })
    (hkind : ∀ r ta tn tp tw pl news' h' tk', Fr h₀ L h' m → News h₀ L h' news' → Led ρ Y L o4 vs bs ts news' → Keep0 ρ news news' → op < 12 → (ws.length : Int) = rowMany op → (op < 3 ∧ (pl = 0 ∧ w0.fmod 8 ≠ 0 ∨ pl = 1 ∧ w0.fmod 8 = 0 ∧ w1.fmod 8 ≠ 0) ∨ isBlk op ∧ pl = 0 ∧ IsKind vs w0 (kdOf op) false) →
      (r, { cls := .type "tuple", data := .seq #[Value.str "kind" ta, .str (rowName op) tn, .int pl tp, .int (if pl = 0 then w0 else w1) tw] }) ∈ news' → Q (.ref r) { s with heap := h', toks := tk' })
    (htold : ∀ r rr ta t' vs' news' h' tk', Fr h₀ L h' m → News h₀ L h' news' → op < 12 → (ws.length : Int) = rowMany op → RunOut vs op w0 w1 t0 t01 rr vs' → Led ρ Y L o4 vs' bs ts news' → Keep0 ρ news news' →
      (r, { cls := .type "tuple", data := .seq #[Value.str "told" ta, .int rr t'] }) ∈ news' → Q (.ref r) { s with heap := h', toks := tk' }) :
    wpAny (model PySem.Challenge.rw_on0295_01.row.prog w) (ktrTop dp un gd cn cs L a ccd cl []) (call (.ref 416) [.ref Y.lx, .int op t, .ref wl]) Q E s := by
  obtain ⟨c', hc'⟩ := H.cel
  obtain ⟨t1, t2, t3, t4, k1, k2, k3, dn, dn2, l1, l2, l3, l4⟩ := H.lib
  exact called_t B F X N T hk hd1 hu1 ho0 ho l1 l2 l3 l4 hc' h5 hw (zero_ne hz H.r.HC) hl i0 i1 hB
    (fun r t' n' h' tk' F' N' k a b => hfault r t' n' h' tk' F' N' (H.mono k) (fun q hq _ => k q hq) a b)
    (fun r ta tn tp n' h' tk' F' N' k a b d => harity r ta tn tp n' h' tk' F' N' (H.mono k) (fun q hq _ => k q hq) a b d)
    (fun r ta tn tp tw pl n' h' tk' F' N' k a b d e => hkind r ta tn tp tw pl n' h' tk' F' N' (H.mono k) (fun q hq _ => k q hq) a b d e)
    (fun r rr ta t' vs' cn'' n' h' tk' F' N' a b d e k f => htold r rr ta t' vs' n' h' tk' F' N' a b d (H.cells e k).1 (H.cells e k).2 f)
end
section
variable {prog : Program} {w : World} {A : Around} {E : Value → Shared → Prop} {s : Shared} {h₀ : Heap} {L l : Addr} {m : Str → Option Value} {news : List (Addr × Obj)}
variable {ρ : Addr → Nat} {Y : Lay} {o4 : Obj} {vs : List Value} {bs : List Blk} {ts : List Value}
theorem deck_item {value slice : PySem.Expr} {u : Tok} {Q : Value → Shared → Prop} (N : News h₀ L s.heap news) (H : Led ρ Y L o4 vs bs ts news) (h : Q (.ref Y.dl) s)
    (hs : subscripted slice false (.ref Y.dk) (.int 0 u) = operate [.ref Y.dk, .int 0 u] (getItem (.ref Y.dk) (.int 0 u)) := by with_unfolding_all rfl) :
    wpAny (model prog w) A (subscriptTail value slice (.ref Y.dk) (.int 0 u)) Q E s := by
  obtain ⟨_, vs, ns, mx, tm, lc, dc, e1, e2, _⟩ := H.deck
  exact item_m N e1 (by decide) (by decide) rfl h hs
theorem deck_nil {b : Addr} {k : Nat} {Q : Value → Shared → Prop} (N : News h₀ L s.heap news) (H : Led ρ Y L o4 vs bs ts news) (hb : (b, listOf ([] : List Value).toArray k) ∈ news)
    (hu : A.units + 64 < cLine) (h : ∀ x, Q (.bool x) s) : wpAny (model prog w) A (compareOp .Eq (.ref Y.dl) (.ref b)) Q E s := by
  obtain ⟨_, vs, ns, mx, tm, lc, dc, e1, e2, hi, _⟩ := H.deck
  exact eq_intsK ⟨_, (N _ e2).1, rfl, _, rfl⟩ hi (us := []) ⟨_, (N _ hb).1, rfl, k, rfl⟩ .nil hu (h _)
end
/-- the frame of law between two turns -/
def lawM (m0 : Str → Option Value) (u1 u2 u3 u4 u5 u6 u7 u8 u9 : Option Value) : Str → Option Value :=
  fun y => if y = "_law_turn" then u1 else if y = "_law_op" then u2 else if y = "_law_name" then u3 else if y = "_law_many" then u4 else if y = "_law_some" then u5 else if y = "_law_words" then u6 else if y = "_law_items_here" then u7 else if y = "_law_due_here" then u8 else if y = "_law_told" then u9 else m0 y
def LawP (m0 m : Str → Option Value) : Prop := ∃ u1 u2 u3 u4 u5 u6 u7 u8 u9, m = lawM m0 u1 u2 u3 u4 u5 u6 u7 u8 u9
theorem lawM_of {m0 m : Str → Option Value} (h : ∀ y : Str, y ≠ "_law_turn" → y ≠ "_law_op" → y ≠ "_law_name" → y ≠ "_law_many" → y ≠ "_law_some" → y ≠ "_law_words" → y ≠ "_law_items_here" → y ≠ "_law_due_here" → y ≠ "_law_told" → m y = m0 y) :
    m = lawM m0 (m "_law_turn") (m "_law_op") (m "_law_name") (m "_law_many") (m "_law_some") (m "_law_words") (m "_law_items_here") (m "_law_due_here") (m "_law_told") := by
  funext y
  unfold lawM
  by_cases h1 : y = "_law_turn"
  · rw [if_pos h1, h1]
  rw [if_neg h1]
  by_cases h2 : y = "_law_op"
  · rw [if_pos h2, h2]
  rw [if_neg h2]
  by_cases h3 : y = "_law_name"
  · rw [if_pos h3, h3]
  rw [if_neg h3]
  by_cases h4 : y = "_law_many"
  · rw [if_pos h4, h4]
  rw [if_neg h4]
  by_cases h5 : y = "_law_some"
  · rw [if_pos h5, h5]
  rw [if_neg h5]
  by_cases h6 : y = "_law_words"
  · rw [if_pos h6, h6]
  rw [if_neg h6]
  by_cases h7 : y = "_law_items_here"
  · rw [if_pos h7, h7]
  rw [if_neg h7]
  by_cases h8 : y = "_law_due_here"
  · rw [if_pos h8, h8]
  rw [if_neg h8]
  by_cases h9 : y = "_law_told"
  · rw [if_pos h9, h9]
  rw [if_neg h9]
  exact h y h1 h2 h3 h4 h5 h6 h7 h8 h9
theorem lawP_of {m0 m : Str → Option Value} (h : ∀ y : Str, y ≠ "_law_turn" → y ≠ "_law_op" → y ≠ "_law_name" → y ≠ "_law_many" → y ≠ "_law_some" → y ≠ "_law_words" → y ≠ "_law_items_here" → y ≠ "_law_due_here" → y ≠ "_law_told" → m y = m0 y) : LawP m0 m :=
  ⟨_, _, _, _, _, _, _, _, _, lawM_of h⟩
def sz (k : Blk) : Nat := if k.pr then 3 else 2
def Sml (i : Nat) (v : Value) : Prop := ∀ n t, v = .int n t → n.natAbs ≤ 3 * 2 ^ i
/-- heap and lists agree -/
structure Sit (vs : List Value) (bs : List Blk) (ts : List Value) (i : Nat) : Prop where
  coh : Coh vs bs
  thg : Things bs
  oks : ∀ t ∈ ts, ThingOk bs t
  nd : (bs.map (·.ad)).Nodup
  gap : ∀ k ∈ bs, ∀ k' ∈ bs, k.ad ≠ k'.ad → k.ad + sz k ≤ k'.ad ∨ k'.ad + sz k' ≤ k.ad
  fit : ∀ k ∈ bs, k.ad + sz k ≤ vs.length
  vlen : vs.length ≤ 3 * i
  blen : bs.length ≤ i
  tlen : ts.length ≤ 3 + i
  tpos : 1 ≤ ts.length
  sml : ∀ v ∈ ts, Sml i v
  smx : ∀ k ∈ bs, Sml i k.x ∧ Sml i k.y
theorem sml_plain {i : Nat} {n : Int} {t : Tok} (h : n.natAbs ≤ 3 * 2 ^ i) (hi : i ≤ 13) : PlainIs (.int n t) := by
  show n.natAbs < 10 ^ 9
  have : 2 ^ i ≤ 2 ^ 13 := Nat.pow_le_pow_right (by decide) hi
  have e : (2 : Nat) ^ 13 = 8192 := by decide
  have e2 : (10 : Nat) ^ 9 = 1000000000 := by decide
  omega
theorem sit_start {t1 t2 t3 : Tok} : Sit [] [] [.int 3 t1, .int (-2) t2, .str "empty" t3] 0 where
  coh := fun _ h => nomatch h
  thg := fun _ h => nomatch h
  oks := fun t h => by
    simp only [List.mem_cons, List.not_mem_nil, or_false] at h
    rcases h with rfl | rfl | rfl
    · exact .inl (by show (3 : Int).natAbs < 10 ^ 9; decide)
    · exact .inl (by show (-2 : Int).natAbs < 10 ^ 9; decide)
    · exact .inl (.inl rfl)
  nd := List.nodup_nil
  gap := fun _ h => nomatch h
  fit := fun _ h => nomatch h
  vlen := by decide
  blen := by decide
  tlen := by simp
  tpos := by simp
  sml := fun v h n t e => by
    subst e
    simp only [List.mem_cons, List.not_mem_nil, or_false, Value.int.injEq] at h
    rcases h with ⟨rfl, _⟩ | ⟨rfl, _⟩ | h
    · decide
    · decide
    · cases h
  smx := fun _ h => nomatch h
def LawJ (Y : Lay) (L : Addr) (m0 : Str → Option Value) (i : Nat) (m : Str → Option Value) (nx : List (Addr × Obj)) : Prop :=
  ∃ ρ o4 v4 vs bs ts, Led ρ Y L o4 vs bs ts nx ∧ o4.data = .cell v4 ∧ Sit vs bs ts i ∧ LawP m0 m
def RangeMid (h₀ : Heap) (L : Addr) (s : Shared) (m₀ : Str → Option Value) (P : List (Addr × Obj) → Prop) (xv : Value) (s₁ : Shared) : Prop :=
  ∃ (r : Addr) (b : Int) (t u v : Tok) (h : Heap) (tk : Nat) (news : List (Addr × Obj)), xv = .ref r ∧ s₁ = { s with heap := h, toks := tk } ∧ IsRange h r 0 b 1 t u v ∧ 0 ≤ b ∧ b ≤ 12 ∧ Fr h₀ L h m₀ ∧ News h₀ L h news ∧ P news
theorem range_facts : ∀ n : Nat, n ≤ 12 → Builtin.Range.small 0 (n : Int) 1 = true ∧ Builtin.Range.rangeSize 0 (n : Int) 1 = (n : Int) := by decide
section
variable {prog : Program} {w : World} {A : Around} {s : Shared} {env : Env} {h₀ : Heap} {m₀ : Str → Option Value} {E : Value → Shared → Prop} {Q : Flow → Shared → Prop} {x : Str} {px pos : Pos} {iter : PySem.Expr} {body : List Stmt}
theorem law_for (J : Nat → (Str → Option Value) → List (Addr × Obj) → Prop) (P : List (Addr × Obj) → Prop) (_F : Fr h₀ env.locals s.heap m₀) (hh : A.handled = none) (hx : env.kindOf x = some .local)
    (hp : (env.scope.kind == .class || (env.scope.kind == .module && env.locals != env.globals)) = false)
    (hiter : wpAny (model prog w) A (eval iter env) (RangeMid h₀ env.locals s m₀ P) E s) (start : ∀ nx, P nx → J 0 m₀ nx)
    (turn : ∀ n i k t m₁ nx h tk I oI, n ≤ 12 → i < n → J i m₁ nx → (∀ p ∈ nx, p.1 ≠ I) → Fr h₀ env.locals h (fun y => if y = x then some (.int k t) else m₁ y) → News h₀ env.locals h ((I, oI) :: nx) →
      wpAny (model prog w) A (execs body env) (LawPost h₀ env.locals (J (i + 1)) I oI { s with heap := h, toks := tk } Q) E { s with heap := h, toks := tk })
    (done : ∀ n m₁ nx h tk, J n m₁ nx → Fr h₀ env.locals h m₁ → News h₀ env.locals h nx → Q .next { s with heap := h, toks := tk })
    (hs : ∀ x, foldedSetIterable iter env x = pure x := by intro _; rfl)
    (hE : PassesOwn (model prog w) A env E := by passes_own) :
    wpAny (model prog w) A (exec (.For (.Name x px) iter body [] pos) env) Q E s := by
  refine For_invV h₀ hx hp (wpAny_mono hiter (fun xv s₁ h₁ => ?_) fun _ _ e => e) hs hE
  obtain ⟨r, b, t, u, v, h, tk, news, rfl, rfl, hr, hb0, hb1, F, N, hP⟩ := h₁
  obtain ⟨n, rfl⟩ : ∃ n : Nat, b = (n : Int) := ⟨b.toNat, by omega⟩
  have hn : n ≤ 12 := by omega
  obtain ⟨r1, r2⟩ := range_facts n hn
  exact law_iter (n := n) J hh hr r1 r2 F N (start _ hP) (fun i k t m₁ nx h' tk' I oI hi hJ hne F' N' => turn n i k t m₁ nx h' tk' I oI hn hi hJ hne F' N') fun m₁ nx h' tk' hJ F' N' => done n m₁ nx h' tk' hJ F' N'
theorem law_for' {L : Addr} {ρ : Addr → Nat} {Y : Lay} {o4 : Obj} {v4 : Option Value} {ts : List Value} {nw : List (Addr × Obj)} (hL : env.locals = L) (H : Led ρ Y L o4 [] [] ts nw) (d4 : o4.data = .cell v4) (S0 : Sit [] [] ts 0) (_F : Fr h₀ L s.heap m₀) (hh : A.handled = none) (hx : env.kindOf "_law_turn" = some .local)
    (hp : (env.scope.kind == .class || (env.scope.kind == .module && env.locals != env.globals)) = false)
    (hiter : wpAny (model prog w) A (eval iter env) (RangeMid h₀ L s m₀ (fun nx => Led ρ Y L o4 [] [] ts nx)) E s)
    (turn : ∀ (n i : Nat) (k : Int) (t : Tok) (ρ : Addr → Nat) (o4 : Obj) (v4 : Option Value) (vs : List Value) (bs : List Blk) (ts : List Value) (u2 u3 u4 u5 u6 u7 u8 u9 : Option Value) (nx : List (Addr × Obj)) (h : Heap) (tk : Nat) (I : Addr) (oI : Obj), n ≤ 12 → i < n → Led ρ Y L o4 vs bs ts ((I, oI) :: nx) → ρ I = 0 → o4.data = .cell v4 → Sit vs bs ts i → Fr h₀ L h (lawM m₀ (some (.int k t)) u2 u3 u4 u5 u6 u7 u8 u9) → News h₀ L h ((I, oI) :: nx) →
      wpAny (model prog w) A (execs body env) (LawPost h₀ L (LawJ Y L m₀ (i + 1)) I oI { s with heap := h, toks := tk } Q) E { s with heap := h, toks := tk })
    (done : ∀ (u1 u2 u3 u4 u5 u6 u7 u8 u9 : Option Value) nx h tk, Fr h₀ L h (lawM m₀ u1 u2 u3 u4 u5 u6 u7 u8 u9) → News h₀ L h nx → Q .next { s with heap := h, toks := tk })
    (hs : ∀ x, foldedSetIterable iter env x = pure x := by intro _; rfl)
    (hE : PassesOwn (model prog w) A env E := by passes_own) :
    wpAny (model prog w) A (exec (.For (.Name "_law_turn" px) iter body [] pos) env) Q E s := by
  subst hL
  refine law_for (LawJ Y env.locals m₀) (fun nx => Led ρ Y env.locals o4 [] [] ts nx) _F hh hx hp hiter (fun nx H9 => ⟨_, _, _, _, _, _, H9, d4, S0, lawP_of fun _ _ _ _ _ _ _ _ _ _ => rfl⟩) (fun n i k t m₁ nx h tk I oI hn hi hJ hne F9 N9 => ?_) (fun n m₁ nx h tk hJ F9 N9 => ?_) hs hE
  · obtain ⟨ρ9, o49, v49, vs9, bs9, ts9, H9, d49, S9, u1, u2, u3, u4, u5, u6, u7, u8, u9, rfl⟩ := hJ
    refine turn n i k t ρ9 o49 v49 vs9 bs9 ts9 u2 u3 u4 u5 u6 u7 u8 u9 nx h tk I oI hn hi (H9.mono fun q hq => .tail _ hq) (H9.zero hne) d49 S9 ?_ N9
    have e : (fun y : Str => if y = "_law_turn" then some (Value.int k t) else lawM m₀ u1 u2 u3 u4 u5 u6 u7 u8 u9 y) = lawM m₀ (some (.int k t)) u2 u3 u4 u5 u6 u7 u8 u9 := by
      funext y
      unfold lawM
      by_cases q : y = "_law_turn"
      · rw [if_pos q, if_pos q]
      · rw [if_neg q, if_neg q, if_neg q]
    exact e ▸ F9
  · obtain ⟨ρ9, o49, v49, vs9, bs9, ts9, H9, d49, S9, u1, u2, u3, u4, u5, u6, u7, u8, u9, rfl⟩ := hJ
    exact done u1 u2 u3 u4 u5 u6 u7 u8 u9 nx h tk F9 N9
end
def lawB (lib heap : Addr) (m0 : Str → Option Value) : Str → Option Value := fun y => if y = "_law_heap" then some (.ref heap) else if y = "_law_library" then some (.ref lib) else m0 y
abbrev lawN (Y : Lay) (m0 : Str → Option Value) (u1 u2 u3 u4 u5 u6 u7 u8 u9 : Option Value) : Str → Option Value := lawM (lawB Y.lx Y.hx m0) u1 u2 u3 u4 u5 u6 u7 u8 u9
theorem lawB_of {h₀ h : Heap} {L lx hx : Addr} {m0 : Str → Option Value} {Y : Lay} (F : Fr h₀ L h (fun y => if y = "_law_heap" then some (.ref hx) else if y = "_law_library" then some (.ref lx) else m0 y)) (e1 : lx = Y.lx) (e2 : hx = Y.hx) : ∃ m0, Fr h₀ L h (lawB Y.lx Y.hx m0) := by
  subst e1
  subst e2
  exact ⟨m0, F⟩
theorem zero_of_lt {ρ : Addr → Nat} {Y : Lay} {L a : Addr} {o4 : Obj} {vs : List Value} {bs : List Blk} {ts : List Value} {news : List (Addr × Obj)} (h : ∀ q ∈ news, q.1 < a) (H : Led ρ Y L o4 vs bs ts news) : ρ a = 0 := H.zero_lt h
def CutMid (Mid : Shared → Prop) (f : Flow) (s' : Shared) : Prop := f = .next ∧ Mid s'
theorem cut_execs {M : Model} {A : Around} {env : Env} {st : Stmt} {rest : List Stmt} {Q : Flow → Shared → Prop} {E : Value → Shared → Prop} {s : Shared} (Mid : Shared → Prop) (h1 : wpAny M A (exec st env) (CutMid Mid) E s) (h2 : ∀ s', Mid s' → wpAny M A (execs rest env) Q E s') :
    wpAny M A (execs (st :: rest) env) Q E s := wpAny_execs_cons (wpAny_mono h1 (fun f s' h => by obtain ⟨rfl, hm⟩ := h; exact h2 s' hm) fun _ _ e => e)
def TurnMid (h₀ : Heap) (L : Addr) (s : Shared) (P : (Str → Option Value) → List (Addr × Obj) → Prop) (s' : Shared) : Prop :=
  ∃ (h : Heap) (tk : Nat) (m' : Str → Option Value) (news : List (Addr × Obj)), s' = { s with heap := h, toks := tk } ∧ Fr h₀ L h m' ∧ News h₀ L h news ∧ P m' news
theorem cutMid_intro {h₀ h : Heap} {L : Addr} {s : Shared} {P : (Str → Option Value) → List (Addr × Obj) → Prop} {tk : Nat} {m' : Str → Option Value} {news : List (Addr × Obj)} (F : Fr h₀ L h m') (N : News h₀ L h news) (p : P m' news) : CutMid (TurnMid h₀ L s P) .next { s with heap := h, toks := tk } :=
  ⟨rfl, h, tk, m', news, rfl, F, N, p⟩
def OpIs (op : Int) (nm : Str) (many : Int) : Prop := op < 12 ∧ nm = rowName op ∧ many = rowMany op ∨ op = 12 ∧ nm = "none" ∧ many = 2 ∨ 12 < op ∧ nm = "spread" ∧ many = 2
theorem rowMany_12 {op : Int} (h0 : 0 ≤ op) (h1 : op < 12) : rowMany op = 1 ∨ rowMany op = 2 := by
  rcases op_cases h0 h1 with rfl | rfl | rfl | rfl | rfl | rfl | rfl | rfl | rfl | rfl | rfl | rfl
  all_goals first | exact .inl rfl | exact .inr rfl
theorem opIs_many {op : Int} {nm : Str} {many : Int} (h0 : 0 ≤ op) (h : OpIs op nm many) : many = 1 ∨ many = 2 := by
  rcases h with ⟨h1, _, rfl⟩ | ⟨_, _, rfl⟩ | ⟨_, _, rfl⟩
  · exact rowMany_12 h0 h1
  · exact .inr rfl
  · exact .inr rfl
section
variable (ρ : Addr → Nat) (Y : Lay) (L : Addr) (o4 : Obj) (vs : List Value) (bs : List Blk) (ts : List Value) (m0 : Str → Option Value) (I : Addr) (oI : Obj)
def St1 (m' : Str → Option Value) (news : List (Addr × Obj)) : Prop :=
  ∃ (u1 : Option Value) (op : Int) (t : Tok) (u3 u4 u5 u6 u7 u8 u9 : Option Value), m' = lawN Y m0 u1 (some (.int op t)) u3 u4 u5 u6 u7 u8 u9 ∧ 0 ≤ op ∧ op < 15 ∧ (I, oI) ∈ news ∧ Led ρ Y L o4 vs bs ts news
def St2 (op : Int) (m' : Str → Option Value) (news : List (Addr × Obj)) : Prop :=
  ∃ (u1 : Option Value) (t : Tok) (nm : Str) (tn : Tok) (many : Int) (tm : Tok) (u5 u6 u7 u8 u9 : Option Value), m' = lawN Y m0 u1 (some (.int op t)) (some (.str nm tn)) (some (.int many tm)) u5 u6 u7 u8 u9 ∧ OpIs op nm many ∧ (I, oI) ∈ news ∧ Led ρ Y L o4 vs bs ts news
def St3 (op : Int) (nm : Str) (many : Int) (m' : Str → Option Value) (news : List (Addr × Obj)) : Prop :=
  ∃ (u1 : Option Value) (t tn tm : Tok) (sl : Addr) (us : List Value) (c : Nat) (u6 u7 u8 u9 : Option Value), m' = lawN Y m0 u1 (some (.int op t)) (some (.str nm tn)) (some (.int many tm)) (some (.ref sl)) u6 u7 u8 u9 ∧ (I, oI) ∈ news ∧ Led ρ Y L o4 vs bs ts news ∧ (sl, listOf us.toArray c) ∈ news ∧ ρ sl = 0 ∧ 1 ≤ us.length ∧ us.length ≤ 3 ∧ ∀ u ∈ us, u ∈ ts
end
section
variable {w : World} {prog : Program} {A : Around} {E : Value → Shared → Prop} {s : Shared} {h₀ : Heap} {L : Addr} {m : Str → Option Value} {news : List (Addr × Obj)} {env : Env} {l : Addr}
theorem delta_item {value slice : PySem.Expr} {t1 t2 t3 t4 t5 t6 t7 : Tok} {c : Nat} {k : Int} {u : Tok} {Q : Value → Shared → Prop}
    (N : News h₀ L s.heap news) (hm : (l, listOf [Value.int 0 t1, .int 0 t2, .int 0 t3, .int 0 t4, .int 0 t5, .int 1 t6, .int (-1) t7].toArray c) ∈ news) (h0 : 0 ≤ k) (hhi : k < 7) (h : ∀ d t, -1 ≤ d → d ≤ 1 → Q (.int d t) s)
    (hs : subscripted slice false (.ref l) (.int k u) = operate [.ref l, .int k u] (getItem (.ref l) (.int k u)) := by with_unfolding_all rfl) :
    wpAny (model prog w) A (subscriptTail value slice (.ref l) (.int k u)) Q E s := by
  refine item_any_m N hm h0 (by simpa using hhi) (by simp) (fun v hv => ?_) hs
  simp only [List.mem_cons, List.not_mem_nil, or_false] at hv
  rcases hv with rfl | rfl | rfl | rfl | rfl | rfl | rfl
  all_goals exact h _ _ (by decide) (by decide)
end
section
open PyProof.Rows.LCg
variable {prog : Program} {w : World} {A : Around} {s : Shared} {h₀ : Heap} {L : Addr} {m : Str → Option Value} {env : Env}
/-- a comprehension over a range, one name, no test; the item may change the ledger -/
theorem rangeG_all {elt : PySem.Expr} {x : Str} {scope : Scope} {cl : List (Str × Addr)} {P : Nat → Value → Prop} {n : Nat} {Fin : List Value → List (Addr × Obj) → Prop} {news : List (Addr × Obj)} (J : Nat → List Value → List (Addr × Obj) → Prop) (h0 : J 0 [] news)
    (turn : ∀ (i : Nat) (v : Value) (ys : List Value) (ns : List (Addr × Obj)), J i ys ns → ∀ (I : Addr) (oI : Obj) (C : Addr) (oC : Obj) (m₂ : Str → Option Value) (D : Addr) (h : Heap) (tk : Nat) (E' : Value → Shared → Prop), NsObj oC m₂ → m₂ x = some v → Fr h₀ L h m → News h₀ L h ((I, oI) :: (C, oC) :: (D, lst ys) :: ns) → Off3 I C D ns →
        wpAny (model prog w) A (eval elt (compEnvC scope cl C env)) (CompEnd h₀ L m { s with heap := h, toks := tk } I oI C oC D (lst ys) (fun _ => True) (fun y ns' => J (i + 1) (ys ++ [y]) ns')) E' { s with heap := h, toks := tk })
    (fin : ∀ ys ns, J n ys ns → Fin ys ns) :
    CompRest prog w A h₀ L m env elt x scope cl s (fun _ => True) P Fin n 0 [] news := by
  have all : ∀ k i ys ns, i + k = n → J i ys ns → CompRest prog w A h₀ L m env elt x scope cl s (fun _ => True) P Fin k i ys ns := by
    intro k
    induction k with
    | zero =>
      intro i ys ns e hJ
      obtain rfl : i = n := by omega
      exact CompRest.zero (fin ys ns hJ)
    | succ k ih =>
      intro i ys ns e hJ
      refine CompRest.succ fun v I oI C oC D m₂ h tk E' hv hC hx F N off ne => ?_
      refine wpAny_mono (turn i v ys ns hJ I oI C oC m₂ D h tk E' hC hx F N off) (fun y s' h' => ?_) fun _ _ x => x
      obtain ⟨h'', tk'', ns', rfl, F', N', off', hS, hJ'⟩ := h'
      exact ⟨h'', tk'', ns', rfl, F', N', off', hS, ih (i + 1) _ ns' (by omega) hJ'⟩
  exact all _ 0 [] _ (by omega) h0
end
section
variable {M : Model} {A : Around} {env : Env} {st : Stmt} {rest : List Stmt} {Q : Flow → Shared → Prop} {E : Value → Shared → Prop} {s : Shared} {h₀ : Heap} {ρ : Addr → Nat} {Y : Lay} {L : Addr} {o4 : Obj} {vs : List Value} {bs : List Blk} {ts : List Value} {m0 : Str → Option Value} {I : Addr} {oI : Obj} {nx : List (Addr × Obj)} {v1 v2 v3 v4 v5 v6 v7 v8 v9 : Option Value}
theorem cut_1 (_F : Fr h₀ L s.heap (lawN Y m0 v1 v2 v3 v4 v5 v6 v7 v8 v9)) (_H : Led ρ Y L o4 vs bs ts ((I, oI) :: nx)) (h1 : wpAny M A (exec st env) (CutMid (TurnMid h₀ L s (St1 ρ Y L o4 vs bs ts m0 I oI))) E s)
    (h2 : ∀ h tk (u1 : Option Value) (op : Int) (t : Tok) (u3 u4 u5 u6 u7 u8 u9 : Option Value) news, 0 ≤ op → op < 15 → Fr h₀ L h (lawN Y m0 u1 (some (.int op t)) u3 u4 u5 u6 u7 u8 u9) → News h₀ L h news → (I, oI) ∈ news → Led ρ Y L o4 vs bs ts news → wpAny M A (execs rest env) Q E { s with heap := h, toks := tk }) :
    wpAny M A (execs (st :: rest) env) Q E s := cut_execs _ h1 fun s' hm => by
  obtain ⟨h, tk, m', news, rfl, F, N, u1, op, t, u3, u4, u5, u6, u7, u8, u9, rfl, a, b, c, d⟩ := hm
  exact h2 h tk u1 op t u3 u4 u5 u6 u7 u8 u9 news a b F N c d
theorem cut_2 {op : Int} {t : Tok} (_F : Fr h₀ L s.heap (lawN Y m0 v1 (some (.int op t)) v3 v4 v5 v6 v7 v8 v9)) (_H : Led ρ Y L o4 vs bs ts nx) (_hI : (I, oI) ∈ nx) (h1 : wpAny M A (exec st env) (CutMid (TurnMid h₀ L s (St2 ρ Y L o4 vs bs ts m0 I oI op))) E s)
    (h2 : ∀ h tk (u1 : Option Value) (t : Tok) (nm : Str) (tn : Tok) (many : Int) (tm : Tok) (u5 u6 u7 u8 u9 : Option Value) news, OpIs op nm many → Fr h₀ L h (lawN Y m0 u1 (some (.int op t)) (some (.str nm tn)) (some (.int many tm)) u5 u6 u7 u8 u9) → News h₀ L h news → (I, oI) ∈ news → Led ρ Y L o4 vs bs ts news → wpAny M A (execs rest env) Q E { s with heap := h, toks := tk }) :
    wpAny M A (execs (st :: rest) env) Q E s := cut_execs _ h1 fun s' hm => by
  obtain ⟨h, tk, m', news, rfl, F, N, u1, t, nm, tn, many, tm, u5, u6, u7, u8, u9, rfl, a, c, d⟩ := hm
  exact h2 h tk u1 t nm tn many tm u5 u6 u7 u8 u9 news a F N c d
theorem cut_3 {op : Int} {t : Tok} {nm : Str} {tn : Tok} {many : Int} {tm : Tok} (_F : Fr h₀ L s.heap (lawN Y m0 v1 (some (.int op t)) (some (.str nm tn)) (some (.int many tm)) v5 v6 v7 v8 v9)) (_H : Led ρ Y L o4 vs bs ts nx) (_hI : (I, oI) ∈ nx) (h1 : wpAny M A (exec st env) (CutMid (TurnMid h₀ L s (St3 ρ Y L o4 vs bs ts m0 I oI op nm many))) E s)
    (h2 : ∀ h tk (u1 : Option Value) (t tn tm : Tok) (sl : Addr) (us : List Value) (c : Nat) (u6 u7 u8 u9 : Option Value) news, Fr h₀ L h (lawN Y m0 u1 (some (.int op t)) (some (.str nm tn)) (some (.int many tm)) (some (.ref sl)) u6 u7 u8 u9) → News h₀ L h news → (I, oI) ∈ news → Led ρ Y L o4 vs bs ts news → (sl, listOf us.toArray c) ∈ news → ρ sl = 0 → 1 ≤ us.length → us.length ≤ 3 → (∀ u ∈ us, u ∈ ts) → wpAny M A (execs rest env) Q E { s with heap := h, toks := tk }) :
    wpAny M A (execs (st :: rest) env) Q E s := cut_execs _ h1 fun s' hm => by
  obtain ⟨h, tk, m', news, rfl, F, N, u1, t, tn, tm, sl, us, c, u6, u7, u8, u9, rfl, hI, H, e1, e2, e3, e4, e5⟩ := hm
  exact h2 h tk u1 t tn tm sl us c u6 u7 u8 u9 news F N hI H e1 e2 e3 e4 e5
end
section
open PyProof.Rows.LCg
variable {prog : Program} {w : World} {A : Around} {s : Shared} {h₀ : Heap} {L : Addr} {m : Str → Option Value} {env : Env} {ρ : Addr → Nat} {Y : Lay} {o4 : Obj} {vs : List Value} {bs : List Blk} {ts : List Value} {I : Addr} {oI : Obj} {news : List (Addr × Obj)}
theorem comp_range_src {elt : PySem.Expr} {x : Str} {scope : Scope} {cl : List (Str × Addr)} {Fin : Shared → List Value → List (Addr × Obj) → Prop} {r : Addr} {b : Int} {t u v : Tok} {s₁ : Shared}
    (hh : A.handled = none) (F : Fr h₀ L s₁.heap m) (N : News h₀ L s₁.heap news) (hr : IsRange s₁.heap r 0 b 1 t u v) (hb : 0 ≤ b) (hb' : b ≤ 12)
    (h : ∀ g, CompRest prog w A h₀ L m env elt x scope cl { s₁ with heap := g } (fun _ => True) (fun i v => ∃ t, v = .int (0 + (i : Int)) t) (Fin { s₁ with heap := g }) b.toNat 0 [] news) :
    CompSrc prog w A h₀ L m env elt x scope cl Fin (.ref r) s₁ := by
  obtain ⟨n, rfl⟩ : ∃ n : Nat, b = (n : Int) := ⟨b.toNat, by omega⟩
  obtain ⟨r1, r2⟩ := range_facts n (by omega)
  exact CompSrc.range hh F N hr r1 r2 (by rw [sizeLine_eq]; omega) h
structure SomeJ (ρ : Addr → Nat) (Y : Lay) (L : Addr) (o4 : Obj) (vs : List Value) (bs : List Blk) (ts : List Value) (I : Addr) (oI : Obj) (i : Nat) (ys : List Value) (ns : List (Addr × Obj)) : Prop where
  len : ys.length = i
  all : ∀ y ∈ ys, y ∈ ts
  it : (I, oI) ∈ ns
  led : Led ρ Y L o4 vs bs ts ns
theorem SomeJ.next {i : Nat} {ys : List Value} {ns n' : List (Addr × Obj)} {I' C D : Addr} {oI' oC oD : Obj} {h' : Heap} {y : Value} {tk : Nat} {s₁ : Shared} (J : SomeJ ρ Y L o4 vs bs ts I oI i ys ns) (hI : ρ I = 0) (off : Off3 I' C D ns) (F : Fr h₀ L h' m) (N : News h₀ L h' n') (H : Led ρ Y L o4 vs bs ts n') (K : Keep0 ρ ((I', oI') :: (C, oC) :: (D, oD) :: ns) n') (hy : y ∈ ts) :
    CompEnd h₀ L m s₁ I' oI' C oC D oD (fun _ => True) (fun y ns' => SomeJ ρ Y L o4 vs bs ts I oI (i + 1) (ys ++ [y]) ns') y { s₁ with heap := h', toks := tk } := by
  have o := Off3.mem off
  have z1 : ρ I' = 0 := J.led.zero fun q hq => (o q hq).1
  have z2 : ρ C = 0 := J.led.zero fun q hq => (o q hq).2.1
  have z3 : ρ D = 0 := J.led.zero fun q hq => (o q hq).2.2
  have hmem : ∀ q ∈ n', q.1 ≠ I' → q.1 ≠ C → q.1 ≠ D → q ∈ n'.filter fun q => decide (q.1 ≠ I' ∧ q.1 ≠ C ∧ q.1 ≠ D) := fun q hq a b c => List.mem_filter.mpr ⟨hq, decide_eq_true ⟨a, b, c⟩⟩
  refine CompEnd.intro F N (n'.filter fun q => decide (q.1 ≠ I' ∧ q.1 ≠ C ∧ q.1 ≠ D)) (fun p hp => ?_) ?_ trivial ⟨by rw [List.length_append, J.len]; rfl, fun q hq => ?_, ?_, ?_⟩
  · rcases List.mem_cons.mp hp with rfl | hp
    · exact K.at (.head _) z1
    · rcases List.mem_cons.mp hp with rfl | hp
      · exact K.at (.tail _ (.head _)) z2
      · rcases List.mem_cons.mp hp with rfl | hp
        · exact K.at (.tail _ (.tail _ (.head _))) z3
        · exact (List.mem_filter.mp hp).1
  · have all : ∀ l : List (Addr × Obj), (∀ q ∈ l, q.1 ≠ I' ∧ q.1 ≠ C ∧ q.1 ≠ D) → Off3 I' C D l := by
      intro l
      induction l with
      | nil => exact fun _ => trivial
      | cons p r ih => exact fun h => ⟨h p (.head _), ih fun q hq => h q (.tail _ hq)⟩
    exact all _ fun q hq => of_decide_eq_true (List.mem_filter.mp hq).2
  · rcases List.mem_append.mp hq with hq | hq
    · exact J.all q hq
    · rw [List.mem_singleton.mp hq]; exact hy
  · have q := o _ J.it
    exact hmem _ (K.at (.tail _ (.tail _ (.tail _ J.it))) hI) q.1 q.2.1 q.2.2
  · exact H.res fun q hq hz => hmem q hq (fun e => hz (e ▸ z1)) (fun e => hz (e ▸ z2)) (fun e => hz (e ▸ z3))
end
def ItemEnd (h₀ : Heap) (L : Addr) (m : Str → Option Value) (s₁ : Shared) (led : List (Addr × Obj)) (P : Prop) (s₂ : Shared) : Prop := ∃ h' tk', s₂ = { s₁ with heap := h', toks := tk' } ∧ Fr h₀ L h' m ∧ News h₀ L h' led ∧ P
section
open PyProof.Rows.LCg
variable {prog : Program} {w : World} {A : Around} {s : Shared} {h₀ : Heap} {L : Addr} {m : Str → Option Value} {env : Env}
/-- a comprehension over a list, one name, no test; the item calls, the ledger stays -/
theorem nameC_all {elt : PySem.Expr} {x : Str} {scope : Scope} {cl : List (Str × Addr)} {S : List (Addr × Obj) → Prop} {us : List Value} {Fin : List Value → List (Addr × Obj) → Prop} {news : List (Addr × Obj)} (J : Nat → List Value → Prop) (hS : S news) (h0 : J 0 [])
    (turn : ∀ (i : Nat) (v : Value), us[i]? = some v → ∀ (I : Addr) (oI : Obj) (C : Addr) (oC : Obj) (m₂ : Str → Option Value) (D : Addr) (ys : List Value) (h : Heap) (tk : Nat) (E' : Value → Shared → Prop),
      J i ys → NsObj oC m₂ → m₂ x = some v → Fr h₀ L h m → News h₀ L h ((I, oI) :: (C, oC) :: (D, lst ys) :: news) →
      wpAny (model prog w) A (eval elt (compEnvC scope cl C env)) (fun y s'' => ItemEnd h₀ L m { s with heap := h, toks := tk } ((I, oI) :: (C, oC) :: (D, lst ys) :: news) (J (i + 1) (ys ++ [y])) s'') E' { s with heap := h, toks := tk })
    (fin : ∀ ys, J us.length ys → Fin ys news) : CompRest prog w A h₀ L m env elt x scope cl s S (fun i v => us.toArray[i]? = some v) Fin us.length 0 [] news := by
  have all : ∀ k i ys, i + k = us.length → J i ys → CompRest prog w A h₀ L m env elt x scope cl s S (fun i v => us.toArray[i]? = some v) Fin k i ys news := by
    intro k
    induction k with
    | zero =>
      intro i ys e hJ
      obtain rfl : i = us.length := by omega
      exact CompRest.zero (fin ys hJ)
    | succ k ih =>
      intro i ys e hJ
      refine CompRest.succ fun v I oI C oC D m₂ h tk E' hv hC hx F N off ne => ?_
      refine wpAny_mono (turn i v (by simpa using hv) I oI C oC m₂ D ys h tk E' hJ hC hx F N) (fun y s' h' => ?_) fun _ _ x => x
      obtain ⟨h'', tk', rfl, F', N', hJ'⟩ := h'
      exact CompEnd.intro F' N' news (fun _ q => q) off hS (ih (i + 1) _ (by omega) hJ')
  exact all _ 0 [] (by omega) h0
end
theorem ok_word {bs : List Blk} {v : Value} (h : ThingOk bs v) : ∃ w, ThingW bs v w := by
  rcases h with h | ⟨k, hk, rfl⟩
  · cases v with
    | int n t => exact ⟨_, rfl⟩
    | bool b => exact ⟨_, rfl⟩
    | str x t =>
      rcases h with rfl | rfl
      · exact ⟨20, .inl ⟨rfl, rfl⟩⟩
      · exact ⟨28, .inr ⟨rfl, rfl⟩⟩
    | _ => exact h.elim
  · exact ⟨_, k, hk, rfl, rfl⟩
/-- the words of so many things -/
structure WordsJ (bs : List Blk) (us : List Value) (i : Nat) (ys : List Value) : Prop where
  len : ys.length = i
  at_ : ∀ j u, j < i → us[j]? = some u → ∃ wd t, ys[j]? = some (.int wd t) ∧ ThingW bs u wd
theorem WordsJ.zero {bs : List Blk} {us : List Value} : WordsJ bs us 0 [] := ⟨rfl, fun _ _ h => absurd h (Nat.not_lt_zero _)⟩
theorem WordsJ.snoc {bs : List Blk} {us : List Value} {i : Nat} {ys : List Value} (h : WordsJ bs us i ys) {v : Value} {wd : Int} (hv : us[i]? = some v) (hw : ThingW bs v wd) (t : Tok) : WordsJ bs us (i + 1) (ys ++ [.int wd t]) := by
  refine ⟨by rw [List.length_append, h.len]; rfl, fun j u hj hu => ?_⟩
  by_cases e : j < i
  · obtain ⟨wd', t', q, r⟩ := h.at_ j u e hu
    exact ⟨wd', t', by rw [List.getElem?_append_left (by rw [h.len]; exact e)]; exact q, r⟩
  · obtain rfl : j = i := by omega
    rw [hv] at hu
    cases hu
    exact ⟨wd, t, by rw [List.getElem?_append_right (by rw [h.len]; exact Nat.le_refl _), h.len, Nat.sub_self]; rfl, hw⟩
section
variable (ρ : Addr → Nat) (Y : Lay) (L : Addr) (o4 : Obj) (vs : List Value) (bs : List Blk) (ts : List Value) (m0 : Str → Option Value) (I : Addr) (oI : Obj)
def St4 (op : Int) (nm : Str) (many : Int) (sl : Addr) (us : List Value) (m' : Str → Option Value) (news : List (Addr × Obj)) : Prop :=
  ∃ (u1 : Option Value) (t tn tm : Tok) (wl : Addr) (ws : List Value) (c c' : Nat) (u7 u8 u9 : Option Value), m' = lawN Y m0 u1 (some (.int op t)) (some (.str nm tn)) (some (.int many tm)) (some (.ref sl)) (some (.ref wl)) u7 u8 u9 ∧ (I, oI) ∈ news ∧ Led ρ Y L o4 vs bs ts news ∧ (sl, listOf us.toArray c) ∈ news ∧ (wl, listOf ws.toArray c') ∈ news ∧ ρ wl = 0 ∧ WordsJ bs us us.length ws
end
section
variable {M : Model} {A : Around} {env : Env} {st : Stmt} {rest : List Stmt} {Q : Flow → Shared → Prop} {E : Value → Shared → Prop} {s : Shared} {h₀ : Heap} {ρ : Addr → Nat} {Y : Lay} {L : Addr} {o4 : Obj} {vs : List Value} {bs : List Blk} {ts : List Value} {m0 : Str → Option Value} {I : Addr} {oI : Obj} {nx : List (Addr × Obj)} {v1 v2 v3 v4 v5 v6 v7 v8 v9 : Option Value}
theorem cut_4 {op : Int} {t : Tok} {nm : Str} {tn : Tok} {many : Int} {tm : Tok} {sl : Addr} {us : List Value} {c : Nat} (_F : Fr h₀ L s.heap (lawN Y m0 v1 (some (.int op t)) (some (.str nm tn)) (some (.int many tm)) (some (.ref sl)) v6 v7 v8 v9)) (_H : Led ρ Y L o4 vs bs ts nx) (_hI : (I, oI) ∈ nx) (_hs : (sl, listOf us.toArray c) ∈ nx) (h1 : wpAny M A (exec st env) (CutMid (TurnMid h₀ L s (St4 ρ Y L o4 vs bs ts m0 I oI op nm many sl us))) E s)
    (h2 : ∀ h tk (u1 : Option Value) (t tn tm : Tok) (wl : Addr) (ws : List Value) (c c' : Nat) (u7 u8 u9 : Option Value) news, Fr h₀ L h (lawN Y m0 u1 (some (.int op t)) (some (.str nm tn)) (some (.int many tm)) (some (.ref sl)) (some (.ref wl)) u7 u8 u9) → News h₀ L h news → (I, oI) ∈ news → Led ρ Y L o4 vs bs ts news → (sl, listOf us.toArray c) ∈ news → (wl, listOf ws.toArray c') ∈ news → ρ wl = 0 → WordsJ bs us us.length ws → wpAny M A (execs rest env) Q E { s with heap := h, toks := tk }) :
    wpAny M A (execs (st :: rest) env) Q E s := cut_execs _ h1 fun s' hm => by
  obtain ⟨h, tk, m', news, rfl, F, N, u1, t, tn, tm, wl, ws, c, c', u7, u8, u9, rfl, hI, H, e1, e2, e3, e4⟩ := hm
  exact h2 h tk u1 t tn tm wl ws c c' u7 u8 u9 news F N hI H e1 e2 e3 e4
end
theorem WordsJ.two {bs : List Blk} {us ws : List Value} (h : WordsJ bs us us.length ws) (h1 : 1 ≤ us.length) : ∃ w0 t0 w1 t01, ws[0]? = some (.int w0 t0) ∧ (1 < ws.length → ws[1]? = some (.int w1 t01)) ∧ (∃ u0, us[0]? = some u0 ∧ ThingW bs u0 w0) ∧ (1 < us.length → ∃ u1, us[1]? = some u1 ∧ ThingW bs u1 w1) := by
  have e0 : us[0]? = some us[0] := List.getElem?_eq_getElem h1
  obtain ⟨w0, t0, q0, r0⟩ := h.at_ 0 _ h1 e0
  by_cases h2 : 1 < us.length
  · have e1 : us[1]? = some us[1] := List.getElem?_eq_getElem h2
    obtain ⟨w1, t1, q1, r1⟩ := h.at_ 1 _ h2 e1
    exact ⟨w0, t0, w1, t1, q0, fun _ => q1, ⟨_, e0, r0⟩, fun _ => ⟨_, e1, r1⟩⟩
  · exact ⟨w0, t0, 0, 0, q0, fun q => absurd (h.len ▸ q) h2, ⟨_, e0, r0⟩, fun q => absurd q h2⟩
theorem plain_noref {bs : List Blk} {v : Value} {w : Int} (h : PlainIs v) (q : ThingW bs v w) : w.fmod 8 ≠ 1 := by
  cases v with
  | int n t =>
    cases q
    rw [Int.fmod_eq_emod_of_nonneg _ (by decide)]
    omega
  | bool b => cases q; cases b <;> decide
  | str x t => rcases q with ⟨_, rfl⟩ | ⟨_, rfl⟩ <;> decide
  | _ => exact h.elim
theorem one_noref {a : Nat} : ((a : Int) * 8 + 1).fmod 8 = 1 := by
  rw [Int.fmod_eq_emod_of_nonneg _ (by decide)]
  omega
theorem blk_in {vs : List Value} {bs : List Blk} {op w0 : Int} {v : Value} (hC : Coh vs bs) (hv : ThingOk bs v) (hw : ThingW bs v w0) (ho : isBlk op) : BlkIn vs op w0 := by
  rcases hv with hp | ⟨k, hk, rfl⟩
  · exact .inl (.inl ⟨plain_noref hp hw, rfl⟩)
  · obtain ⟨k', hk', e, rfl⟩ := hw
    obtain ⟨⟨th, c0⟩, ⟨wx, tx, c1, q1⟩, c2⟩ := hC k' hk'
    have kd : kdOf op = 0 ∧ hdOf op = 261 ∧ op < 9 ∨ kdOf op = 4 ∧ hdOf op = 165 ∧ ¬ op < 9 := by
      unfold kdOf hdOf
      by_cases h : op < 9
      · rw [if_pos h, if_pos h]; exact .inl ⟨rfl, rfl, h⟩
      · rw [if_neg h, if_neg h]; exact .inr ⟨rfl, rfl, h⟩
    cases hp : k'.pr with
    | true =>
      rw [hp] at c0
      obtain ⟨wy, ty, c3, q3⟩ := c2 hp
      rcases kd with ⟨e1, e2, e3⟩ | ⟨e1, e2, e3⟩
      · refine .inr ⟨k'.ad, th, ?_⟩
        rw [e2]
        unfold atOf
        by_cases h : op = 6 ∨ op = 8
        · rw [if_pos h]; exact ⟨ty, wy, rfl, c0, c3⟩
        · rw [if_neg h]; exact ⟨tx, wx, rfl, c0, c1⟩
      · refine .inl (.inr ⟨k'.ad, 261, th, rfl, c0, ?_⟩)
        rw [e1]
        decide
    | false =>
      rw [hp] at c0
      rcases kd with ⟨e1, e2, e3⟩ | ⟨e1, e2, e3⟩
      · refine .inl (.inr ⟨k'.ad, 165, th, rfl, c0, ?_⟩)
        rw [e1]
        decide
      · refine .inr ⟨k'.ad, th, ?_⟩
        have ha : atOf op = 0 := by
          unfold atOf
          rw [if_neg]
          omega
        rw [e2, ha]
        exact ⟨tx, wx, rfl, c0, c1⟩
def LawOff (m0 m : Str → Option Value) : Prop := ∀ y : Str, y ≠ "_law_turn" → y ≠ "_law_op" → y ≠ "_law_name" → y ≠ "_law_many" → y ≠ "_law_some" → y ≠ "_law_words" → y ≠ "_law_items_here" → y ≠ "_law_due_here" → y ≠ "_law_told" → m y = m0 y
theorem lawOff_base {m0 : Str → Option Value} {u1 u2 u3 u4 u5 u6 u7 u8 u9 : Option Value} : LawOff m0 (lawM m0 u1 u2 u3 u4 u5 u6 u7 u8 u9) := fun y q1 q2 q3 q4 q5 q6 q7 q8 q9 => by
  simp only [lawM, if_neg q1, if_neg q2, if_neg q3, if_neg q4, if_neg q5, if_neg q6, if_neg q7, if_neg q8, if_neg q9]
theorem lawOff_1 {m0 m : Str → Option Value} {v : Option Value} (h : LawOff m0 m) : LawOff m0 (fun y => if y = "_law_turn" then v else m y) := fun y q1 q2 q3 q4 q5 q6 q7 q8 q9 => (if_neg q1).trans (h y q1 q2 q3 q4 q5 q6 q7 q8 q9)
theorem lawOff_2 {m0 m : Str → Option Value} {v : Option Value} (h : LawOff m0 m) : LawOff m0 (fun y => if y = "_law_op" then v else m y) := fun y q1 q2 q3 q4 q5 q6 q7 q8 q9 => (if_neg q2).trans (h y q1 q2 q3 q4 q5 q6 q7 q8 q9)
theorem lawOff_3 {m0 m : Str → Option Value} {v : Option Value} (h : LawOff m0 m) : LawOff m0 (fun y => if y = "_law_name" then v else m y) := fun y q1 q2 q3 q4 q5 q6 q7 q8 q9 => (if_neg q3).trans (h y q1 q2 q3 q4 q5 q6 q7 q8 q9)
theorem lawOff_4 {m0 m : Str → Option Value} {v : Option Value} (h : LawOff m0 m) : LawOff m0 (fun y => if y = "_law_many" then v else m y) := fun y q1 q2 q3 q4 q5 q6 q7 q8 q9 => (if_neg q4).trans (h y q1 q2 q3 q4 q5 q6 q7 q8 q9)
theorem lawOff_5 {m0 m : Str → Option Value} {v : Option Value} (h : LawOff m0 m) : LawOff m0 (fun y => if y = "_law_some" then v else m y) := fun y q1 q2 q3 q4 q5 q6 q7 q8 q9 => (if_neg q5).trans (h y q1 q2 q3 q4 q5 q6 q7 q8 q9)
theorem lawOff_6 {m0 m : Str → Option Value} {v : Option Value} (h : LawOff m0 m) : LawOff m0 (fun y => if y = "_law_words" then v else m y) := fun y q1 q2 q3 q4 q5 q6 q7 q8 q9 => (if_neg q6).trans (h y q1 q2 q3 q4 q5 q6 q7 q8 q9)
theorem lawOff_7 {m0 m : Str → Option Value} {v : Option Value} (h : LawOff m0 m) : LawOff m0 (fun y => if y = "_law_items_here" then v else m y) := fun y q1 q2 q3 q4 q5 q6 q7 q8 q9 => (if_neg q7).trans (h y q1 q2 q3 q4 q5 q6 q7 q8 q9)
theorem lawOff_8 {m0 m : Str → Option Value} {v : Option Value} (h : LawOff m0 m) : LawOff m0 (fun y => if y = "_law_due_here" then v else m y) := fun y q1 q2 q3 q4 q5 q6 q7 q8 q9 => (if_neg q8).trans (h y q1 q2 q3 q4 q5 q6 q7 q8 q9)
theorem lawOff_9 {m0 m : Str → Option Value} {v : Option Value} (h : LawOff m0 m) : LawOff m0 (fun y => if y = "_law_told" then v else m y) := fun y q1 q2 q3 q4 q5 q6 q7 q8 q9 => (if_neg q9).trans (h y q1 q2 q3 q4 q5 q6 q7 q8 q9)
theorem lawM_off {m0 m : Str → Option Value} (h : LawOff m0 m) : m = lawM m0 (m "_law_turn") (m "_law_op") (m "_law_name") (m "_law_many") (m "_law_some") (m "_law_words") (m "_law_items_here") (m "_law_due_here") (m "_law_told") := lawM_of h
theorem lawP_off {m0 m : Str → Option Value} (h : LawOff m0 m) : LawP m0 m := lawP_of h
noncomputable def AllNe (a : Nat) : List Nat → Prop
  | [] => True
  | b :: r => a ≠ b ∧ AllNe a r
noncomputable def PairNe : List Nat → Prop
  | [] => True
  | a :: r => AllNe a r ∧ PairNe r
theorem AllNe.all {a : Nat} : ∀ {l : List Nat}, AllNe a l → ∀ b ∈ l, a ≠ b
  | _ :: _, h, _, .head _ => h.1
  | _ :: _, h, _, .tail _ q => AllNe.all h.2 _ q
theorem pairNe : ∀ {l : List Nat}, PairNe l → List.Pairwise (fun a b : Nat => a ≠ b) l
  | [], _ => .nil
  | _ :: _, h => .cons h.1.all (pairNe h.2)
theorem Sml.up {i : Nat} {v : Value} (h : Sml i v) : Sml (i + 1) v := fun n t e => Nat.le_trans (h n t e) (Nat.mul_le_mul_left 3 (Nat.pow_le_pow_right (by decide) (Nat.le_succ i)))
theorem Sit.up {vs : List Value} {bs : List Blk} {ts : List Value} {i : Nat} (S : Sit vs bs ts i) : Sit vs bs ts (i + 1) :=
  ⟨S.coh, S.thg, S.oks, S.nd, S.gap, S.fit, by have := S.vlen; omega, by have := S.blen; omega, by have := S.tlen; omega, S.tpos, fun v hv => (S.sml v hv).up, fun k hk => ⟨(S.smx k hk).1.up, (S.smx k hk).2.up⟩⟩
theorem law_end {h₀ h' : Heap} {L : Addr} {ρ : Addr → Nat} {Y : Lay} {o4 : Obj} {v4 : Option Value} {vs : List Value} {bs : List Blk} {ts : List Value} {nw : List (Addr × Obj)} {I : Addr} {oI : Obj} {s₁ : Shared} {Q : Flow → Shared → Prop} {f : Flow} {tk i : Nat} {m0 m' : Str → Option Value}
    (F : Fr h₀ L h' m') (N : News h₀ L h' nw) (H : Led ρ Y L o4 vs bs ts nw) (hI : (I, oI) ∈ nw) (hIz : ρ I = 0) (d4 : o4.data = .cell v4) (S : Sit vs bs ts (i + 1)) (hf : f = .next ∨ f = .cont) (hm : LawP m0 m') :
    LawPost h₀ L (LawJ Y L m0 (i + 1)) I oI s₁ Q f { s₁ with heap := h', toks := tk } := by
  have key : ∃ h'' tk' m'' nx, ({ s₁ with heap := h', toks := tk } : Shared) = { s₁ with heap := h'', toks := tk' } ∧ Fr h₀ L h'' m'' ∧ News h₀ L h'' ((I, oI) :: nx) ∧ (∀ p ∈ nx, p.1 ≠ I) ∧ LawJ Y L m0 (i + 1) m'' nx := by
    refine ⟨h', tk, m', nw.filter fun q => decide (q.1 ≠ I), rfl, F, fun q hq => ?_, fun p hp => of_decide_eq_true (List.mem_filter.mp hp).2, ρ, o4, v4, vs, bs, ts, H.res fun q hq hz => List.mem_filter.mpr ⟨hq, decide_eq_true fun e => hz (e ▸ hIz)⟩, d4, S, hm⟩
    rcases List.mem_cons.mp hq with rfl | hq
    · exact N _ hI
    · exact N _ (List.mem_filter.mp hq).1
  rcases hf with rfl | rfl
  · exact key
  · exact key
theorem name_spread {op : Int} (h0 : 0 ≤ op) (h1 : op < 12) : (rowName op == ("spread" : Str)) = false := by
  rcases op_cases h0 h1 with rfl | rfl | rfl | rfl | rfl | rfl | rfl | rfl | rfl | rfl | rfl | rfl
  all_goals decide +kernel
theorem eq_name_spread {prog : Program} {w : World} {A : Around} {E : Value → Shared → Prop} {s : Shared} {Q : Value → Shared → Prop} {op : Int} {t u : Tok} (h0 : 0 ≤ op) (h1 : op < 12) (h : Q (.bool false) s) : wpAny (model prog w) A (compareOp .Eq (.str (rowName op) t) (.str "spread" u)) Q E s := by
  refine eq_str ?_
  rw [name_spread h0 h1]
  exact h
section
variable {prog : Program} {w : World} {A : Around} {E : Value → Shared → Prop} {s : Shared} {h₀ : Heap} {L a b : Addr} {news : List (Addr × Obj)} {Q : Value → Shared → Prop}
theorem ne_tup3 {c x c' x' : Str} {n n' : Int} {t1 t2 t3 u1 u2 u3 : Tok} (N : News h₀ L s.heap news) (ha : (a, ({ cls := .type "tuple", data := .seq #[Value.str c t1, .str x t2, .int n t3] } : Obj)) ∈ news) (hb : (b, ({ cls := .type "tuple", data := .seq #[Value.str c' u1, .str x' u2, .int n' u3] } : Obj)) ∈ news)
    (hu : A.units + 64 < cLine) (o1 : PyData.strOk c = true) (o2 : PyData.strOk x = true) (e1 : c = c') (e2 : x = x') (e3 : n = n') (h : Q (.bool false) s) : wpAny (model prog w) A (compareOp .NotEq (.ref a) (.ref b)) Q E s := by
  subst e1 e2 e3
  refine ne_dataH (reads_tuple_at (News.get N ha) rfl rfl (ReadsAll.cons (Reads.str _ _) (ReadsAll.cons (Reads.str _ _) (ReadsAll.cons (Reads.int _ _) ReadsAll.nil)))) (reads_tuple_at (News.get N hb) rfl rfl (ReadsAll.cons (Reads.str _ _) (ReadsAll.cons (Reads.str _ _) (ReadsAll.cons (Reads.int _ _) ReadsAll.nil)))) (by simp [PySem.SeqAt.shaped, PyData.canLay0, PyData.canLayAll0, PyData.depth, PyData.depthAll, o1, o2]) (by simp [PySem.SeqAt.shaped, PyData.canLay0, PyData.canLayAll0, PyData.depth, PyData.depthAll, o1, o2]) hu ?_
  simpa [PyData.eqv, PyData.eqvAll] using h
theorem ne_tup4 {c x c' x' : Str} {n n' k k' : Int} {t1 t2 t3 t4 u1 u2 u3 u4 : Tok} (N : News h₀ L s.heap news) (ha : (a, ({ cls := .type "tuple", data := .seq #[Value.str c t1, .str x t2, .int n t3, .int k t4] } : Obj)) ∈ news) (hb : (b, ({ cls := .type "tuple", data := .seq #[Value.str c' u1, .str x' u2, .int n' u3, .int k' u4] } : Obj)) ∈ news)
    (hu : A.units + 64 < cLine) (o1 : PyData.strOk c = true) (o2 : PyData.strOk x = true) (e1 : c = c') (e2 : x = x') (e3 : n = n') (e4 : k = k') (h : Q (.bool false) s) : wpAny (model prog w) A (compareOp .NotEq (.ref a) (.ref b)) Q E s := by
  subst e1 e2 e3 e4
  refine ne_dataH (reads_tuple_at (News.get N ha) rfl rfl (ReadsAll.cons (Reads.str _ _) (ReadsAll.cons (Reads.str _ _) (ReadsAll.cons (Reads.int _ _) (ReadsAll.cons (Reads.int _ _) ReadsAll.nil))))) (reads_tuple_at (News.get N hb) rfl rfl (ReadsAll.cons (Reads.str _ _) (ReadsAll.cons (Reads.str _ _) (ReadsAll.cons (Reads.int _ _) (ReadsAll.cons (Reads.int _ _) ReadsAll.nil))))) (by simp [PySem.SeqAt.shaped, PyData.canLay0, PyData.canLayAll0, PyData.depth, PyData.depthAll, o1, o2]) (by simp [PySem.SeqAt.shaped, PyData.canLay0, PyData.canLayAll0, PyData.depth, PyData.depthAll, o1, o2]) hu ?_
  simpa [PyData.eqv, PyData.eqvAll] using h
end
theorem name_ok {op : Int} (h0 : 0 ≤ op) (h1 : op < 12) : PyData.strOk (rowName op) = true := by
  rcases op_cases h0 h1 with rfl | rfl | rfl | rfl | rfl | rfl | rfl | rfl | rfl | rfl | rfl | rfl
  all_goals decide +kernel
/-! the plain law: what run tells and what the lists tell are one -/
theorem fmod8_mul (n : Int) : (n * 8).fmod 8 = 0 := by
  rw [Int.fmod_eq_emod_of_nonneg _ (by decide)]
  omega
theorem fdiv8_mul (n : Int) : (n * 8).fdiv 8 = n := by
  rw [Int.fdiv_eq_ediv_of_nonneg _ (by decide)]
  omega
section
variable {bs bs' : List Blk} {vs : List Value} {ts : List Value} {i : Nat} {u v : Value} {w w' op : Int}
theorem thing_num (h : ThingW bs u w) (hw : w.fmod 8 = 0) : ∃ n t, u = .int n t ∧ w = n * 8 := by
  cases u with
  | int n t => exact ⟨n, t, rfl, h⟩
  | bool b => cases h; cases b <;> exact absurd hw (by decide)
  | str x t => rcases h with ⟨_, rfl⟩ | ⟨_, rfl⟩ <;> exact absurd hw (by decide)
  | ref b =>
    obtain ⟨k, _, _, rfl⟩ := h
    rw [one_noref] at hw
    exact absurd hw (by decide)
  | _ => exact h.elim
theorem thing_nonum (h : ThingW bs u w) (hw : w.fmod 8 ≠ 0) : ∃ k, KindIs bs u k ∧ NoNum k := by
  cases u with
  | int n t =>
    cases h
    exact absurd (fmod8_mul n) hw
  | bool b => exact ⟨"other", rfl, .inl rfl⟩
  | str x t => exact ⟨"other", rfl, .inl rfl⟩
  | ref b =>
    obtain ⟨k, hk, e, rfl⟩ := h
    refine ⟨_, ⟨k, hk, e, rfl⟩, ?_⟩
    cases k.pr
    · exact .inr (.inr rfl)
    · exact .inr (.inl rfl)
  | _ => exact h.elim
theorem thing_bad (hC : Coh vs bs) (h : ThingW bs u w) (ho : isBlk op) (hk : IsKind vs w (kdOf op) false) : ∃ k, KindIs bs u k ∧ BadKind op k := by
  cases u with
  | int n t => exact ⟨"number", rfl, .inl rfl⟩
  | bool b => exact ⟨"other", rfl, .inr (.inl rfl)⟩
  | str x t => exact ⟨"other", rfl, .inr (.inl rfl)⟩
  | ref b =>
    obtain ⟨k, hk1, e, rfl⟩ := h
    refine ⟨_, ⟨k, hk1, e, rfl⟩, .inr (.inr ?_)⟩
    obtain ⟨⟨th, c0⟩, _⟩ := hC k hk1
    rcases hk with ⟨z, _⟩ | ⟨ad, hdr, th', e1, e2, _, e4⟩
    · exact absurd one_noref z
    · obtain rfl : k.ad = ad := by omega
      rw [c0] at e2
      injection e2 with e2
      injection e2 with e2
      unfold kdOf at e4
      cases hp : k.pr with
      | true =>
        rw [hp] at e2
        by_cases q : op < 9
        · rw [if_pos q, ← e2] at e4
          exact absurd e4 (by decide)
        · rw [if_neg q]
          rfl
      | false =>
        rw [hp] at e2
        by_cases q : op < 9
        · rw [if_pos q]
          rfl
        · rw [if_neg q, ← e2] at e4
          exact absurd e4 (by decide)
  | _ => exact h.elim
/-- one block for one list -/
def OneB (bs : List Blk) : Prop := ∀ k ∈ bs, ∀ k' ∈ bs, k'.b = k.b → k' = k
theorem thing_fun (one : OneB bs) (h : ThingW bs u w) (h' : ThingW bs u w') : w = w' := by
  cases u with
  | int n t => cases h; cases h'; rfl
  | bool b => cases h; cases h'; rfl
  | str x t =>
    rcases h with ⟨rfl, rfl⟩ | ⟨rfl, rfl⟩ <;> rcases h' with ⟨e, rfl⟩ | ⟨e, rfl⟩
    · rfl
    · exact absurd e (by decide +kernel)
    · exact absurd e (by decide +kernel)
    · rfl
  | ref b =>
    obtain ⟨k, hk, rfl, rfl⟩ := h
    obtain ⟨k', hk', e, rfl⟩ := h'
    rw [one k hk k' hk' e]
  | _ => exact h.elim
theorem thing_w_mono (s : ∀ k ∈ bs, k ∈ bs') (h : ThingW bs u w) : ThingW bs' u w := by
  cases u with
  | int n t => exact h
  | bool b => exact h
  | str x t => exact h
  | ref b =>
    obtain ⟨k, hk, e⟩ := h
    exact ⟨k, s k hk, e⟩
  | _ => exact h.elim
theorem thing_ok_mono (s : ∀ k ∈ bs, k ∈ bs') (h : ThingOk bs u) : ThingOk bs' u := by
  rcases h with h | ⟨k, hk, e⟩
  · exact .inl h
  · exact .inr ⟨k, s k hk, e⟩
theorem Sit.tell (S : Sit vs bs ts i) (hv : ThingOk bs v) (hs : Sml (i + 1) v) : Sit vs bs (ts ++ [v]) (i + 1) where
  coh := S.coh
  thg := S.thg
  oks t ht := by
    rcases List.mem_append.mp ht with ht | ht
    · exact S.oks t ht
    · rw [List.mem_singleton.mp ht]; exact hv
  nd := S.nd
  gap := S.gap
  fit := S.fit
  vlen := by have := S.vlen; omega
  blen := by have := S.blen; omega
  tlen := by have := S.tlen; rw [List.length_append, List.length_singleton]; omega
  tpos := by rw [List.length_append, List.length_singleton]; omega
  sml t ht := by
    rcases List.mem_append.mp ht with ht | ht
    · exact (S.sml t ht).up
    · rw [List.mem_singleton.mp ht]; exact hs
  smx k hk := ⟨(S.smx k hk).1.up, (S.smx k hk).2.up⟩
theorem get_app {a b : List Value} {j : Nat} {x : Value} (h : a[j]? = some x) : (a ++ b)[j]? = some x := by
  rw [List.getElem?_append_left (lt_of_get? h)]
  exact h
theorem sml_ref {b : Addr} : Sml i (.ref b) := fun n t e => by cases e
theorem Sit.new (S : Sit vs bs ts i) {k1 : Blk} {w0 w1 : Int} {t0 t1 th : Tok} (had : k1.ad = vs.length) (ox : ThingOk bs k1.x) (oy : ThingOk bs k1.y) (sx : Sml i k1.x) (sy : Sml i k1.y) (qx : ThingW bs k1.x w0) (qy : k1.pr = true → ThingW bs k1.y w1)
    {tail : List Value} (htl : tail = if k1.pr then [Value.int w0 t0, Value.int w1 t1] else [Value.int w0 t0]) : Sit (vs ++ [Value.int (if k1.pr then 261 else 165) th] ++ tail) (bs ++ [k1]) (ts ++ [.ref k1.b]) (i + 1) := by
  have sub : ∀ k ∈ bs, k ∈ bs ++ [k1] := fun k hk => List.mem_append_left _ hk
  have m1 : k1 ∈ bs ++ [k1] := List.mem_append_right _ (.head _)
  have hlen : (vs ++ [Value.int (if k1.pr then 261 else 165) th] ++ tail).length = vs.length + sz k1 := by
    rw [List.length_append, List.length_append, List.length_singleton, htl]
    unfold sz
    cases k1.pr <;> simp <;> omega
  have hsz : sz k1 ≤ 3 := by unfold sz; cases k1.pr <;> decide
  have hbs : ∀ k ∈ bs ++ [k1], k ∈ bs ∨ k = k1 := fun k hk => by
    rcases List.mem_append.mp hk with hk | hk
    · exact .inl hk
    · exact .inr (List.mem_singleton.mp hk)
  refine ⟨fun k hk => ?_, fun k hk => ?_, fun t ht => ?_, ?_, fun k hk k' hk' hne => ?_, fun k hk => ?_, ?_, ?_, ?_, ?_, fun v hv => ?_, fun k hk => ?_⟩
  · rcases hbs k hk with hk | rfl
    · obtain ⟨⟨th, c0⟩, ⟨wx, tx, c1, q1⟩, c2⟩ := S.coh k hk
      refine ⟨⟨th, get_app (get_app c0)⟩, ⟨wx, tx, get_app (get_app c1), thing_w_mono sub q1⟩, fun hp => ?_⟩
      obtain ⟨wy, ty, c3, q3⟩ := c2 hp
      exact ⟨wy, ty, get_app (get_app c3), thing_w_mono sub q3⟩
    · have e0 : ((k.ad : Int) + 1 + 0).toNat = vs.length + 1 := by omega
      have e1 : ((k.ad : Int) + 1 + 1).toNat = vs.length + 2 := by omega
      rw [e0, e1, had]
      refine ⟨⟨th, get_app ?_⟩, ⟨w0, t0, ?_, thing_w_mono sub qx⟩, fun hp => ⟨w1, t1, ?_, thing_w_mono sub (qy hp)⟩⟩
      · rw [List.getElem?_append_right (Nat.le_refl _), Nat.sub_self]; rfl
      · rw [List.append_assoc, List.getElem?_append_right (by omega), htl, show vs.length + 1 - vs.length = 1 by omega]
        cases k.pr <;> rfl
      · rw [List.append_assoc, List.getElem?_append_right (by omega), htl, show vs.length + 2 - vs.length = 2 by omega, hp]
        rfl
  · rcases hbs k hk with hk | rfl
    · exact ⟨thing_ok_mono sub (S.thg k hk).1, thing_ok_mono sub (S.thg k hk).2⟩
    · exact ⟨thing_ok_mono sub ox, thing_ok_mono sub oy⟩
  · rcases List.mem_append.mp ht with ht | ht
    · exact thing_ok_mono sub (S.oks t ht)
    · rw [List.mem_singleton.mp ht]
      exact .inr ⟨k1, m1, rfl⟩
  · rw [List.map_append]
    refine List.nodup_append.mpr ⟨S.nd, by simp, fun a ha b hb e => ?_⟩
    obtain ⟨k, hk, rfl⟩ := List.mem_map.mp ha
    have hb' : b = k1.ad := by simpa using hb
    have := S.fit k hk
    have : 2 ≤ sz k := by unfold sz; cases k.pr <;> decide
    omega
  · rcases hbs k hk with q | e <;> rcases hbs k' hk' with q' | e'
    · exact S.gap k q k' q' hne
    · exact .inl (by have := S.fit k q; rw [e', had]; exact this)
    · exact .inr (by have := S.fit k' q'; rw [e, had]; exact this)
    · exact absurd (by rw [e, e']) hne
  · rw [hlen]
    rcases hbs k hk with hk | rfl
    · have := S.fit k hk; omega
    · omega
  · rw [hlen]; have := S.vlen; omega
  · rw [List.length_append, List.length_singleton]; have := S.blen; omega
  · rw [List.length_append, List.length_singleton]; have := S.tlen; omega
  · rw [List.length_append, List.length_singleton]; omega
  · rcases List.mem_append.mp hv with hv | hv
    · exact (S.sml v hv).up
    · rw [List.mem_singleton.mp hv]; exact sml_ref
  · rcases hbs k hk with hk | rfl
    · exact ⟨(S.smx k hk).1.up, (S.smx k hk).2.up⟩
    · exact ⟨sx.up, sy.up⟩
theorem map_inj {k k' : Blk} (hnd : (bs.map (·.ad)).Nodup) (hk : k ∈ bs) (hk' : k' ∈ bs) (e : k.ad = k'.ad) : k = k' := by
  induction bs with
  | nil => cases hk
  | cons p r ih =>
    rw [List.map_cons] at hnd
    obtain ⟨h1, h2⟩ := List.nodup_cons.mp hnd
    rcases List.mem_cons.mp hk with q | q <;> rcases List.mem_cons.mp hk' with q' | q'
    · rw [q, q']
    · exact absurd (List.mem_map.mpr ⟨k', q', by rw [← e, q]⟩) h1
    · exact absurd (List.mem_map.mpr ⟨k, q, by rw [e, q']⟩) h1
    · exact ih h2 q q'
theorem set_mem {b : Addr} {k k1 : Blk} (h : k ∈ setBlk bs b k1) : k = k1 ∨ k ∈ bs ∧ k.b ≠ b := by
  obtain ⟨p, hp, rfl⟩ := List.mem_map.mp h
  by_cases e : p.b = b
  · exact .inl (if_pos e)
  · refine .inr ?_
    rw [if_neg e]
    exact ⟨hp, e⟩
theorem set_has0 {k0 k1 : Blk} (h : k0 ∈ bs) : k1 ∈ setBlk bs k0.b k1 := List.mem_map.mpr ⟨k0, h, if_pos rfl⟩
theorem set_has {b : Addr} {k k1 : Blk} (h : k ∈ bs) (e : k.b ≠ b) : k ∈ setBlk bs b k1 := List.mem_map.mpr ⟨k, h, if_neg e⟩
theorem set_w {k0 k1 : Blk} (one : OneB bs) (h0 : k0 ∈ bs) (e2 : k1.b = k0.b) (e3 : k1.ad = k0.ad) (h : ThingW bs u w) : ThingW (setBlk bs k0.b k1) u w := by
  cases u with
  | int n t => exact h
  | bool b => exact h
  | str x t => exact h
  | ref b =>
    obtain ⟨k, hk, rfl, rfl⟩ := h
    by_cases e : k.b = k0.b
    · have := one k0 h0 k hk e
      subst this
      exact ⟨k1, set_has0 h0, e2, by rw [e3]⟩
    · exact ⟨k, set_has hk e, rfl, rfl⟩
  | _ => exact h.elim
theorem set_ok {k0 k1 : Blk} (h0 : k0 ∈ bs) (e2 : k1.b = k0.b) (h : ThingOk bs u) : ThingOk (setBlk bs k0.b k1) u := by
  rcases h with h | ⟨k, hk, rfl⟩
  · exact .inl h
  · by_cases e : k.b = k0.b
    · exact .inr ⟨k1, set_has0 h0, by rw [e2, e]⟩
    · exact .inr ⟨k, set_has hk e, rfl⟩
theorem Sit.set (S : Sit vs bs ts i) (one : OneB bs) {k0 k1 : Blk} (h0 : k0 ∈ bs) {at_ : Nat} {w1 : Int} {t1 : Tok} (hat : at_ = 0 ∨ at_ = 1 ∧ k0.pr = true) (e2 : k1.b = k0.b) (e3 : k1.ad = k0.ad) (e5 : k1.pr = k0.pr)
    (ou : ThingOk bs u) (qu : ThingW bs u w1) (su : Sml i u) (ex : k1.x = if at_ = 0 then u else k0.x) (ey : k1.y = if at_ = 0 then k0.y else u) :
    Sit (vs.set (k0.ad + 1 + at_) (.int w1 t1)) (setBlk bs k0.b k1) ts i := by
  have sz1 : sz k1 = sz k0 := by unfold sz; rw [e5]
  have hpos : 1 + at_ < sz k0 := by
    unfold sz
    rcases hat with rfl | ⟨rfl, hp⟩
    · cases k0.pr <;> decide
    · rw [hp]; decide
  have hfit := S.fit k0 h0
  have same : ∀ j : Nat, j ≠ k0.ad + 1 + at_ → (vs.set (k0.ad + 1 + at_) (Value.int w1 t1))[j]? = vs[j]? := fun j hj => List.getElem?_set_ne (Ne.symm hj)
  have here : (vs.set (k0.ad + 1 + at_) (Value.int w1 t1))[k0.ad + 1 + at_]? = some (.int w1 t1) := List.getElem?_set_self (by omega)
  have a0 : ∀ k : Blk, ((k.ad : Int) + 1 + 0).toNat = k.ad + 1 + 0 := fun k => toNat_a0 _
  have a1 : ∀ k : Blk, ((k.ad : Int) + 1 + 1).toNat = k.ad + 1 + 1 := fun k => toNat_a1 _
  refine ⟨fun k hk => ?_, fun k hk => ?_, fun t ht => set_ok h0 e2 (S.oks t ht), ?_, fun k hk k' hk' hne => ?_, fun k hk => ?_, ?_, ?_, S.tlen, S.tpos, S.sml, fun k hk => ?_⟩
  · rcases set_mem hk with rfl | ⟨hk, hne⟩
    · obtain ⟨⟨th, c0⟩, ⟨wx, tx, c1, q1⟩, c2⟩ := S.coh k0 h0
      rw [a0] at c1
      rw [e3, e5]
      have b0 : ((k0.ad : Int) + 1 + 0).toNat = k0.ad + 1 + 0 := a0 k0
      have b1 : ((k0.ad : Int) + 1 + 1).toNat = k0.ad + 1 + 1 := a1 k0
      rw [b0, b1]
      refine ⟨⟨th, by rw [same _ (by omega)]; exact c0⟩, ?_, fun hp => ?_⟩
      · rcases hat with rfl | ⟨rfl, _⟩
        · rw [if_pos rfl] at ex
          exact ⟨w1, t1, here, by rw [ex]; exact set_w one h0 e2 e3 qu⟩
        · rw [if_neg (by decide)] at ex
          exact ⟨wx, tx, by rw [same _ (by omega)]; exact c1, by rw [ex]; exact set_w one h0 e2 e3 q1⟩
      · obtain ⟨wy, ty, c3, q3⟩ := c2 hp
        rw [a1] at c3
        rcases hat with rfl | ⟨rfl, _⟩
        · rw [if_pos rfl] at ey
          exact ⟨wy, ty, by rw [same _ (by omega)]; exact c3, by rw [ey]; exact set_w one h0 e2 e3 q3⟩
        · rw [if_neg (by decide)] at ey
          exact ⟨w1, t1, here, by rw [ey]; exact set_w one h0 e2 e3 qu⟩
    · obtain ⟨⟨th, c0⟩, ⟨wx, tx, c1, q1⟩, c2⟩ := S.coh k hk
      have hd : k.ad ≠ k0.ad := fun e => hne (by rw [map_inj S.nd hk h0 e])
      have hs2 : 2 ≤ sz k := by unfold sz; cases k.pr <;> decide
      have hgap := S.gap k hk k0 h0 hd
      rw [a0] at c1 ⊢
      rw [a1]
      refine ⟨⟨th, by rw [same _ (by omega)]; exact c0⟩, ⟨wx, tx, by rw [same _ (by omega)]; exact c1, set_w one h0 e2 e3 q1⟩, fun hp => ?_⟩
      obtain ⟨wy, ty, c3, q3⟩ := c2 hp
      have hs3 : sz k = 3 := by unfold sz; rw [hp]; rfl
      rw [a1] at c3
      exact ⟨wy, ty, by rw [same _ (by omega)]; exact c3, set_w one h0 e2 e3 q3⟩
  · rcases set_mem hk with rfl | ⟨hk, hne⟩
    · rw [ex, ey]
      have := S.thg k0 h0
      rcases hat with rfl | ⟨rfl, _⟩
      · rw [if_pos rfl, if_pos rfl]; exact ⟨set_ok h0 e2 ou, set_ok h0 e2 this.2⟩
      · rw [if_neg (by decide), if_neg (by decide)]; exact ⟨set_ok h0 e2 this.1, set_ok h0 e2 ou⟩
    · exact ⟨set_ok h0 e2 (S.thg k hk).1, set_ok h0 e2 (S.thg k hk).2⟩
  · have e : (setBlk bs k0.b k1).map (·.ad) = bs.map (·.ad) := by
      unfold setBlk
      rw [List.map_map]
      refine List.map_congr_left fun q hq => ?_
      by_cases e : q.b = k0.b
      · have := one k0 h0 q hq e
        subst this
        simp [e3]
      · simp [e]
    rw [e]
    exact S.nd
  · rcases set_mem hk with q | ⟨q, hn⟩ <;> rcases set_mem hk' with q' | ⟨q', hn'⟩
    · exact absurd (by rw [q, q']) hne
    · rw [q] at hne ⊢
      rw [sz1, e3]; exact S.gap k0 h0 k' q' (by rw [← e3]; exact hne)
    · rw [q'] at hne ⊢
      rw [sz1, e3]; exact S.gap k q k0 h0 (by rw [← e3]; exact hne)
    · exact S.gap k q k' q' hne
  · rw [List.length_set]
    rcases set_mem hk with rfl | ⟨hk, hn⟩
    · rw [sz1, e3]; exact hfit
    · exact S.fit k hk
  · rw [List.length_set]; exact S.vlen
  · unfold setBlk; rw [List.length_map]; exact S.blen
  · rcases set_mem hk with rfl | ⟨hk, hn⟩
    · rw [ex, ey]
      have := S.smx k0 h0
      rcases hat with rfl | ⟨rfl, _⟩
      · rw [if_pos rfl, if_pos rfl]; exact ⟨su, this.2⟩
      · rw [if_neg (by decide), if_neg (by decide)]; exact ⟨this.1, su⟩
    · exact S.smx k hk
end
/-! the plain law of spread -/
section
variable {bs : List Blk} {vs : List Value} {ts : List Value} {i : Nat} {v0 v : Value} {w0 w : Int}
def Known (bs : List Blk) (w : Int) : Prop := ∃ v, ThingOk bs v ∧ ThingW bs v w
theorem good_words (hC : Coh vs bs) (hT : Things bs) : GoodW vs (Known bs) := by
  rintro w ⟨v, hv, hw⟩
  rcases hv with hp | ⟨k, hk, rfl⟩
  · exact .inl (plain_noref hp hw)
  · obtain ⟨k', hk', e, rfl⟩ := hw
    obtain ⟨⟨th, c0⟩, ⟨wx, tx, c1, q1⟩, c2⟩ := hC k' hk'
    have b0 : ((k'.ad : Int) + 1 + 0).toNat = k'.ad + 1 := toNat_a0 _
    have b1 : ((k'.ad : Int) + 1 + 1).toNat = k'.ad + 2 := toNat_a1 _
    rw [b0] at c1
    rw [b1] at c2
    cases hp : k'.pr with
    | false =>
      rw [hp] at c0
      exact .inr (.inl ⟨_, th, rfl, c0⟩)
    | true =>
      rw [hp] at c0
      obtain ⟨wy, ty, c3, q3⟩ := c2 hp
      exact .inr (.inr ⟨_, th, tx, ty, wx, wy, rfl, c0, c1, c3, k'.y, (hT k' hk').2, q3⟩)
/-- words of the firsts of so many blocks -/
def FirstW (bs : List Blk) (ks : List Blk) (acc : List Value) : Prop := acc.length = ks.length ∧ ∀ (j : Nat) (k : Blk), ks[j]? = some k → ∃ (wd : Int) (t : Tok), acc[j]? = some (Value.int wd t) ∧ ThingW bs k.x wd
theorem chain_steps (hC : Coh vs bs) (one : OneB bs) {ks : List Blk} (h : Chain bs v0 ks v) (h0 : ThingW bs v0 w0) : ∃ w acc, ThingW bs v w ∧ Steps vs w0 ks.length w acc ∧ FirstW bs ks acc := by
  induction h with
  | nil => exact ⟨w0, [], h0, .nil, rfl, fun j k hk => by simp at hk⟩
  | @snoc ks k h1 h2 h3 ih =>
    obtain ⟨w, acc, q, st, fl, fw⟩ := ih
    obtain ⟨k', hk', e, rfl⟩ := q
    obtain rfl := one k h2 k' hk' e
    obtain ⟨⟨th, c0⟩, ⟨wx, tx, c1, q1⟩, c2⟩ := hC k' hk'
    obtain ⟨wy, ty, c3, q3⟩ := c2 h3
    have b0 : ((k'.ad : Int) + 1 + 0).toNat = k'.ad + 1 := toNat_a0 _
    have b1 : ((k'.ad : Int) + 1 + 1).toNat = k'.ad + 2 := toNat_a1 _
    rw [b0] at c1
    rw [b1] at c3
    rw [h3] at c0
    refine ⟨wy, acc ++ [.int wx tx], q3, by rw [List.length_append, List.length_singleton]; exact .snoc st c0 c1 c3, by rw [List.length_append, List.length_append, fl]; rfl, fun j k hk => ?_⟩
    by_cases hj : j < ks.length
    · rw [List.getElem?_append_left hj] at hk
      obtain ⟨wd, t, e1, e2⟩ := fw j k hk
      exact ⟨wd, t, by rw [List.getElem?_append_left (by omega)]; exact e1, e2⟩
    · have hj2 : j < (ks ++ [k']).length := by
        rcases Nat.lt_or_ge j (ks ++ [k']).length with q | q
        · exact q
        · rw [List.getElem?_eq_none q] at hk; cases hk
      rw [List.length_append, List.length_singleton] at hj2
      obtain rfl : j = ks.length := by omega
      rw [List.getElem?_append_right (Nat.le_refl _), Nat.sub_self] at hk
      cases hk
      exact ⟨wx, tx, by rw [List.getElem?_append_right (by omega), fl, Nat.sub_self]; rfl, q1⟩
theorem chain_pre {ks : List Blk} {k : Blk} (h : Chain bs v0 ks v) (hk : k ∈ ks) : ∃ ks1, ks1.length < ks.length ∧ Chain bs v0 ks1 (.ref k.b) := by
  induction h with
  | nil => cases hk
  | @snoc ks k' h1 h2 h3 ih =>
    rcases List.mem_append.mp hk with hk | hk
    · obtain ⟨ks1, q, c⟩ := ih hk
      exact ⟨ks1, by rw [List.length_append, List.length_singleton]; omega, c⟩
    · rw [List.mem_singleton.mp hk]
      exact ⟨ks, by rw [List.length_append, List.length_singleton]; omega, h1⟩
theorem Steps.app {x y : Int} {p n : Nat} {a1 a2 : List Value} (h1 : Steps vs w0 p y a1) (h2 : Steps vs y n x a2) : Steps vs w0 (p + n) x (a1 ++ a2) := by
  induction h2 with
  | nil => rw [List.append_nil]; exact h1
  | snoc _ b c d ih => rw [← List.append_assoc]; exact .snoc ih b c d
theorem Steps.cut {x : Int} {p : Nat} : ∀ {n : Nat} {acc : List Value}, Steps vs w0 (p + n) x acc → ∃ y a1 a2, Steps vs w0 p y a1 ∧ Steps vs y n x a2
  | 0, acc, h => ⟨x, acc, [], h, .nil⟩
  | n + 1, acc, h => by
    cases h with
    | snoc h1 b c d =>
      obtain ⟨y, a1, a2, q1, q2⟩ := Steps.cut (n := n) h1
      exact ⟨y, a1, _, q1, .snoc q2 b c d⟩
/-- a ring has no end -/
theorem ring_no {y : Int} {p q : Nat} {a1 a2 : List Value} {ad : Nat} (hy : y = (ad : Int) * 8 + 1) (hq : q < p) (h1 : Steps vs w0 p y a1) (h2 : Steps vs w0 q y a2) : ∀ (k : Nat) (acc : List Value), ¬ Steps vs w0 k 20 acc := by
  intro k
  induction k using Nat.strongRecOn with
  | _ k ih =>
    intro acc h
    rcases Nat.lt_or_ge k p with hk | hk
    · obtain ⟨ad', _, e, _⟩ := h1.pre hk h
      omega
    · obtain ⟨m, rfl⟩ : ∃ m, k = p + m := ⟨k - p, by omega⟩
      obtain ⟨z, b1, b2, q1, q2⟩ := Steps.cut h
      rw [(q1.det h1).1] at q2
      exact ih (q + m) (by omega) _ (h2.app q2)
theorem no_list (hC : Coh vs bs) (one : OneB bs) (h0 : ThingW bs v0 w0) (h : NoList bs v0) : ∀ (k : Nat) (acc : List Value), ¬ Steps vs w0 k 20 acc := by
  rcases h with ⟨ks, k, ch, hk, hin⟩ | ⟨ks, v, ch, hv, hne⟩
  · obtain ⟨ks1, hlt, ch1⟩ := chain_pre ch hin
    obtain ⟨w1, a1, q1, st1, _⟩ := chain_steps hC one ch h0
    obtain ⟨w2, a2, q2, st2, _⟩ := chain_steps hC one ch1 h0
    obtain rfl := thing_fun one q1 q2
    obtain ⟨k', hk', e, rfl⟩ := q1
    exact ring_no rfl hlt st1 st2
  · obtain ⟨w, acc, q, st, _⟩ := chain_steps hC one ch h0
    have stop := no_steps_stop st (by
      rintro ⟨ad, th, e, hp⟩
      rcases hv with hv | ⟨k, hk, rfl, hpr⟩
      · have := plain_noref hv q
        rw [e] at this
        exact this one_noref
      · obtain ⟨k', hk', e', rfl⟩ := q
        obtain rfl := one k hk k' hk' e'
        obtain ⟨⟨th', c0⟩, _⟩ := hC k' hk'
        obtain rfl : k'.ad = ad := by omega
        rw [hpr, hp] at c0
        injection c0 with c0
        injection c0 with c0
        exact absurd c0 (by decide)) (by
      rintro rfl
      rcases hv with hv | ⟨k, hk, rfl, hpr⟩
      · cases v with
        | int n t => have q' : (20 : Int) = n * 8 := q; omega
        | bool b => have q' : (20 : Int) = if b then 12 else 4 := q; cases b <;> exact absurd q' (by decide)
        | str x t =>
          rcases q with ⟨rfl, _⟩ | ⟨_, e⟩
          · exact hne t rfl
          · exact absurd e (by decide)
        | _ => exact hv.elim
      · obtain ⟨k', hk', e', e⟩ := q
        omega)
    exact fun k acc' h' => stop k k acc' ⟨Nat.le_refl _, h'⟩
theorem nodup_le_g {α : Type} {ks bs : List α} (hn : ks.Nodup) (hs : ∀ k ∈ ks, k ∈ bs) : ks.length ≤ bs.length := by
  induction ks generalizing bs with
  | nil => exact Nat.zero_le _
  | cons k r ih =>
    have hk := hs k (.head _)
    obtain ⟨hnk, hnr⟩ := List.nodup_cons.mp hn
    obtain ⟨a, b, rfl⟩ := List.append_of_mem hk
    have := ih (bs := a ++ b) hnr fun q hq => by
      rcases List.mem_append.mp (hs q (.tail _ hq)) with h | h
      · exact List.mem_append_left _ h
      · rcases List.mem_cons.mp h with rfl | h
        · exact absurd hq hnk
        · exact List.mem_append_right _ h
    simp only [List.length_append, List.length_cons] at this ⊢
    omega
theorem Sit.few (S : Sit vs bs ts i) : bs.length ≤ vs.length := by
  have h := nodup_le_g (bs := List.range vs.length) S.nd fun a ha => by
    obtain ⟨k, hk, rfl⟩ := List.mem_map.mp ha
    have := S.fit k hk
    have : 2 ≤ sz k := by unfold sz; cases k.pr <;> decide
    exact List.mem_range.mpr (by omega)
  rw [List.length_map, List.length_range] at h
  exact h
/-- two lists of words of the same things hold the same ints -/
theorem words_same (one : OneB bs) {ks : List Blk} {acc ys : List Value} (h1 : FirstW bs ks acc) (h2 : WordsJ bs (xsOf ks) (xsOf ks).length ys) : ∃ ns, IntsAre acc ns ∧ IntsAre ys ns := by
  have key : ∀ (ks : List Blk) (acc ys : List Value), acc.length = ks.length → ys.length = ks.length → (∀ (j : Nat) (k : Blk), ks[j]? = some k → ∃ wd t t', acc[j]? = some (Value.int wd t) ∧ ys[j]? = some (Value.int wd t')) → ∃ ns, IntsAre acc ns ∧ IntsAre ys ns := by
    intro ks
    induction ks with
    | nil =>
      intro acc ys e1 e2 _
      rw [List.length_nil] at e1 e2
      rw [List.eq_nil_of_length_eq_zero e1, List.eq_nil_of_length_eq_zero e2]
      exact ⟨[], .nil, .nil⟩
    | cons k r ih =>
      intro acc ys e1 e2 h
      cases acc with
      | nil => cases e1
      | cons a acc =>
        cases ys with
        | nil => cases e2
        | cons y ys =>
          obtain ⟨wd, t, t', q1, q2⟩ := h 0 k rfl
          cases q1
          cases q2
          obtain ⟨ns, r1, r2⟩ := ih acc ys (Nat.succ.inj e1) (Nat.succ.inj e2) fun j k hk => h (j + 1) k hk
          exact ⟨wd :: ns, .cons _ _ r1, .cons _ _ r2⟩
  refine key ks acc ys h1.1 (by rw [h2.len]; exact List.length_map _) fun j k hk => ?_
  obtain ⟨wd, t, q1, q2⟩ := h1.2 j k hk
  have hx : (xsOf ks)[j]? = some k.x := by rw [xsOf, List.getElem?_map, hk]; rfl
  have hj : j < (xsOf ks).length := by
    rcases Nat.lt_or_ge j (xsOf ks).length with q | q
    · exact q
    · rw [List.getElem?_eq_none q] at hx; cases hx
  obtain ⟨wd', t', r1, r2⟩ := h2.at_ j k.x hj hx
  rw [thing_fun one r2 q2] at r1
  exact ⟨wd, t, t', q1, r1⟩
end
def DueBad (bs : List Blk) (op : Int) (us : List Value) (pl : Int) : Prop :=
  (op < 3 ∧ pl = 0 ∧ ∃ v0 v1 k0, us = [v0, v1] ∧ KindIs bs v0 k0 ∧ NoNum k0) ∨ (op < 3 ∧ pl = 1 ∧ ∃ v0 v1 k1, us = [v0, v1] ∧ KindIs bs v0 "number" ∧ KindIs bs v1 k1 ∧ NoNum k1) ∨ (isBlk op ∧ pl = 0 ∧ ∃ v0 r0 k0, us = v0 :: r0 ∧ KindIs bs v0 k0 ∧ BadKind op k0)
theorem shape1 {us : List Value} {u0 : Value} (h0 : us[0]? = some u0) : ∃ r, us = u0 :: r := by
  cases us with
  | nil => cases h0
  | cons a r => cases h0; exact ⟨r, rfl⟩
theorem shape1' {us : List Value} {u0 : Value} (h0 : us[0]? = some u0) (hl : us.length = 1) : us = [u0] := by
  obtain ⟨r, rfl⟩ := shape1 h0
  rw [List.length_cons] at hl
  rw [List.eq_nil_of_length_eq_zero (by omega : r.length = 0)]
theorem shape2 {us : List Value} {u0 u1 : Value} (h0 : us[0]? = some u0) (h1 : us[1]? = some u1) (hl : us.length = 2) : us = [u0, u1] := by
  obtain ⟨r, rfl⟩ := shape1 h0
  have h1' : r[0]? = some u1 := h1
  rw [shape1' h1' (by simpa using hl)]
theorem shape3 {us : List Value} {u0 : Value} (h0 : us[0]? = some u0) (hl : us.length = 3) : ∃ u1 u2, us = [u0, u1, u2] := by
  obtain ⟨r, rfl⟩ := shape1 h0
  rw [List.length_cons] at hl
  cases r with
  | nil => cases hl
  | cons a r =>
    rw [List.length_cons] at hl
    cases r with
    | nil => cases hl
    | cons b r =>
      rw [List.length_cons] at hl
      rw [List.eq_nil_of_length_eq_zero (Nat.succ.inj (Nat.succ.inj (Nat.succ.inj hl)))]
      exact ⟨a, b, rfl⟩
theorem at_nat0 (k : Nat) : ((k : Int) + 1 + 0).toNat = k + 1 + 0 := rfl
theorem at_nat1 (k : Nat) : ((k : Int) + 1 + 1).toNat = k + 1 + 1 := rfl
theorem abs_add {x y : Int} {b c : Nat} (e : c = b + b) (hx : x.natAbs ≤ b) (hy : y.natAbs ≤ b) : (x + y).natAbs ≤ c := e ▸ Nat.le_trans (Int.natAbs_add_le x y) (Nat.add_le_add hx hy)
theorem abs_sub {x y : Int} {b c : Nat} (e : c = b + b) (hx : x.natAbs ≤ b) (hy : y.natAbs ≤ b) : (x - y).natAbs ≤ c := by
  rw [Int.sub_eq_add_neg]
  exact abs_add e hx (by rw [Int.natAbs_neg]; exact hy)
theorem due_bad_of {bs : List Blk} {vs us : List Value} {u0 : Value} {op w0 w1 pl : Int} (ho0 : 0 ≤ op) (hC : Coh vs bs) (hl : (us.length : Int) = rowMany op) (h0 : us[0]? = some u0) (q0 : ThingW bs u0 w0) (h1 : 1 < us.length → ∃ u1, us[1]? = some u1 ∧ ThingW bs u1 w1)
    (h : op < 3 ∧ (pl = 0 ∧ w0.fmod 8 ≠ 0 ∨ pl = 1 ∧ w0.fmod 8 = 0 ∧ w1.fmod 8 ≠ 0) ∨ isBlk op ∧ pl = 0 ∧ IsKind vs w0 (kdOf op) false) : DueBad bs op us pl := by
  rcases h with ⟨ho, h⟩ | ⟨ho, rfl, h⟩
  · have hl2 : us.length = 2 := by
      have := rowMany_2 ho0 (by omega)
      omega
    obtain ⟨u1, e1, q1⟩ := h1 (by omega)
    have e := shape2 h0 e1 hl2
    rcases h with ⟨rfl, h⟩ | ⟨rfl, h, h'⟩
    · obtain ⟨k0, a, b⟩ := thing_nonum q0 h
      exact .inl ⟨ho, rfl, u0, u1, k0, e, a, b⟩
    · obtain ⟨n, t, rfl, _⟩ := thing_num q0 h
      obtain ⟨k1, a, b⟩ := thing_nonum q1 h'
      exact .inr (.inl ⟨ho, rfl, _, u1, k1, e, rfl, a, b⟩)
  · obtain ⟨r, e⟩ := shape1 h0
    obtain ⟨k, a, b⟩ := thing_bad hC q0 ho h
    exact .inr (.inr ⟨ho, rfl, u0, r, k, e, a, b⟩)
def KeepT (news news' : List (Addr × Obj)) : Prop := ∀ q ∈ news, q.2.cls = .type "tuple" → q ∈ news'
theorem KeepT.at {news news' : List (Addr × Obj)} {a : Addr} {o : Obj} (h : KeepT news news') (hq : (a, o) ∈ news) (hc : o.cls = .type "tuple") : (a, o) ∈ news' := h _ hq hc
theorem news_ne {h₀ h : Heap} {L a b : Addr} {oa ob : Obj} {news : List (Addr × Obj)} (N : News h₀ L h news) (ha : (a, oa) ∈ news) (hb : (b, ob) ∈ news) (hc : oa ≠ ob) : a ≠ b := fun e => hc (by
  have z1 := (N _ ha).1
  have z2 := (N _ hb).1
  dsimp only at z1 z2
  rw [e, z2] at z1
  exact (Option.some.inj z1).symm)
theorem thing_ref {bs : List Blk} {u : Value} {w : Int} (h : ThingW bs u w) (hw : w.fmod 8 = 1) : ∃ k ∈ bs, u = .ref k.b ∧ w = (k.ad : Int) * 8 + 1 := by
  cases u with
  | int n t =>
    cases h
    rw [fmod8_mul] at hw
    exact absurd hw (by decide)
  | bool b => cases h; cases b <;> exact absurd hw (by decide)
  | str x t => rcases h with ⟨_, rfl⟩ | ⟨_, rfl⟩ <;> exact absurd hw (by decide)
  | ref b =>
    obtain ⟨k, hk, rfl, e⟩ := h
    exact ⟨k, hk, rfl, e⟩
  | _ => exact h.elim
theorem blk_of {bs : List Blk} {vs : List Value} {u : Value} {w0 op : Int} {ad : Nat} {th : Tok} (hC : Coh vs bs) (h : ThingW bs u w0) (e : w0 = (ad : Int) * 8 + 1) (hh : vs[ad]? = some (.int (hdOf op) th)) : ∃ k ∈ bs, u = .ref k.b ∧ k.ad = ad ∧ k.pr = decide (op < 9) := by
  obtain ⟨k, hk, rfl, e'⟩ := thing_ref h (by rw [e]; exact one_noref)
  obtain rfl : k.ad = ad := by omega
  obtain ⟨⟨th', c0⟩, _⟩ := hC k hk
  rw [hh] at c0
  injection c0 with c0
  injection c0 with c0
  refine ⟨k, hk, rfl, rfl, ?_⟩
  unfold hdOf at c0
  by_cases q : op < 9
  · rw [if_pos q] at c0
    rw [decide_eq_true q]
    cases hp : k.pr with
    | true => rfl
    | false => rw [hp] at c0; exact absurd c0 (by decide)
  · rw [if_neg q] at c0
    rw [decide_eq_false q]
    cases hp : k.pr with
    | false => rfl
    | true => rw [hp] at c0; exact absurd c0 (by decide)
section
variable {w : World} {p : Program} {loose : List Str} {mean : ExcName → Option Value} {mg mb : Str → Option Value} {dp un : Nat} {gd : Option (List Code)} {cn : Str} {cs : Scope} {L a : Addr} {ccd : Value} {cl : List (Str × Addr)} {outer : List Env} {A₀ : Around} {base h₀ : Heap} {m : Str → Option Value} {news : List (Addr × Obj)} {s : Shared} {Q E : Value → Shared → Prop}
variable {ρ : Addr → Nat} {Y : Lay} {o4 : Obj} {vs : List Value} {bs : List Blk} {ts : List Value}
theorem due_bad_L {sl : Addr} {us : List Value} {op pl : Int} {tn : Tok} {c : Nat} (B : Below A₀ base outer h₀) (F : Fr h₀ L s.heap m) (X : (hd.heap_39 w.params).In h₀) (N : News h₀ L s.heap news) (T : Top p loose mean mg mb h₀) (hk : cs.kind = .function) (hd1 : dp + 60 < recursionLimit) (hu1 : un + 600 < cLine) (H : Led ρ Y L o4 vs bs ts news) (hs : (sl, listOf us.toArray c) ∈ news) (ho : 0 ≤ op) (hbad : DueBad bs op us pl)
    (hret : ∀ r ta tp news' h' tk', Fr h₀ L h' m → News h₀ L h' news' → Led ρ Y L o4 vs bs ts news' → (∀ q ∈ news, q ∈ news') → (r, tup2 (.str "refused" ta) (.int pl tp)) ∈ news' → Q (.ref r) { s with heap := h', toks := tk' }) : wpAny (model PySem.Challenge.rw_on0295_01.row.prog w) (ktrTop dp un gd cn cs L a ccd cl outer) (call (.ref 409) [.str (rowName op) tn, .ref sl]) Q E s := by
  rcases hbad with ⟨h3, rfl, v0, v1, k0, rfl, a, b⟩ | ⟨h3, rfl, v0, v1, k1, rfl, a, b, d⟩ | ⟨⟨o1, o2, o3⟩, rfl, v0, r0, k0, rfl, a, b⟩
  · exact due_r0 (op := op) B F X N T hk hd1 hu1 hs H.blk (op_lt3 ho h3) a b fun r ta tp n' h' tk' F' N' k z => hret r ta tp n' h' tk' F' N' (H.mono k) k z
  · exact due_r1 (op := op) B F X N T hk hd1 hu1 hs H.blk (op_lt3 ho h3) a b d fun r ta tp n' h' tk' F' N' k z => hret r ta tp n' h' tk' F' N' (H.mono k) k z
  · exact due_no (op := op) B F X N T hk hd1 hu1 hs H.blk (op_ge5 o1 o2 o3) a b fun r ta tp n' h' tk' F' N' k z => hret r ta tp n' h' tk' F' N' (H.mono k) k z
theorem due_good_L {sl : Addr} {us vs' : List Value} {u0 : Value} {op w0 w1 rr : Int} {tn t0 t01 : Tok} {c i : Nat} (B : Below A₀ base outer h₀) (F : Fr h₀ L s.heap m) (X : (hd.heap_39 w.params).In h₀) (N : News h₀ L s.heap news) (T : Top p loose mean mg mb h₀) (hk : cs.kind = .function) (hd1 : dp + 60 < recursionLimit) (hu1 : un + 600 < cLine) (H : Led ρ Y L o4 vs' bs ts news) (hs : (sl, listOf us.toArray c) ∈ news) (hz : ρ sl = 0) (ho : 0 ≤ op) (ho' : op < 12)
    (S : Sit vs bs ts i) (hi : i < 12) (hl : (us.length : Int) = rowMany op) (ht : ∀ u ∈ us, u ∈ ts) (h0 : us[0]? = some u0) (q0 : ThingW bs u0 w0) (h1 : 1 < us.length → ∃ u1, us[1]? = some u1 ∧ ThingW bs u1 w1) (hR : RunOut vs op w0 w1 t0 t01 rr vs')
    (hplain : ∀ r ta v bs' news' h' tk', Fr h₀ L h' m → News h₀ L h' news' → Led ρ Y L o4 vs' bs' ts news' → Keep0 ρ news news' → KeepT news news' → (r, tup2 (.str "told" ta) v) ∈ news' → PlainIs v → ThingW bs' v rr → Sit vs' bs' (ts ++ [v]) (i + 1) → Q (.ref r) { s with heap := h', toks := tk' })
    (hknown : ∀ r ta (k : Blk) news' h' tk', Fr h₀ L h' m → News h₀ L h' news' → Led ρ Y L o4 vs' bs ts news' → Keep0 ρ news news' → KeepT news news' → (r, tup2 (.str "told" ta) (.ref k.b)) ∈ news' → k ∈ bs → rr = (k.ad : Int) * 8 + 1 → Sit vs' bs (ts ++ [.ref k.b]) (i + 1) → Q (.ref r) { s with heap := h', toks := tk' })
    (hnew : ∀ r ta (k1 : Blk) news' h' tk', Fr h₀ L h' m → News h₀ L h' news' → Led ρ Y L o4 vs' bs ts news' → Keep0 ρ news news' → KeepT news news' → (r, tup2 (.str "told" ta) (.ref k1.b)) ∈ news' → ρ k1.b = 0 → (∀ q ∈ news, q.1 < k1.b) → (k1.b, listOf k1.us.toArray k1.c) ∈ news' → rr = (k1.ad : Int) * 8 + 1 → (∀ tu tw, Sit vs' (bs ++ [{ k1 with tu := tu, tw := tw }]) (ts ++ [.ref k1.b]) (i + 1)) → Q (.ref r) { s with heap := h', toks := tk' }) : wpAny (model PySem.Challenge.rw_on0295_01.row.prog w) (ktrTop dp un gd cn cs L a ccd cl outer) (call (.ref 409) [.str (rowName op) tn, .ref sl]) Q E s := by
  have hu9 := hu1
  have hi13 : i + 1 ≤ 13 := by omega
  have one : OneB bs := H.blk.one
  have hu0 : u0 ∈ ts := ht _ (List.mem_of_getElem? h0)
  have hC := S.coh
  have fin : vs' = vs → ∀ r ta v news' h' tk', Fr h₀ L h' m → News h₀ L h' news' → (∀ q ∈ news, q ∈ news') → (r, tup2 (.str "told" ta) v) ∈ news' → ThingOk bs v → ThingW bs v rr → Sml (i + 1) v → Q (.ref r) { s with heap := h', toks := tk' } := by
    rintro rfl r ta v n' h' tk' F' N' k z ov qv sv
    rcases ov with hp | ⟨kb, hkb, rfl⟩
    · exact hplain r ta v bs n' h' tk' F' N' (H.mono k) (fun q hq _ => k q hq) (fun q hq _ => k q hq) z hp qv (S.tell (.inl hp) sv)
    · refine hknown r ta kb n' h' tk' F' N' (H.mono k) (fun q hq _ => k q hq) (fun q hq _ => k q hq) z hkb ?_ (S.tell (.inr ⟨kb, hkb, rfl⟩) sv)
      obtain ⟨k', hk', e, e'⟩ := qv
      rw [e', one kb hkb k' hk' e]
  have sz13 : ∀ {n : Int} {t : Tok}, n.natAbs ≤ 3 * 2 ^ (i + 1) → PlainIs (.int n t) := fun h => sml_plain h hi13
  have two : rowMany op = 2 → ∃ u1, us = [u0, u1] ∧ ThingW bs u1 w1 ∧ u1 ∈ ts := fun h2 => by
    obtain ⟨u1, e1, q1⟩ := h1 (by omega)
    exact ⟨u1, shape2 h0 e1 (by omega), q1, ht _ (List.mem_of_getElem? e1)⟩
  have single : rowMany op = 1 → us = [u0] := fun h2 => shape1' h0 (by omega)
  have setk : ∀ {k1 : Blk} {k0 : Blk} {news' : List (Addr × Obj)}, k0 ∈ bs → (∀ q ∈ news, q.1 ≠ k0.b → q ∈ news') → KeepT news news' := fun {k1 k0 news'} hk0 hkp q hq hc => hkp q hq (news_ne (ob := W.listOf k0.us.toArray k0.c) N hq (H.blk.lst k0 hk0) (fun e => by rw [e] at hc; exact absurd hc (by simp [W.listOf])))
  unfold RunOut at hR
  by_cases o3 : op < 3
  · rw [if_pos o3] at hR
    obtain ⟨m0, m1, rfl, ev⟩ := hR
    obtain ⟨u1, rfl, q1, hu1⟩ := two (rowMany_2 ho (by omega))
    obtain ⟨x, tx, rfl, rfl⟩ := thing_num q0 m0
    obtain ⟨y, ty, rfl, rfl⟩ := thing_num q1 m1
    have bx := S.sml _ hu0 x tx rfl
    have by_ := S.sml _ hu1 y ty rfl
    have e2 : 3 * 2 ^ (i + 1) = 3 * 2 ^ i + 3 * 2 ^ i := by rw [Nat.pow_succ]; omega
    refine due_num (op := op) B F X N T hk hd1 hu9 hs H.blk (op_lt3 ho o3) fun r ta v n' h' tk' F' N' k z d0 d1 d2 => ?_
    by_cases p2 : op = 2
    · rw [d2 p2] at z
      refine fin ev r ta _ n' h' tk' F' N' k z (.inl trivial) ?_ (fun n t e => by cases e)
      show reckRes op _ _ = _
      unfold reckRes
      rw [if_pos p2, fdiv8_mul, fdiv8_mul]
      by_cases q : x < y
      · rw [if_pos q, decide_eq_true q]; rfl
      · rw [if_neg q, decide_eq_false q]; rfl
    · by_cases p0 : op = 0
      · obtain ⟨t, e⟩ := d0 p0
        rw [e] at z
        have hb : (x + y).natAbs ≤ 3 * 2 ^ (i + 1) := abs_add e2 bx by_
        refine fin ev r ta _ n' h' tk' F' N' k z (.inl (sz13 hb)) ?_ (fun n t e => by cases e; exact hb)
        show reckRes op _ _ = _
        unfold reckRes
        rw [if_neg p2, if_pos p0, fdiv8_mul, fdiv8_mul]
      · obtain ⟨t, e⟩ := d1 (by omega)
        rw [e] at z
        have hb : (x - y).natAbs ≤ 3 * 2 ^ (i + 1) := abs_sub e2 bx by_
        refine fin ev r ta _ n' h' tk' F' N' k z (.inl (sz13 hb)) ?_ (fun n t e => by cases e; exact hb)
        show reckRes op _ _ = _
        unfold reckRes
        rw [if_neg p2, if_neg p0, fdiv8_mul, fdiv8_mul]
  rw [if_neg o3] at hR
  by_cases p3 : op = 3
  · rw [if_pos p3] at hR
    subst p3
    obtain ⟨er, ev⟩ := hR
    obtain ⟨u1, rfl, q1, hu1⟩ := two rfl
    have done : ∀ (b : Bool), b = decide (w0 = w1) → ∀ r ta n' h' tk', Fr h₀ L h' m → News h₀ L h' n' → (∀ q ∈ news, q ∈ n') → (r, tup2 (.str "told" ta) (.bool b)) ∈ n' → Q (.ref r) { s with heap := h', toks := tk' } := fun b e r ta n' h' tk' F' N' k z =>
      fin ev r ta _ n' h' tk' F' N' k z (.inl trivial) (by
        show rr = _
        rw [er, e]
        by_cases q : w0 = w1
        · rw [if_pos q, decide_eq_true q]; rfl
        · rw [if_neg q, decide_eq_false q]; rfl) (fun n t e => by cases e)
    rcases S.oks u0 hu0 with hp0 | ⟨k0, hk0, rfl⟩ <;> rcases S.oks u1 hu1 with hp1 | ⟨k1, hk1, rfl⟩
    · exact same_plain B F X N T hk hd1 hu9 hs hp0 hp1 fun r ta n' h' tk' F' N' k z => done _ (plain_same hp0 hp1 q0 q1) r ta n' h' tk' F' N' k z
    · refine same_right (k1 := k1) B F X N T hk hd1 hu9 hs (H.blk.lst k1 hk1) hp0 fun r ta n' h' tk' F' N' k z => done _ ?_ r ta n' h' tk' F' N' k z
      obtain ⟨k', _, _, e⟩ := q1
      exact (decide_eq_false fun q => plain_noref hp0 q0 (by rw [q, e]; exact one_noref)).symm
    · refine same_left (k0 := k0) B F X N T hk hd1 hu9 hs (H.blk.lst k0 hk0) hp1 fun r ta n' h' tk' F' N' k z => done _ ?_ r ta n' h' tk' F' N' k z
      obtain ⟨k', _, _, e⟩ := q0
      exact (decide_eq_false fun q => plain_noref hp1 q1 (by rw [← q, e]; exact one_noref)).symm
    · obtain ⟨k0', hk0', e0, r0⟩ := q0
      obtain ⟨k1', hk1', e1, r1⟩ := q1
      obtain rfl := one k0 hk0 k0' hk0' e0
      obtain rfl := one k1 hk1 k1' hk1' e1
      by_cases e : k0'.b = k1'.b
      · obtain rfl := one k0' hk0 k1' hk1 e.symm
        exact same_self (k0 := k1') B F X N T hk hd1 hu9 hs (H.blk.lst k1' hk1) fun r ta n' h' tk' F' N' k z => done _ (decide_eq_true (r0.trans r1.symm)).symm r ta n' h' tk' F' N' k z
      · exact same_other (k0 := k0') (k1 := k1') B F X N T hk hd1 hu9 hs (H.blk.lst k0' hk0) (H.blk.lst k1' hk1) e fun r ta n' h' tk' F' N' k z => done _ (decide_eq_false fun q => e (by rw [map_inj S.nd hk0 hk1 (by omega)])).symm r ta n' h' tk' F' N' k z
  rw [if_neg p3] at hR
  by_cases p4 : op = 4
  · rw [if_pos p4] at hR
    subst p4
    obtain ⟨er, th, ev⟩ := hR
    obtain ⟨u1, rfl, q1, hu1⟩ := two rfl
    refine due_cons B F X N T hk hd1 hu9 hs fun r D ta tk cD n' h' tk' F' N' k hD mD z => ?_
    have zD : ρ D = 0 := H.zero fun q hq => Nat.ne_of_lt (hD q hq)
    refine hnew r ta ⟨0, D, vs.length, 0, true, tk, u0, u1, cD⟩ n' h' tk' F' N' (H.mono k) (fun q hq _ => k q hq) (fun q hq _ => k q hq) z zD hD mD er fun tu tw => ?_
    rw [ev]
    exact S.new (k1 := ⟨tu, D, vs.length, tw, true, tk, u0, u1, cD⟩) rfl (S.oks _ hu0) (S.oks _ hu1) (S.sml _ hu0) (S.sml _ hu1) q0 (fun _ => q1) rfl
  rw [if_neg p4] at hR
  by_cases p9 : op = 9
  · rw [if_pos p9] at hR
    subst p9
    obtain ⟨er, th, ev⟩ := hR
    obtain rfl := single rfl
    refine due_box B F X N T hk hd1 hu9 hs fun r D ta tk cD n' h' tk' F' N' k hD mD z => ?_
    have zD : ρ D = 0 := H.zero fun q hq => Nat.ne_of_lt (hD q hq)
    refine hnew r ta ⟨0, D, vs.length, 0, false, tk, u0, .bool false, cD⟩ n' h' tk' F' N' (H.mono k) (fun q hq _ => k q hq) (fun q hq _ => k q hq) z zD hD mD er fun tu tw => ?_
    rw [ev]
    exact S.new (k1 := ⟨tu, D, vs.length, tw, false, tk, u0, .bool false, cD⟩) (w1 := 0) (t1 := 0) rfl (S.oks _ hu0) (.inl trivial) (S.sml _ hu0) (fun n t e => by cases e) q0 (fun e => by cases e) rfl
  rw [if_neg p9] at hR
  obtain ⟨ad, th, ew, hh, hrest⟩ := hR
  obtain ⟨k, hk1, rfl, rfl, hpr⟩ := blk_of hC q0 ew hh
  have hb := H.blk.lst k hk1
  unfold Blk.us at hb
  obtain ⟨⟨_, c0⟩, ⟨wx, tx, c1, qx⟩, c2⟩ := hC k hk1
  have hne : sl ≠ k.b := zero_ne hz (H.r.b k hk1)
  rcases op_ge3 ho ho' o3 p3 p4 p9 with rfl | rfl | rfl | rfl | rfl | rfl
  all_goals simp only [decide_eq_true_eq, show (5 : Int) < 9 by decide, show (6 : Int) < 9 by decide, show (7 : Int) < 9 by decide, show (8 : Int) < 9 by decide, show ¬ (10 : Int) < 9 by decide, show ¬ (11 : Int) < 9 by decide, decide_true, decide_false] at hpr
  all_goals rw [hpr] at hb
  · obtain rfl := single rfl
    obtain ⟨⟨th', hv⟩, ev⟩ := hrest
    rw [show ((k.ad : Int) + 1 + atOf 5) = (k.ad : Int) + 1 + 0 from rfl, c1] at hv
    cases hv
    exact due_get5 B F X N T hk hd1 hu9 hs hb fun r ta n' h' tk' F' N' kp z => fin ev r ta _ n' h' tk' F' N' kp z (S.thg k hk1).1 qx (S.smx k hk1).1.up
  · obtain rfl := single rfl
    obtain ⟨⟨th', hv⟩, ev⟩ := hrest
    obtain ⟨wy, ty, c3, qy⟩ := c2 hpr
    rw [show ((k.ad : Int) + 1 + atOf 6) = (k.ad : Int) + 1 + 1 from rfl, c3] at hv
    cases hv
    exact due_get6 B F X N T hk hd1 hu9 hs hb fun r ta n' h' tk' F' N' kp z => fin ev r ta _ n' h' tk' F' N' kp z (S.thg k hk1).2 qy (S.smx k hk1).2.up
  · obtain ⟨u1, rfl, q1, hu1⟩ := two rfl
    obtain ⟨rfl, ev⟩ := hrest
    refine due_set7 B F X N T hk hd1 hu9 hs hb hne fun r ta tt n' h' tk' F' N' kp mb z => ?_
    have LS := H.set (k1 := { k with x := u1 }) hk1 rfl rfl rfl rfl (by unfold Blk.us; rw [hpr]; exact mb) kp
    have SS := S.set one hk1 (k1 := { k with x := u1 }) (at_ := 0) (t1 := t01) (.inl rfl) rfl rfl rfl (S.oks _ hu1) q1 (S.sml _ hu1) rfl rfl
    have e9 : vs' = vs.set (k.ad + 1 + 0) (.int w1 t01) := by rw [ev, show ((k.ad : Int) + 1 + atOf 7).toNat = k.ad + 1 + 0 from at_nat0 k.ad]
    rw [← e9] at SS
    exact hplain r ta _ _ n' h' tk' F' N' LS.1 LS.2 (setk (k1 := k) hk1 kp) z (.inr rfl) (.inr ⟨rfl, rfl⟩) (SS.tell (.inl (.inr rfl)) fun n t e => by cases e)
  · obtain ⟨u1, rfl, q1, hu1⟩ := two rfl
    obtain ⟨rfl, ev⟩ := hrest
    refine due_set8 B F X N T hk hd1 hu9 hs hb hne fun r ta tt n' h' tk' F' N' kp mb z => ?_
    have LS := H.set (k1 := { k with y := u1 }) hk1 rfl rfl rfl rfl (by unfold Blk.us; rw [hpr]; exact mb) kp
    have SS := S.set one hk1 (k1 := { k with y := u1 }) (at_ := 1) (t1 := t01) (.inr ⟨rfl, hpr⟩) rfl rfl rfl (S.oks _ hu1) q1 (S.sml _ hu1) rfl rfl
    have e9 : vs' = vs.set (k.ad + 1 + 1) (.int w1 t01) := by rw [ev, show ((k.ad : Int) + 1 + atOf 8).toNat = k.ad + 1 + 1 from at_nat1 k.ad]
    rw [← e9] at SS
    exact hplain r ta _ _ n' h' tk' F' N' LS.1 LS.2 (setk (k1 := k) hk1 kp) z (.inr rfl) (.inr ⟨rfl, rfl⟩) (SS.tell (.inl (.inr rfl)) fun n t e => by cases e)
  · obtain rfl := single rfl
    obtain ⟨⟨th', hv⟩, ev⟩ := hrest
    rw [show ((k.ad : Int) + 1 + atOf 10) = (k.ad : Int) + 1 + 0 from rfl, c1] at hv
    cases hv
    exact due_get10 (_y := .none) B F X N T hk hd1 hu9 hs hb fun r ta n' h' tk' F' N' kp z => fin ev r ta _ n' h' tk' F' N' kp z (S.thg k hk1).1 qx (S.smx k hk1).1.up
  · obtain ⟨u1, rfl, q1, hu1⟩ := two rfl
    obtain ⟨rfl, ev⟩ := hrest
    refine due_set11 (_y := .none) B F X N T hk hd1 hu9 hs hb hne fun r ta tt n' h' tk' F' N' kp mb z => ?_
    have LS := H.set (k1 := { k with x := u1 }) hk1 rfl rfl rfl rfl (by unfold Blk.us; rw [hpr]; exact mb) kp
    have SS := S.set one hk1 (k1 := { k with x := u1 }) (at_ := 0) (t1 := t01) (.inl rfl) rfl rfl rfl (S.oks _ hu1) q1 (S.sml _ hu1) rfl rfl
    have e9 : vs' = vs.set (k.ad + 1 + 0) (.int w1 t01) := by rw [ev, show ((k.ad : Int) + 1 + atOf 11).toNat = k.ad + 1 + 0 from at_nat0 k.ad]
    rw [← e9] at SS
    exact hplain r ta _ _ n' h' tk' F' N' LS.1 LS.2 (setk (k1 := k) hk1 kp) z (.inr rfl) (.inr ⟨rfl, rfl⟩) (SS.tell (.inl (.inr rfl)) fun n t e => by cases e)
end
section
variable {M : Model} {A : Around} {E : Value → Shared → Prop} {s : Shared} {h₀ : Heap} {L a : Addr} {m : Str → Option Value} {cn : Str} {cs : Scope} {ccd : Value} {cl : List (Str × Addr)} {x : Str} {v : Value} {news : List (Addr × Obj)}
variable {ρ : Addr → Nat} {Y : Lay} {o4 : Obj} {v4 : Option Value} {vs : List Value} {bs : List Blk} {ts : List Value}
/-- the fourth cell is stored -/
theorem store4 {Q : Unit → Shared → Prop} (F : Fr h₀ L s.heap m) (N : News h₀ L s.heap news) (H : Led ρ Y L o4 vs bs ts news) (d4 : o4.data = .cell v4) (hc : cl.lookup x = some (L + 1 + 1 + 1 + 1))
    (h : ∀ h' o' news', Fr h₀ L h' m → News h₀ L h' news' → Led ρ Y L o' vs bs ts news' → o'.data = .cell (some v) → Keep0 ρ news news' → (∀ q ∈ news, q.1 ≠ L + 1 + 1 + 1 + 1 → q ∈ news') → Q () { s with heap := h' })
    (hk : cs.kind = .function := by rfl) (hx : (envX cn cs L a ccd cl).kindOf x = some .cell := by rfl) : wpAny M A (storeName (envX cn cs L a ccd cl) x v) Q E s := by
  obtain ⟨rest, N2, hr, hs2, hb2⟩ := news_front N H.c4
  refine storeX_C (g := fun o' => (L + 1 + 1 + 1 + 1, o') :: rest) (o := o4) F N2 hc (UpdF.head hr) d4 (fun h' o' F' N' d' => ?_) hk hx
  have kp : ∀ q ∈ news, q.1 ≠ L + 1 + 1 + 1 + 1 → q ∈ (L + 1 + 1 + 1 + 1, o') :: rest := fun q hq hn => .tail _ (hs2 q hq hn)
  have R := H.cell4 (o' := o') (.head _) kp
  exact h h' o' _ F' N' R.1 d' R.2 kp
end
section
variable {prog : Program} {w : World} {A : Around} {E : Value → Shared → Prop} {s : Shared} {h₀ : Heap} {L l a b : Addr} {m : Str → Option Value} {news : List (Addr × Obj)}
theorem app_m {us : List Value} {c : Nat} {v : Value} {Q : Value → Shared → Prop} (F : Fr h₀ L s.heap m) (N : News h₀ L s.heap news) (hm : (l, listOf us.toArray c) ∈ news) (hsz : us.length < 1000)
    (h : ∀ h' c' news', Fr h₀ L h' m → News h₀ L h' news' → (l, listOf (us ++ [v]).toArray c') ∈ news' → (∀ q ∈ news, q.1 ≠ l → q ∈ news') → Q .none { s with heap := h' }) : wpAny (model prog w) A (call (.builtin "list.append") [.ref l, v]) Q E s := by
  obtain ⟨rest, N2, hr, hs2, hb2⟩ := news_front N hm
  exact append_m F N2 (.head hr) hsz fun h' F' N' => h h' _ _ F' N' (.head _) fun q hq hn => .tail _ (hs2 q hq hn)
theorem eq_nil_m {vs : List Value} {ns : List Int} {n k : Nat} {Q : Value → Shared → Prop} (N : News h₀ L s.heap news) (ha : (a, listOf vs.toArray n) ∈ news) (hi : IntsAre vs ns) (hb : (b, listOf ([] : List Value).toArray k) ∈ news)
    (hu : A.units + 64 < cLine) (h : Q (.bool (decide (ns = []))) s) : wpAny (model prog w) A (compareOp .Eq (.ref a) (.ref b)) Q E s :=
  eq_intsK ⟨_, (N _ ha).1, rfl, n, rfl⟩ hi (us := []) ⟨_, (N _ hb).1, rfl, k, rfl⟩ .nil hu h
theorem eq_nil0 {n k : Nat} {Q : Value → Shared → Prop} (N : News h₀ L s.heap news) (ha : (a, listOf ([] : List Value).toArray n) ∈ news) (hb : (b, listOf ([] : List Value).toArray k) ∈ news)
    (hu : A.units + 64 < cLine) (h : Q (.bool true) s) : wpAny (model prog w) A (compareOp .Eq (.ref a) (.ref b)) Q E s := eq_nil_m N ha .nil hb hu h
theorem eq_nil1 {x : Int} {t : Tok} {vs : List Value} {ns : List Int} {n k : Nat} {Q : Value → Shared → Prop} (N : News h₀ L s.heap news) (ha : (a, listOf (Value.int x t :: vs).toArray n) ∈ news) (hb : (b, listOf ([] : List Value).toArray k) ∈ news) (hi : IntsAre (Value.int x t :: vs) (x :: ns))
    (hu : A.units + 64 < cLine) (h : Q (.bool false) s) : wpAny (model prog w) A (compareOp .Eq (.ref a) (.ref b)) Q E s := eq_nil_m N ha hi hb hu h
theorem same_self_ints (ns : List Int) : PySem.Spec.sameAll (ns.map PyData.int) (ns.map PyData.int) = true := by rw [same_ints]; exact decide_eq_true rfl
theorem ne_tupl {w0 : Int} {t u : Tok} {fa fb : Addr} {xs ys : List Value} {ns : List Int} {c c' : Nat} {Q : Value → Shared → Prop} (N : News h₀ L s.heap news) (ha : (a, ({ cls := .type "tuple", data := .seq #[Value.int w0 t, .ref fa] } : Obj)) ∈ news) (hb : (b, ({ cls := .type "tuple", data := .seq #[Value.int w0 u, .ref fb] } : Obj)) ∈ news)
    (hfa : (fa, listOf xs.toArray c) ∈ news) (hfb : (fb, listOf ys.toArray c') ∈ news) (hi : IntsAre xs ns) (hi' : IntsAre ys ns) (hu : A.units + 64 < cLine) (h : Q (.bool false) s) : wpAny (model prog w) A (compareOp .NotEq (.ref a) (.ref b)) Q E s := by
  have sh : PySem.SeqAt.shaped (.tuple [PyData.int w0, .list (ns.map PyData.int)]) = true := by
    have h1 := PySem.W.canLayAll0_ints ns
    have h2 := PySem.W.depthAll_ints ns
    have h3 : PyData.depth (.tuple [PyData.int w0, .list (ns.map PyData.int)]) ≤ 64 := by simp only [PyData.depth, PyData.depthAll]; omega
    show (PyData.canLay0 (.tuple [PyData.int w0, .list (ns.map PyData.int)]) && decide (PyData.depth (.tuple [PyData.int w0, .list (ns.map PyData.int)]) ≤ 64)) = true
    rw [Bool.and_eq_true]
    exact ⟨by simp only [PyData.canLay0, PyData.canLayAll0, h1]; rfl, decide_eq_true h3⟩
  refine ne_dataH_same (reads_tuple_at (News.get N ha) rfl rfl (ReadsAll.cons (Reads.int _ _) (ReadsAll.cons (reads_of_ints ⟨_, (N _ hfa).1, rfl, c, rfl⟩ hi) ReadsAll.nil))) (reads_tuple_at (News.get N hb) rfl rfl (ReadsAll.cons (Reads.int _ _) (ReadsAll.cons (reads_of_ints ⟨_, (N _ hfb).1, rfl, c', rfl⟩ hi') ReadsAll.nil))) sh sh hu ?_ ?_
  · simp [PySem.SeqAt.noMix, PySem.SeqAt.noMixAll, noMix_ints]
  · simp only [PySem.Spec.same, PySem.Spec.sameAll, same_self_ints]
    simpa using h
end
section
variable {prog : Program} {w : World} {A : Around} {E : Value → Shared → Prop} {s : Shared} {h₀ : Heap} {L T : Addr} {m : Str → Option Value} {rest n6 : List (Addr × Obj)}
variable {ρ : Addr → Nat} {Y : Lay} {o4 : Obj} {vs : List Value} {bs : List Blk} {ts : List Value}
/-- a new block is put to the blocks -/
theorem blocks_add {k : Blk} {rr : Int} {t : Tok} {Q : Value → Shared → Prop} (P : Blk → Prop) (hP : ∀ tu tw, P { k with tu := tu, tw := tw }) (F : Fr h₀ L s.heap m) (N : News h₀ L s.heap ((T, { cls := .type "tuple", data := .seq #[Value.int rr t, .ref k.b] }) :: rest)) (hT : ∀ q ∈ n6, q.1 < T) (sub : ∀ q ∈ n6, q ∈ rest)
    (H : Led ρ Y L o4 vs bs ts n6) (z : ρ k.b = 0) (hb : (k.b, listOf k.us.toArray k.c) ∈ n6) (er : rr = (k.ad : Int) * 8 + 1) (few : bs.length < 100)
    (h : ∀ h' news' (k1 : Blk) (ρ' : Addr → Nat), k1.b = k.b → k1.ad = k.ad → Fr h₀ L h' m → News h₀ L h' news' → Led ρ' Y L o4 vs (bs ++ [k1]) ts news' → P k1 → (∀ q ∈ n6, q.1 ≠ Y.bl → q ∈ news') → (∀ q ∈ n6, q.1 ≠ k.b → ρ q.1 = 0 → ρ' q.1 = 0) → Q .none { s with heap := h' }) :
    wpAny (model prog w) A (call (.builtin "list.append") [.ref Y.bl, .ref T]) Q E s := by
  subst er
  obtain ⟨c, hbl⟩ := H.blo
  have zT : ρ T = 0 := H.zero_lt hT
  refine app_m F N (.tail _ (sub _ hbl)) (by rw [blkRefs, List.length_map]; omega) fun h' c' n' F' N' hm kn => ?_
  have kn6 : ∀ q ∈ n6, q.1 ≠ Y.bl → q ∈ n' := fun q hq hn => kn q (.tail _ (sub q hq)) hn
  have e : blkRefs bs ++ [Value.ref T] = blkRefs (bs ++ [{ k with tu := T, tw := t }]) := by unfold blkRefs; rw [List.map_append]; rfl
  rw [e] at hm
  refine h h' n' { k with tu := T, tw := t } (roleAdd ρ T k.b) rfl rfl F' N' (H.add (k1 := { k with tu := T, tw := t }) zT z (Nat.ne_of_gt (hT _ hb)) (kn _ (.head _) (zero_ne zT H.r.bl)) (kn6 _ hb (zero_ne z H.r.bl)) hm few kn6) (hP _ _) kn6 fun q hq hn hz => ?_
  unfold roleAdd
  rw [if_neg (Nat.ne_of_lt (hT q hq)), if_neg hn]
  exact hz
end
/-- the blocks met in the search for one -/
structure FindJ (k : Blk) (bs : List Blk) (i : Nat) (ys : List Value) : Prop where
  vals : ∃ ns, IntsAre ys ns
  has : k ∈ bs.take i → ys ≠ []
theorem FindJ.snoc {k : Blk} {ks : List Blk} {i : Nat} {ys : List Value} (h : FindJ k ks i ys) (x : Int) (t : Tok) : FindJ k ks (i + 1) (ys ++ [Value.int x t]) := ⟨let ⟨ns, q⟩ := h.vals; ⟨_, ints_snoc q x t⟩, fun _ => by simp⟩
theorem FindJ.skip {k k' : Blk} {ks : List Blk} {i : Nat} {ys : List Value} (h : FindJ k ks i ys) (hk : ks[i]? = some k') (hne : k' ≠ k) : FindJ k ks (i + 1) ys := ⟨h.vals, fun z => h.has (by
  rw [List.take_add_one, hk] at z
  rcases List.mem_append.mp z with z | z
  · exact z
  · exact absurd (List.mem_singleton.mp (by simpa using z)).symm hne)⟩
theorem ln_E9_1 : True := by
  k_with_none
  k_with "L:room" => (first | exact room1 hd1 rfl | exact room2 hd1 rfl | exact room3 hd1 rfl | exact room4 hd1 rfl | exact room9 hd1)
  k_with "L:units" => (first | exact unit1 hu1 rfl | exact unit2 hu1 rfl | exact unit3 hu1 rfl | exact unit4 hu1 rfl | exact unit9 hu1)
  k_with "L:k_ne" => (refine neN ?_; (try dsimp only); first | with_reducible assumption | exact Ne.symm (by with_reducible assumption) | exact Nat.ne_of_lt (by walk_at "m lt") | exact Nat.ne_of_gt (by walk_at "m lt"))
  k_with "L:m lt" => (first | with_reducible assumption | with_reducible exact And.left (by assumption) | with_reducible exact And.left (And.right (by assumption)) | with_reducible exact And.left (And.right (And.right (by assumption))) | with_reducible exact And.left (And.right (And.right (And.right (by assumption)))) | with_reducible exact And.left (And.right (And.right (And.right (And.right (by assumption))))) | with_reducible exact And.left (And.right (And.right (And.right (And.right (And.right (by assumption)))))) | with_reducible exact And.left (And.right (And.right (And.right (And.right (And.right (And.right (by assumption))))))) | with_reducible exact And.left (And.right (And.right (And.right (And.right (And.right (And.right (And.right (by assumption)))))))))
  k_with "L:m small" => (refine wpAny_call ?_; k_dflt ktr_enter; k_steps)
  k_with "L:m enter" => (refine wpAny_call ?_; k_dflt ktr_enter)
  trivial
section
variable {bs : List Blk} {u0 u1 u2 : Value} {us ws : List Value}
theorem words1 (h : WordsJ bs us us.length ws) (e : us = [u0]) : ∃ w0 t0, ws = [.int w0 t0] ∧ ThingW bs u0 w0 := by
  subst e
  obtain ⟨w0, t0, q0, r0⟩ := h.at_ 0 u0 (by simp) rfl
  exact ⟨w0, t0, shape1' q0 h.len, r0⟩
theorem words2 (h : WordsJ bs us us.length ws) (e : us = [u0, u1]) : ∃ w0 t0 w1 t1, ws = [.int w0 t0, .int w1 t1] ∧ ThingW bs u0 w0 ∧ ThingW bs u1 w1 := by
  subst e
  obtain ⟨w0, t0, q0, r0⟩ := h.at_ 0 u0 (by simp) rfl
  obtain ⟨w1, t1, q1, r1⟩ := h.at_ 1 u1 (by simp) rfl
  exact ⟨w0, t0, w1, t1, shape2 q0 q1 h.len, r0, r1⟩
theorem words3 (h : WordsJ bs us us.length ws) (e : us = [u0, u1, u2]) : ∃ w0 t0 wm tm w1 t1, ws = [.int w0 t0, .int wm tm, .int w1 t1] ∧ ThingW bs u0 w0 ∧ ThingW bs u2 w1 := by
  subst e
  obtain ⟨w0, t0, q0, r0⟩ := h.at_ 0 u0 (by simp) rfl
  obtain ⟨wm, tm, q1, r1⟩ := h.at_ 1 u1 (by simp) rfl
  obtain ⟨w1, t1, q2, r2⟩ := h.at_ 2 u2 (by simp) rfl
  obtain ⟨a, b, e⟩ := shape3 q0 h.len
  subst e
  cases q1
  cases q2
  exact ⟨w0, t0, wm, tm, w1, t1, rfl, r0, r2⟩
end
theorem shape23 {us : List Value} {u0 : Value} (h0 : us[0]? = some u0) (hl : us.length = 2 ∨ us.length = 3) : ∃ um u1, us = u0 :: (um ++ [u1]) ∧ um.length ≤ 1 := by
  rcases hl with hl | hl
  · have e : us[1]? = some us[1] := List.getElem?_eq_getElem (by omega)
    exact ⟨[], us[1], shape2 h0 e hl, by decide⟩
  · obtain ⟨x, y, e⟩ := shape3 h0 hl
    exact ⟨[x], y, e, by simp⟩
theorem words_g {bs : List Blk} {u0 u1 : Value} {us um ws : List Value} (h : WordsJ bs us us.length ws) (e : us = u0 :: (um ++ [u1])) (hm : um.length ≤ 1) :
    ∃ w0 t0 mid w1 t1 ms, ws = Value.int w0 t0 :: (mid ++ [Value.int w1 t1]) ∧ mid.length = um.length ∧ IntsAre mid ms ∧ ThingW bs u0 w0 ∧ ThingW bs u1 w1 := by
  cases um with
  | nil =>
    obtain ⟨w0, t0, w1, t1, ew, q0, q1⟩ := words2 h e
    exact ⟨w0, t0, [], w1, t1, [], ew, rfl, .nil, q0, q1⟩
  | cons x r =>
    rw [List.length_cons] at hm
    obtain rfl := List.eq_nil_of_length_eq_zero (Nat.le_zero.mp (Nat.le_of_succ_le_succ hm))
    obtain ⟨w0, t0, wm, tm, w1, t1, ew, q0, q1⟩ := words3 h e
    exact ⟨w0, t0, [.int wm tm], w1, t1, [wm], ew, rfl, .cons _ _ .nil, q0, q1⟩
section
variable {w : World} {p : Program} {loose : List Str} {mean : ExcName → Option Value} {mg mb : Str → Option Value} {dp un : Nat} {gd : Option (List Code)} {cn : Str} {cs : Scope} {L a : Addr} {ccd : Value} {cl : List (Str × Addr)} {outer : List Env} {A₀ : Around} {base h₀ : Heap} {m : Str → Option Value} {news : List (Addr × Obj)} {s : Shared} {Q E : Value → Shared → Prop}
variable {ρ : Addr → Nat} {Y : Lay} {o4 : Obj} {vs : List Value} {bs : List Blk} {ts : List Value}
theorem items_L {v0 : Value} (B : Below A₀ base outer h₀) (F : Fr h₀ L s.heap m) (X : (hd.heap_39 w.params).In h₀) (N : News h₀ L s.heap news) (T : Top p loose mean mg mb h₀) (hk : cs.kind = .function) (hd1 : dp + 60 < recursionLimit) (hu1 : un + 600 < cLine) (H : Led ρ Y L o4 vs bs ts news) (hT : Things bs) (hok : ThingOk bs v0)
    (hnone : ∀ h' tk', Fr h₀ L h' m → News h₀ L h' news → NoList bs v0 → Q .none { s with heap := h', toks := tk' })
    (hlist : ∀ fl cf ks t news' h' tk', Fr h₀ L h' m → News h₀ L h' news' → (∀ q ∈ news, q ∈ news') → (fl, listOf (xsOf ks).toArray cf) ∈ news' → Chain bs v0 ks (.str "empty" t) → ks.length ≤ bs.length → Q (.ref fl) { s with heap := h', toks := tk' }) : wpAny (model PySem.Challenge.rw_on0295_01.row.prog w) (ktrTop dp un gd cn cs L a ccd cl outer) (call (.ref 428) [v0]) Q E s :=
  items_t B F X N T hk hd1 hu1 H.blk hT hok hnone hlist
theorem spread_L {wl : Addr} {w0 w1 : Int} {t0 t01 : Tok} {mid : List Value} {c : Nat} (B : Below A₀ h₀ [] h₀) (F : Fr h₀ L s.heap m) (X : (hd.heap_39 w.params).In h₀) (N : News h₀ L s.heap news) (T : Top p loose mean mg mb h₀) (hk : cs.kind = .function) (hd1 : dp + 140 < recursionLimit) (hu1 : un + 1100 < cLine) (H : Led ρ Y L o4 vs bs ts news) (h5 : vs.length < 800) (hmid : mid.length ≤ 10) (hw : (wl, listOf (Value.int w0 t0 :: (mid ++ [Value.int w1 t01])).toArray c) ∈ news) (hC : Coh vs bs) (hT : Things bs) (hG : Known bs w1)
    (hkind : ∀ r ta tn tp news' h' tk', Fr h₀ L h' m → News h₀ L h' news' → (∀ q ∈ news, q ∈ news') → (∀ k acc, ¬ (k ≤ vs.length ∧ Steps vs w1 k 20 acc)) → (r, { cls := .type "tuple", data := .seq #[Value.str "kind" ta, .str "apply" tn, .int (((Value.int w0 t0 :: (mid ++ [Value.int w1 t01])).length : Int) - 1) tp, .int w1 t01] }) ∈ news' → Q (.ref r) { s with heap := h', toks := tk' })
    (hret : ∀ r fl c1 k acc news' h' tk', Fr h₀ L h' m → News h₀ L h' news' → (∀ q ∈ news, q ∈ news') → (fl, listOf (mid ++ acc).toArray c1) ∈ news' → (r, { cls := .type "tuple", data := .seq #[Value.int w0 t0, .ref fl] }) ∈ news' → Steps vs w1 k 20 acc → Q (.ref r) { s with heap := h', toks := tk' }) : wpAny (model PySem.Challenge.rw_on0295_01.row.prog w) (ktrTop dp un gd cn cs L a ccd cl []) (call (.ref 423) [.ref Y.lx, .ref wl]) Q E s := by
  obtain ⟨c', hc'⟩ := H.cel
  obtain ⟨t1, t2, t3, t4, k1, k2, k3, dn, dn2, l1, l2, l3, l4⟩ := H.lib
  exact lspread B F X N T hk hd1 hu1 l1 l2 l3 l4 hc' h5 hmid hw (good_words hC hT) hG hkind hret
/-- what a list tells is what the words tell -/
theorem list_steps {v0 : Value} {w1 : Int} {ks : List Blk} {t : Tok} {i : Nat} {ts : List Value} (S : Sit vs bs ts i) (one : OneB bs) (ch : Chain bs v0 ks (.str "empty" t)) (q : ThingW bs v0 w1) (hle : ks.length ≤ bs.length) :
    ∃ acc, Steps vs w1 ks.length 20 acc ∧ FirstW bs ks acc ∧ ks.length ≤ vs.length := by
  obtain ⟨w, acc, qw, st, fw⟩ := chain_steps S.coh one ch q
  have e : w = 20 := by
    rcases qw with ⟨_, e⟩ | ⟨e, _⟩
    · exact e
    · exact absurd e (by decide +kernel)
  subst e
  exact ⟨acc, st, fw, Nat.le_trans hle S.few⟩
theorem Steps.end_same {w0 : Int} {k k' : Nat} {acc acc' : List Value} (h : Steps vs w0 k 20 acc) (h' : Steps vs w0 k' 20 acc') : acc = acc' := by
  have key : ∀ {a b : Nat} {x y : List Value}, Steps vs w0 a 20 x → Steps vs w0 b 20 y → ¬ b < a := fun h1 h2 hlt => by
    obtain ⟨ad, _, e, _⟩ := h1.pre hlt h2
    omega
  rcases Nat.lt_trichotomy k k' with q | rfl | q
  · exact absurd q (key h' h)
  · exact (h.det h').2
  · exact absurd q (key h h')
end
section
variable {prog : Program} {w : World} {A : Around} {E : Value → Shared → Prop} {s : Shared} {h₀ : Heap} {L l b : Addr} {m : Str → Option Value} {news : List (Addr × Obj)}
theorem add_m {xs ys : List Value} {c c' : Nat} {Q : Value → Shared → Prop} (F : Fr h₀ L s.heap m) (N : News h₀ L s.heap news) (hl : (l, listOf xs.toArray c) ∈ news) (hb : (b, listOf ys.toArray c') ∈ news) (hsz : xs.length + ys.length ≤ 100)
    (h : ∀ D h', Fr h₀ L h' m → News h₀ L h' ((D, listOf (xs ++ ys).toArray 0) :: news) → Q (.ref D) { s with heap := h' }) : wpAny (model prog w) A (binaryOp .Add (.ref l) (.ref b)) Q E s :=
  add_lists (hsz := by rw [sizeLine_eq]; omega) F N ⟨_, (N _ hl).1, rfl, c, rfl⟩ ⟨_, (N _ hb).1, rfl, c', rfl⟩ fun h' F' N' => h _ h' F' N'
/-- an item of a result tuple -/
theorem tup_item {value slice : PySem.Expr} {vs : List Value} {k : Int} {u : Tok} {v : Value} {Q : Value → Shared → Prop} (N : News h₀ L s.heap news) (hm : (l, ({ cls := .type "tuple", data := .seq vs.toArray } : Obj)) ∈ news) (h0 : 0 ≤ k) (h1 : k < (vs.length : Int)) (hhi : k < 2 ^ 63) (hx : vs[k.toNat]? = some v) (h : Q v s)
    (hs : subscripted slice false (.ref l) (.int k u) = operate [.ref l, .int k u] (getItem (.ref l) (.int k u)) := by with_unfolding_all rfl) :
    wpAny (model prog w) A (subscriptTail value slice (.ref l) (.int k u)) Q E s := by
  have ht : IsTup s.heap l vs.toArray := ⟨_, (N _ hm).1, rfl, 0, rfl⟩
  have hn : k < ((vs.toArray.size : Nat) : Int) := by rw [List.size_toArray]; exact h1
  exact tail_any ht.typeIs PySem.F.slot_tuple_getitem.lookup (getItem_tuple ht (by omega) hhi (seqIndex_of h0 hn) (by simpa using hx) h) hs
theorem tup_item0 {value slice : PySem.Expr} {u : Tok} {x y : Value} {Q : Value → Shared → Prop} (N : News h₀ L s.heap news) (hm : (l, tup2 x y) ∈ news) (h : Q x s)
    (hs : subscripted slice false (.ref l) (.int 0 u) = operate [.ref l, .int 0 u] (getItem (.ref l) (.int 0 u)) := by with_unfolding_all rfl) :
    wpAny (model prog w) A (subscriptTail value slice (.ref l) (.int 0 u)) Q E s := tup_item (vs := [x, y]) N hm (by decide) (by simp) (by decide) rfl h hs
theorem tup_item1 {value slice : PySem.Expr} {u : Tok} {x y : Value} {Q : Value → Shared → Prop} (N : News h₀ L s.heap news) (hm : (l, tup2 x y) ∈ news) (h : Q y s)
    (hs : subscripted slice false (.ref l) (.int 1 u) = operate [.ref l, .int 1 u] (getItem (.ref l) (.int 1 u)) := by with_unfolding_all rfl) :
    wpAny (model prog w) A (subscriptTail value slice (.ref l) (.int 1 u)) Q E s := tup_item (vs := [x, y]) N hm (by decide) (by simp) (by decide) rfl h hs
end
section
variable {w : World} {p : Program} {loose : List Str} {mean : ExcName → Option Value} {mg mb : Str → Option Value} {dp un : Nat} {gd : Option (List Code)} {cn : Str} {cs : Scope} {L a : Addr} {ccd : Value} {cl : List (Str × Addr)} {outer : List Env} {A₀ : Around} {base h₀ : Heap} {m : Str → Option Value} {news : List (Addr × Obj)} {s : Shared} {Q E : Value → Shared → Prop}
variable {A : Around}
set_option maxHeartbeats 8000000 in
theorem isi_list {b : Addr} {us : List Value} {c : Nat} (hb : (b, listOf us.toArray c) ∈ news) (F : Fr h₀ L s.heap m) (X : (hd.heap_39 w.params).In h₀) (N : News h₀ L s.heap news) (h : ∀ tk, Q (.bool true) { s with toks := tk }) : wpAny (model PySem.Challenge.rw_on0295_01.row.prog w) A (call (.builtin "isinstance") [.ref b, .type "list"]) Q E s := by
  k_steps
  all_goals exact h _
end
theorem start_pairs {c1 c2 c3 c4 dk dl a b c d e f g : Nat} (h : dk ≠ dl) (k1 : c1 ≠ dk) (k1' : c1 ≠ dl) (k2 : c2 ≠ dk) (k2' : c2 ≠ dl) (k3 : c3 ≠ dk) (k3' : c3 ≠ dl) (k4 : c4 ≠ dk) (k4' : c4 ≠ dl) (c12 : c1 < c2) (c23 : c2 < c3) (c34 : c3 < c4)
    (l : c4 < a ∧ c3 < a ∧ c2 < a ∧ c1 < a ∧ dk < a ∧ dl < a) (ab : a < b) (bc : b < c) (cd : c < d) (de : d < e) (ef : e < f) (fg : f < g) : PairNe [dk, dl, e, f, g, b, a, d, c, c1, c2, c3, c4] := by
  obtain ⟨a4, a3, a2, a1, ak, al⟩ := l
  have up : ∀ {x : Nat}, x < a → x < b ∧ x < c ∧ x < d ∧ x < e ∧ x < f ∧ x < g := fun hx =>
    have hb := Nat.lt_trans hx ab
    have hc := Nat.lt_trans hb bc
    have hd := Nat.lt_trans hc cd
    have he := Nat.lt_trans hd de
    have hf := Nat.lt_trans he ef
    ⟨hb, hc, hd, he, hf, Nat.lt_trans hf fg⟩
  have p4 := up a4
  have p3 := up a3
  have p2 := up a2
  have p1 := up a1
  have pk := up ak
  have pl := up al
  have bd := Nat.lt_trans bc cd
  have be := Nat.lt_trans bd de
  have bf := Nat.lt_trans be ef
  have bg := Nat.lt_trans bf fg
  have ce := Nat.lt_trans cd de
  have cf := Nat.lt_trans ce ef
  have cg := Nat.lt_trans cf fg
  have df := Nat.lt_trans de ef
  have dg := Nat.lt_trans df fg
  have eg := Nat.lt_trans ef fg
  have c13 := Nat.lt_trans c12 c23
  have c24 := Nat.lt_trans c23 c34
  have c14 := Nat.lt_trans c13 c34
  have ac := Nat.lt_trans ab bc
  have ad := Nat.lt_trans ac cd
  have ae := Nat.lt_trans ad de
  have af := Nat.lt_trans ae ef
  have ag := Nat.lt_trans af fg
  repeat' (first | exact True.intro | refine And.intro ?_ ?_)
  all_goals first | assumption | exact Ne.symm (by assumption) | exact Nat.ne_of_lt (by assumption) | exact Nat.ne_of_gt (by assumption) | exact Nat.ne_of_lt (And.left (by assumption)) | exact Nat.ne_of_gt (And.left (by assumption)) | exact Nat.ne_of_lt (And.left (And.right (by assumption))) | exact Nat.ne_of_gt (And.left (And.right (by assumption))) | exact Nat.ne_of_lt (And.left (And.right (And.right (by assumption)))) | exact Nat.ne_of_gt (And.left (And.right (And.right (by assumption)))) | exact Nat.ne_of_lt (And.left (And.right (And.right (And.right (by assumption))))) | exact Nat.ne_of_gt (And.left (And.right (And.right (And.right (by assumption))))) | exact Nat.ne_of_lt (And.left (And.right (And.right (And.right (And.right (by assumption)))))) | exact Nat.ne_of_gt (And.left (And.right (And.right (And.right (And.right (by assumption)))))) | exact Nat.ne_of_lt (And.right (And.right (And.right (And.right (And.right (by assumption)))))) | exact Nat.ne_of_gt (And.right (And.right (And.right (And.right (And.right (by assumption))))))
/-- what due tells, three ways -/
def ToldIs (ρ : Addr → Nat) (I : Addr) (n : List (Addr × Obj)) (vs : List Value) (bs : List Blk) (ts : List Value) (i : Nat) (rr : Int) (v : Value) (bs' : List Blk) : Prop :=
  (PlainIs v ∧ ThingW bs' v rr ∧ Sit vs bs' (ts ++ [v]) i) ∨ (∃ k : Blk, bs' = bs ∧ k ∈ bs' ∧ v = .ref k.b ∧ rr = (k.ad : Int) * 8 + 1 ∧ Sit vs bs' (ts ++ [v]) i) ∨
  ∃ k : Blk, bs' = bs ∧ v = .ref k.b ∧ ρ k.b = 0 ∧ I < k.b ∧ (k.b, listOf k.us.toArray k.c) ∈ n ∧ rr = (k.ad : Int) * 8 + 1 ∧ ∀ tu tw, Sit vs (bs' ++ [{ k with tu := tu, tw := tw }]) (ts ++ [v]) i
theorem ToldIs.keep {ρ : Addr → Nat} {I : Addr} {n n' : List (Addr × Obj)} {vs : List Value} {bs : List Blk} {ts : List Value} {i : Nat} {rr : Int} {v : Value} {bs' : List Blk} (h : ToldIs ρ I n vs bs ts i rr v bs') (kp : Keep0 ρ n n') : ToldIs ρ I n' vs bs ts i rr v bs' := by
  rcases h with h | h | ⟨k, a, b, c, d, e, f⟩
  · exact .inl h
  · exact .inr (.inl h)
  · exact .inr (.inr ⟨k, a, b, c, d, kp.at e c, f⟩)
def ToldEnd (Y : Lay) (L : Addr) (o4 : Obj) (vs ts : List Value) (v : Value) (rr : Int) (ta t : Tok) (r I : Addr) (oI : Obj) (i : Nat) (n : List (Addr × Obj)) : Prop :=
  ∃ ρ bs, Led ρ Y L o4 vs bs ts n ∧ (I, oI) ∈ n ∧ ρ I = 0 ∧ (r, tup2 (.str "told" ta) (.int rr t)) ∈ n ∧ ThingW bs v rr ∧ Sit vs bs (ts ++ [v]) i
theorem cut_5 {M : Model} {A : Around} {env : Env} {st : Stmt} {rest : List Stmt} {Q : Flow → Shared → Prop} {E : Value → Shared → Prop} {s : Shared} {h₀ : Heap} {L : Addr} {m : Str → Option Value} (Y : Lay) (o4 : Obj) (vs ts : List Value) (v : Value) (rr : Int) (ta t : Tok) (r I : Addr) (oI : Obj) (i : Nat) (_F : Fr h₀ L s.heap m)
    (h1 : wpAny M A (exec st env) (CutMid (TurnMid h₀ L s (fun m' n => m' = m ∧ ToldEnd Y L o4 vs ts v rr ta t r I oI i n))) E s)
    (h2 : ∀ h tk n, Fr h₀ L h m → News h₀ L h n → ToldEnd Y L o4 vs ts v rr ta t r I oI i n → wpAny M A (execs rest env) Q E { s with heap := h, toks := tk }) : wpAny M A (execs (st :: rest) env) Q E s := cut_execs _ h1 fun s' hm => by
  obtain ⟨h, tk, m', n, rfl, F, N, rfl, p⟩ := hm
  exact h2 h tk n F N p
section
variable {w : World} {p : Program} {loose : List Str} {mean : ExcName → Option Value} {mg mb : Str → Option Value} {dp un : Nat} {gd : Option (List Code)} {cn : Str} {cs : Scope} {L a : Addr} {ccd : Value} {cl : List (Str × Addr)} {outer : List Env} {A₀ : Around} {base h₀ : Heap} {m : Str → Option Value} {news : List (Addr × Obj)} {s : Shared} {Q E : Value → Shared → Prop}
variable {ρ : Addr → Nat} {Y : Lay} {o4 : Obj} {vs : List Value} {bs : List Blk} {ts : List Value}
theorem due_any_L {sl I : Addr} {oI : Obj} {us vs' : List Value} {u0 : Value} {op w0 w1 rr : Int} {tn t0 t01 : Tok} {c i : Nat} (B : Below A₀ base outer h₀) (F : Fr h₀ L s.heap m) (X : (hd.heap_39 w.params).In h₀) (N : News h₀ L s.heap news) (T : Top p loose mean mg mb h₀) (hk : cs.kind = .function) (hd1 : dp + 60 < recursionLimit) (hu1 : un + 600 < cLine) (H : Led ρ Y L o4 vs' bs ts news) (hs : (sl, listOf us.toArray c) ∈ news) (hz : ρ sl = 0) (ho : 0 ≤ op) (ho' : op < 12)
    (S : Sit vs bs ts i) (hi : i < 12) (hl : (us.length : Int) = rowMany op) (ht : ∀ u ∈ us, u ∈ ts) (h0 : us[0]? = some u0) (q0 : ThingW bs u0 w0) (h1 : 1 < us.length → ∃ u1, us[1]? = some u1 ∧ ThingW bs u1 w1) (hR : RunOut vs op w0 w1 t0 t01 rr vs') (hI : (I, oI) ∈ news)
    (hret : ∀ r ta v bs' news' h' tk', Fr h₀ L h' m → News h₀ L h' news' → Led ρ Y L o4 vs' bs' ts news' → Keep0 ρ news news' → KeepT news news' → (r, tup2 (.str "told" ta) v) ∈ news' → ToldIs ρ I news' vs' bs ts (i + 1) rr v bs' → Q (.ref r) { s with heap := h', toks := tk' }) : wpAny (model PySem.Challenge.rw_on0295_01.row.prog w) (ktrTop dp un gd cn cs L a ccd cl outer) (call (.ref 409) [.str (rowName op) tn, .ref sl]) Q E s :=
  due_good_L B F X N T hk hd1 hu1 H hs hz ho ho' S hi hl ht h0 q0 h1 hR (fun r ta v bs' n' h' tk' F' N' H' k kt z a b d => hret r ta v bs' n' h' tk' F' N' H' k kt z (.inl ⟨a, b, d⟩))
    (fun r ta kb n' h' tk' F' N' H' k kt z a b d => hret r ta _ bs n' h' tk' F' N' H' k kt z (.inr (.inl ⟨kb, rfl, a, rfl, b, d⟩)))
    (fun r ta kb n' h' tk' F' N' H' k kt z a b d e f => hret r ta _ bs n' h' tk' F' N' H' k kt z (.inr (.inr ⟨kb, rfl, rfl, a, b _ hI, d, e, f⟩)))
end
theorem ln_M1_1 : True := by
  k_with "L:m idx" => (first | decide | ((try simp only [List.length_append, List.length_cons, List.length_nil, List.length_set]); omega))
  k_with "L:m len" => ((try simp only [List.length_append, List.length_cons, List.length_nil, List.length_set]); omega)
  k_with "L:k_mem" => (assumption)
  k_with "L:k_all" => (first | assumption | (refine allLt_ne (by assumption) ?_; intro q hq; (repeat (refine List.Mem.tail _ ?_)); exact hq))
  k_with "L:newList" => (k_here; k_dflt (refine' newList_K (by k_asm) (by k_asm) ?_; k_whole); intro lz' hz' Fz' Nz' l1; (have l2 := l1); (try k_lt l2); (try k_sweep))
  k_with "L:call builtin:len" => (k_here; (with_reducible show wpAny _ _ (call (Value.builtin "len") [Value.ref _]) _ _ _); k_dflt (refine' kst_len (by k_asm) (by k_mem) (by exact rfl) (by walk_at "m len") ?_; k_whole))
  k_with "L:subscriptTail" => (k_here; (with_reducible show wpAny _ _ (subscriptTail _ _ (Value.ref _) (Value.int _ _)) _ _ _); k_dflt (refine' item_m (by k_asm) (by k_mem) (by walk_at "m idx") (by walk_at "m idx") (by first | assumption | exact rfl | exact (by assumption : 1 < _ → _ = some _) (by omega)) ?_ (by with_unfolding_all rfl); k_whole))
  k_with "L:setItem ref int" => (k_here; (with_reducible show wpAny _ _ (setItem (Value.ref _) (Value.int _ _) _) _ _ _); k_dflt (refine' set_m (by k_asm) (by k_asm) (by k_upd) (by omega) (by walk_at "m len") (by walk_at "m len") ?_; k_whole); intro hz' Fz' Nz'; (try k_sweep))
  k_with "L:call builtin:list.append" => (k_here; (with_reducible show wpAny _ _ (call (Value.builtin _) [Value.ref _, _]) _ _ _); k_dflt (refine' append_m (by k_asm) (by k_asm) (by k_upd) (by walk_at "m len") ?_; k_whole); intro hz' Fz' Nz'; (try k_sweep))
  k_with "L:call builtin:list.extend" => (k_here; (with_reducible show wpAny _ _ (call (Value.builtin _) [Value.ref _, Value.ref _]) _ _ _); k_dflt (refine' extend_m (by k_asm) (by k_asm) (by k_mem) (by k_upd) (by walk_at "m len") (by walk_at "m len") ?_; k_whole); intro hz' Fz' Nz'; (try k_sweep))
  k_with "L:call ref" => (k_here; (with_reducible show wpAny _ _ (call (Value.ref 106) _ _) _ _ _); k_dflt (refine' payload_r (by k_asm) (by k_asm) (by k_asm) (by k_asm) (by k_asm) (by first | exact rfl | assumption) (by ktr_room) (by ktr_units) ?_; k_whole); intro tz' hz' tkz' Fz' Nz'; (try dsimp only); (try k_sweep))
  k_with "L:call ref" => (k_here; (with_reducible show wpAny _ _ (call (Value.ref 148) _ _) _ _ _); k_dflt (refine' is_ref_r (by k_asm) (by k_asm) (by k_asm) (by k_asm) (by k_asm) (by first | exact rfl | assumption) (by ktr_room) (by ktr_units) ?_; k_whole); intro hz' tkz' Fz' Nz'; (try dsimp only); (try k_sweep))
  k_with "L:call ref" => (k_here; (with_reducible show wpAny _ _ (call (Value.ref 155) _ _) _ _ _); k_dflt (refine' is_header_y (by k_asm) (by k_asm) (by k_asm) (by k_asm) (by k_asm) (by first | exact rfl | assumption) (by ktr_room) (by ktr_units) (by walk_at "m prem") ?_; k_whole); intro hz' tkz' Fz' Nz'; (try dsimp only); (try k_sweep))
  k_with "L:m enterC" => (refine wpAny_call ?_; k_dflt (refine' code_defC (by k_asm) (by k_asm) (by k_asm) (by k_asm) (by k_asm) (by exact rfl) (by exact rfl) (by assumption) (by k_is) (by k_is) (by ktr_room) (by exact BindsTo.of_eq rfl) (by exact rfl) (by decide +kernel) ?_ (by exact rfl) (by exact rfl) (by exact rfl); k_whole; intro gz' Lz' hz' tkz' cellsz' FGz' Fz' Nz' Yz' Bz' Xz' Tz' l1; (try k_lt l1); k_cells Yz'; (try simp only [List.cons_append, List.nil_append] at Nz'); (try dsimp only); (try k_fold)))
  k_with "L:m news" => (first | k_asm | assumption | exact news_tl' (by assumption) | exact news_tl' (news_tl' (by assumption)) | exact news_tl' (news_tl' (news_tl' (by assumption))))
  k_with "L:m up" => (intro q9 hq9; first | exact hq9 | exact .tail _ hq9 | exact .tail _ (.tail _ hq9) | exact .tail _ (.tail _ (.tail _ hq9)) | exact .tail _ (.tail _ (.tail _ (.tail _ hq9))) | exact .tail _ (.tail _ (.tail _ (.tail _ (.tail _ hq9)))))
  k_with "L:m blk" => (first | with_reducible assumption | (refine BlkIns.mono (by assumption) ?_; walk_at "m up"))
  k_with "L:m prem" => (first | with_reducible assumption | ((with_reducible show BlkIns _ _); walk_at "m blk") | exact rfl | k_mem | omega | assumption | decide)
  k_with "L:m sub2" => (first | with_reducible assumption | exact sub_tl (by with_reducible assumption) | exact sub_tl (sub_tl (by with_reducible assumption)) | exact sub_tl (sub_tl (sub_tl (by with_reducible assumption))) | walk_at "m up")
  k_with "L:m prem" => (first | with_reducible assumption | omega)
  k_with "L:call ref cons nil" => (k_here; (with_reducible show wpAny _ _ (call (Value.ref 369) _ _) _ _ _); k_dflt (refine' deck_t (by k_asm) (by k_asm) (by k_asm) (by k_asm) (by k_asm) (by first | exact rfl | assumption) (by ktr_room) (by ktr_units) (by walk_at "m prem") (by walk_at "m prem") (by walk_at "m prem") ?_; k_whole); intro dkz' dlz' nz' hz' tkz' Fz' Nz' sbz' Dz' ofz'; (try dsimp only); (try k_sweep))
  k_with "L:m led" => (first | with_reducible assumption | (refine Led.mono (by with_reducible assumption) ?_; walk_at "m up"))
  k_with "L:m prem" => (first | with_reducible assumption | ((with_reducible show Led _ _ _ _ _ _ _ _); walk_at "m led") | omega | exact rfl | decide | k_mem)
  k_with "L:room" => (exact room0 rfl)
  k_with "L:units" => (exact room0 rfl)
  k_with "L:m cut" => (refine cutMid_intro (by k_asm) (by k_asm) ?_)
  k_with "L:m zero" => (first | with_reducible assumption | exact zero_of_lt (by with_reducible assumption) (by walk_at "m led"))
  k_with "L:m keep9" => (first | with_reducible assumption | with_reducible exact List.mem_cons_self | with_reducible exact List.mem_cons_of_mem _ (by with_reducible assumption) | with_reducible exact List.mem_cons_of_mem _ (List.mem_cons_of_mem _ (by with_reducible assumption)) | with_reducible exact List.mem_cons_of_mem _ (Keep0.at (by with_reducible assumption) (by with_reducible assumption) (by with_reducible assumption)) | exact Keep0.at (by with_reducible assumption) (by first | with_reducible assumption | with_reducible exact List.mem_cons_self | with_reducible exact List.mem_cons_of_mem _ (by with_reducible assumption)) (by walk_at "m zero"))
  k_with "L:call ref cons nil" => (k_here; (with_reducible show wpAny _ _ (call (Value.ref 376) _ _) _ _ _); k_dflt (refine' draw_L (by k_asm) (by k_asm) (by k_asm) (by k_asm) (by k_asm) (by first | exact rfl | assumption) (by ktr_room) (by ktr_units) (by walk_at "m prem") (by walk_at "m prem") (by walk_at "m prem") ?_; k_whole); intro rz' tz' nz' hz' tkz' Fz' Nz' Hz' kpz' r0z' r1z'; (try dsimp only); (try k_sweep))
  k_with "L:compareOp Eq str str" => (k_here; (with_reducible show wpAny _ _ (compareOp CmpOp.Eq (Value.str (rowName _) _) (Value.str _ _)) _ _ _); k_dflt (refine eq_name_spread (by with_reducible assumption) (by with_reducible assumption) ?_))
  k_with "L:compareOp NotEq ref ref" => (k_here; k_dflt (refine' ne_tup3 (by k_asm) (by k_mem) (by k_mem) (by ktr_units) (by decide +kernel) (by exact name_ok (by with_reducible assumption) (by with_reducible assumption)) (by exact rfl) (by exact rfl) (by omega) ?_; k_whole))
  k_with "L:compareOp NotEq ref ref" => (k_here; k_dflt (refine' ne_tup4 (by k_asm) (by k_mem) (by k_mem) (by ktr_units) (by decide +kernel) (by first | exact name_ok (by with_reducible assumption) (by with_reducible assumption) | decide +kernel) (by exact rfl) (by exact rfl) (by first | with_reducible assumption | exact rfl) (by exact rfl) ?_; k_whole))
  k_with "L:compareOp NotEq ref ref" => (k_here; k_dflt (refine' ne_tupl (by k_asm) (by with_reducible assumption) (by with_reducible assumption) (by with_reducible assumption) (by with_reducible assumption) (by with_reducible assumption) (by with_reducible assumption) (by ktr_units) ?_; k_whole))
  k_with "L:binaryOp Add ref ref" => (k_here; refine hold_in ?_)
  k_with "L:m off" => (repeat (first | exact lawOff_base | with_reducible refine lawOff_9 ?_ | with_reducible refine lawOff_8 ?_ | with_reducible refine lawOff_7 ?_ | with_reducible refine lawOff_6 ?_ | with_reducible refine lawOff_5 ?_ | with_reducible refine lawOff_4 ?_ | with_reducible refine lawOff_3 ?_ | with_reducible refine lawOff_2 ?_ | with_reducible refine lawOff_1 ?_))
  k_with "L:m end" => (refine' law_end (by k_asm) (by k_asm) (by walk_at "m led") (by walk_at "m keep9") (by with_reducible assumption) (by with_reducible assumption) (by first | with_reducible assumption | exact Sit.up (by with_reducible assumption)) (by first | exact .inl rfl | exact .inr rfl) (lawP_off (by walk_at "m off")))
  k_with "L:call ref cons nil" => (k_here; (with_reducible show wpAny _ _ (call (Value.ref 416) _ _) _ _ _); refine hold_in ?_)
  k_with "L:call ref cons nil" => (k_here; (with_reducible show wpAny _ _ (call (Value.ref 409) _ _) _ _ _); refine hold_in ?_)
  k_with "L:call ref cons nil" => (k_here; (with_reducible show wpAny _ _ (call (Value.ref 423) _ _) _ _ _); refine hold_in ?_)
  k_with "L:call ref cons nil" => (k_here; (with_reducible show wpAny _ _ (call (Value.ref 428) _ _) _ _ _); refine hold_in ?_)
  k_with "L:call ref cons nil" => (k_here; (with_reducible show wpAny _ _ (call (Value.ref 388) _ _) _ _ _); k_dflt (refine' word_L (by k_asm) (by k_asm) (by k_asm) (by k_asm) (by k_asm) (by first | exact rfl | assumption) (by ktr_room) (by ktr_units) (by walk_at "m prem") (by walk_at "m prem") ?_; k_whole); intro tz' hz' tkz' Fz' Nz'; (try dsimp only); (try k_sweep))
  k_with "L:call ref cons nil" => (k_here; (with_reducible show wpAny _ _ (call (Value.ref 383) _ _) _ _ _); k_dflt (refine' one_L (by k_asm) (by k_asm) (by k_asm) (by k_asm) (by k_asm) (by first | exact rfl | assumption) (by ktr_room) (by ktr_units) (by walk_at "m prem") (by walk_at "m prem") (by walk_at "m prem") ?_; k_whole); intro vz' nz' hz' tkz' Fz' Nz' Hz' kpz' mz'; (try dsimp only); (try k_sweep))
  k_with "L:subscriptTail" => (k_here; (with_reducible show wpAny _ _ (subscriptTail _ _ (Value.ref _) (Value.int (-1) _)) _ _ _); k_dflt (refine' item_last (by k_asm) (by k_mem) (by with_reducible assumption) (by walk_at "m len") ?_ (by with_unfolding_all rfl); k_whole))
  k_with "L:subscriptTail Name Slice ref ref" => (k_here; k_dflt (refine' slice_m (by k_asm) (by k_asm) (by k_mem) (by kmk_part) (by kmk_part) (by exact pick_mid _ _ _) (by walk_at "m len") ?_ (by with_unfolding_all rfl) (by kmk_pure); k_whole); intro Dz' hz' Fz' Nz' l1; (try k_lt l1); (try k_sweep))
  k_with "L:subscriptTail" => (k_here; (with_reducible show wpAny _ _ (subscriptTail _ _ (Value.ref (Lay.dk _)) (Value.int 0 _)) _ _ _); k_dflt (refine' deck_item (by k_asm) (by walk_at "m led") ?_ (by with_unfolding_all rfl); k_whole))
  k_with "L:storeName" => (k_here; (with_reducible show wpAny _ _ (storeName _ "_law_thing" _) _ _ _); refine hold_in ?_)
  k_with "L:call builtin:list.append" => (k_here; refine hold_in ?_)
  k_with "L:call builtin:isinstance" => (k_here; (with_reducible show wpAny _ _ (call (Value.builtin "isinstance") [_, Value.type "list"]) _ _ _); k_dflt (refine' isi_plain (by with_reducible assumption) (by k_asm) (by k_asm) (by k_asm) ?_; k_whole); intro tkz')
  k_with "L:compareOp Is ref ref" => (k_here; (with_reducible show wpAny _ _ (compareOp CmpOp.Is (Value.ref _) (Value.ref _)) _ _ _); k_dflt (refine' is_other_m (by k_asm) (by k_mem) (by k_mem) (by with_reducible assumption) (by decide) ?_; k_whole))
  k_with "L:compareOp Eq ref ref" => (k_here; k_dflt (refine' eq_nil1 (by k_asm) (by k_mem) (by k_mem) (by assumption) (by ktr_units) ?_; k_whole))
  k_with "L:compareOp Eq ref ref" => (k_here; k_dflt (refine' eq_nil0 (by k_asm) (by k_mem) (by k_mem) (by ktr_units) ?_; k_whole))
  k_with "L:call ref cons nil" => (k_here; (with_reducible show wpAny _ _ (call (Value.ref 433) _ _) _ _ _); k_dflt (refine' whole_L (by k_asm) (by k_asm) (by k_asm) (by k_asm) (by k_asm) (by first | exact rfl | assumption) (by ktr_room) (by ktr_units) (by walk_at "m prem") (by walk_at "m prem") (by walk_at "m prem") (by walk_at "m prem") ?_; k_whole); intro hz' tkz' Fz' Nz'; (try dsimp only); (try k_sweep))
  k_with "L:compareOp Eq ref ref" => (k_here; (with_reducible show wpAny _ _ (compareOp CmpOp.Eq (Value.ref (Lay.dl _)) (Value.ref _)) _ _ _); k_dflt (refine' deck_nil (by k_asm) (by walk_at "m led") (by k_mem) (by ktr_units) ?_; k_whole); intro b9; cases b9)
  k_with "L:k_mem" => (first | walk_at "m keep9" | with_reducible exact List.mem_cons_of_mem _ (Keep0.at (by with_reducible assumption) (by with_reducible assumption) (by with_reducible assumption)) | exact Led.c1 (by walk_at "m led") | exact Led.c2 (by walk_at "m led") | exact Led.c3 (by walk_at "m led") | exact Led.c4 (by walk_at "m led"))
  k_with "L:subscriptTail" => (k_here; (with_reducible show wpAny _ _ (subscriptTail _ _ (Value.ref 182) (Value.int _ _)) _ _ _); k_dflt (refine' row_item (by k_asm) (by k_asm) (by omega) (by omega) ?_ (by with_unfolding_all rfl); k_whole))
  k_with "L:assign Tuple" => (k_here; (with_reducible show wpAny _ _ (assign (Expr.Tuple _ _ _) _ (Value.ref (170 + Int.toNat _))) _ _ _); k_dflt (refine' row_unpack (by k_asm) (by k_asm) (by k_asm) (by omega) (by omega) (by exact rfl) (by exact rfl) (by exact rfl) ?_); intro hz' Fz' Nz'; (try dsimp only); (try k_sweep))
  k_with "L:eval ListComp" => (k_here; k_dflt (refine PyProof.Rows.LCg.ListComp_U (F₀ := by k_asm) (by with_unfolding_all rfl) (by decide) (by rfl) (by decide) (by rfl) ?_))
  k_with "L:eval ListComp" => (k_here; (with_reducible show wpAny _ _ (eval (Expr.ListComp _ [⟨Expr.Tuple _ _ _, _, _, _⟩] _ _) _) _ _ _); k_dflt (refine pair_comp (by k_asm) (by with_unfolding_all rfl) (by decide) (by rfl) (by decide) (by rfl) (by rfl) (by decide) ?_))
  k_with "L:exec Assign cons ListComp" => (k_here; k_dflt (refine PyProof.Rows.LCg.Assign_ListComp_U (F₀ := by k_asm) (by rfl) (by with_unfolding_all rfl) (by with_unfolding_all rfl) (by decide) (by rfl) (by decide) (by rfl) (by rfl) (by rfl) ?_))
  k_with "L:CompSrc" => (refine hold_in ?_)
  k_with "L:subscriptTail List cons Call ref int" => (k_here; k_dflt (refine' delta_item (by k_asm) (by walk_at "m keep9") (by assumption) (by assumption) ?_ (by with_unfolding_all rfl); k_whole); intro d9 t9 d90 d91)
  k_with "L:call builtin:isinstance" => (k_here; (with_reducible show wpAny _ _ (call (Value.builtin "isinstance") [Value.ref _, Value.type "list"]) _ _ _); k_dflt (refine' isi_list (by walk_at "m tup") (by k_asm) (by k_asm) (by k_asm) ?_; k_whole); intro tkz')
  k_with "L:eval Name" => (k_here; (with_reducible show wpAny _ _ (eval (Expr.Name "_law_word" _) (compEnvC _ _ _ _)) _ _ _); k_dflt (refine LCgL.ld_global (by k_asm) (by k_asm) (by k_asm) (by k_is) ?_))
  k_with "L:eval Name" => (k_here; (with_reducible show wpAny _ _ (eval (Expr.Name "_law_one" _) (compEnvC _ _ _ _)) _ _ _); k_dflt (refine LCgL.ld_global (by k_asm) (by k_asm) (by k_asm) (by k_is) ?_))
  k_with "L:subscriptTail Name Constant ref int" => (k_here; k_dflt (refine' item_m (by k_asm) (by walk_at "m tup") (by decide) (by decide) (by first | with_reducible assumption | exact rfl) ?_ (by with_unfolding_all rfl); k_whole))
  k_with "L:subscriptTail Name Constant ref int" => (k_here; (with_reducible show wpAny _ _ (subscriptTail _ _ (Value.ref _) (Value.int 0 _)) _ _ _); k_dflt (refine' tup_item0 (by k_asm) (by walk_at "m tup") ?_ (by with_unfolding_all rfl); k_whole))
  k_with "L:subscriptTail Name Constant ref int" => (k_here; (with_reducible show wpAny _ _ (subscriptTail _ _ (Value.ref _) (Value.int 1 _)) _ _ _); k_dflt (refine' tup_item1 (by k_asm) (by walk_at "m tup") ?_ (by with_unfolding_all rfl); k_whole))
  k_with "L:m tup" => (first | with_reducible assumption | with_reducible exact List.mem_cons_self | with_reducible exact List.mem_cons_of_mem _ (by with_reducible assumption) | with_reducible exact List.mem_cons_of_mem _ (List.mem_cons_of_mem _ (by with_reducible assumption)))
  trivial
theorem ne_int_no {w : World} {prog : Program} {A : Around} {E : Value → Shared → Prop} {s : Shared} {Q : Value → Shared → Prop} {a b : Int} {t u : Tok} (e : a = b) (h : Q (.bool false) s) : wpAny (model prog w) A (compareOp .NotEq (.int a t) (.int b u)) Q E s := by
  refine ne_int ?_
  rw [e]
  simpa using h
theorem ne_int_yes {w : World} {prog : Program} {A : Around} {E : Value → Shared → Prop} {s : Shared} {Q : Value → Shared → Prop} {a b : Int} {t u : Tok} (e : ¬ a = b) (h : Q (.bool true) s) : wpAny (model prog w) A (compareOp .NotEq (.int a t) (.int b u)) Q E s := by
  refine ne_int ?_
  rw [bne_iff_ne.mpr e]
  exact h
theorem ln_M1_2 : True := by
  k_with "L:compareOp NotEq int int" => (k_here; first | refine ne_int_no (by first | with_reducible rfl | with_reducible assumption) ?_ | refine ne_int_yes (by with_reducible assumption) ?_)
  k_with "L:storeName" => (k_here; rename HoldMark => hmk9; clear hmk9; refine hold_in ?_)
  trivial
def HoldMark2 : Prop := True
inductive HoldMark3 : Prop
  | mk
theorem ln_M1_3 : True := by
  k_with "L:execs cons If cons" => (k_here; (with_reducible show wpAny _ _ (execs (Stmt.If (Expr.BoolOp _ _ _) _ _ _ :: _) _) _ _ _); rename HoldMark3 => hmk9; clear hmk9; refine hold_in ?_)
  k_with "L:exec For Name Call cons nil" => (k_here; rename HoldMark2 => hmk9; clear hmk9; refine hold_in ?_)
  trivial
theorem gen_QE {α : Type} {M : Model} {A : Around} {t : Sem α} {Q : α → Shared → Prop} {E : Value → Shared → Prop} {s : Shared} (h : ∀ Q' E', Q' = Q → E' = E → wpAny M A t Q' E' s) : wpAny M A t Q E s := h Q E rfl rfl
theorem news_nil (h₀ : Heap) (L : Addr) (h : Heap) : News h₀ L h [] := fun _ hq => nomatch hq
theorem news_cons {h₀ h : Heap} {L : Addr} {q : Addr × Obj} {n : List (Addr × Obj)} (hq : h.get? q.1 = some q.2 ∧ q.1 ≠ L ∧ h₀.get? q.1 = none) (N : News h₀ L h n) : News h₀ L h (q :: n) := fun p hp => by
  rcases List.mem_cons.mp hp with rfl | hp
  · exact hq
  · exact N p hp
set_option maxHeartbeats 16000000 in
theorem turns : PySem.Challenge.rw_on0295_01.Holds := by
  w_on
  refine holds_law said0 fun said => ?_
  refine holds_open (q := hd.view_39) (loose := ["FALSE", "TRUE", "EMPTY_LIST", "UNSPECIFIED_WORD"]) (Xt := fun s => xlAt hd.view_39 [("FALSE", WData.int 4), ("TRUE", WData.int 12), ("EMPTY_LIST", WData.int 20), ("UNSPECIFIED_WORD", WData.int 28)] s && recOk (RowW.records (OpenRow.toRowW (OpenLaw.row PySem.Challenge.rw_on0295_01))) s) (XP := XL hd.view_39 [("FALSE", WData.int 4), ("TRUE", WData.int 12), ("EMPTY_LIST", WData.int 20), ("UNSPECIFIED_WORD", WData.int 28)]) (Yf := Hook.obs hook0) (Ya := Hook.val hook0) (YP := Hook.says hook0) (N := 6282) left0 (Hook.of hook0) (Hook.keeps hook0) (fun s e => xl_of s (Bool.and_eq_true_iff.mp e).1) XL.keeps (by rfl) (by rfl) (by rfl) (fun s e => recFacts_of (Bool.and_eq_true_iff.mp e).2) (by rfl) (by first | assumption | decide +kernel) (by decide +kernel) ⟨rfl, rfl, rfl, rfl, rfl, by decide +kernel⟩ ?hw ?hc
  case hw => w_witness2
  k_go0
  refine gen_QE fun Qg Eg hQg hEg => ?_
  have hmk : HoldMark := trivial
  k_steps
  refine hold_out ?_
  rename DeckIn _ _ _ => DK
  rename ∀ (q : Addr × Obj), q ∈ (_ : List (Addr × Obj)) → q ∈ (_ : List (Addr × Obj)) => SB
  rename ∀ (q : Addr × Obj), q ∈ (_ : List (Addr × Obj)) → q.1 ≠ _ ∧ q.1 ≠ _ => OFF
  rename News _ _ _ _ => NN
  obtain ⟨hne, vs0, ns0, mx, tm, lc, dc, e1, e2, hi0, h00, h24, hx0, hx1⟩ := DK
  have S4 := SB _ (.tail _ (.tail _ (.tail _ (.head _))))
  have S3 := SB _ (.tail _ (.tail _ (.head _)))
  have S2 := SB _ (.tail _ (.head _))
  have S1 := SB _ (.head _)
  obtain ⟨O4a, O4b⟩ := OFF _ (.tail _ (.tail _ (.tail _ (.head _))))
  have O4a : @Ne Nat _ _ := O4a
  have O4b : @Ne Nat _ _ := O4b
  dsimp only at O4a O4b
  obtain ⟨O3a, O3b⟩ := OFF _ (.tail _ (.tail _ (.head _)))
  have O3a : @Ne Nat _ _ := O3a
  have O3b : @Ne Nat _ _ := O3b
  dsimp only at O3a O3b
  obtain ⟨O2a, O2b⟩ := OFF _ (.tail _ (.head _))
  have O2a : @Ne Nat _ _ := O2a
  have O2b : @Ne Nat _ _ := O2b
  dsimp only at O2a O2b
  obtain ⟨O1a, O1b⟩ := OFF _ (.head _)
  have O1a : @Ne Nat _ _ := O1a
  have O1b : @Ne Nat _ _ := O1b
  dsimp only at O1a O1b
  have N9 := news_cons (NN _ S1) (news_cons (NN _ S2) (news_cons (NN _ S3) (news_cons (NN _ S4) (news_cons (NN _ e1) (news_cons (NN _ e2) (news_nil _ _ _))))))
  have hne' : @Ne Nat _ _ := hne
  clear NN SB OFF
  have hmk : HoldMark2 := trivial
  k_steps
  refine hold_out ?_
  rename News _ _ _ _ => NN
  rename Fr _ _ _ _ => FF
  have ST := law_start NN hi0 h00 h24 hx0 hx1 (by assumption) (by assumption) (by assumption) (by assumption)
  specialize ST (pairNe (start_pairs hne' O4a O4b O3a O3b O2a O2b O1a O1b (Nat.lt_succ_self _) (Nat.lt_succ_self _) (Nat.lt_succ_self _) (by with_reducible assumption) (by with_reducible assumption) (And.left (by with_reducible assumption)) (by with_reducible assumption) (And.left (by with_reducible assumption)) (And.left (by with_reducible assumption)) (And.left (by with_reducible assumption))))
  obtain ⟨Y, ρ, nw, N1, H, hlx, hhx, y1, y2, y3⟩ := ST
  obtain ⟨m00, FB⟩ := lawB_of FF hlx hhx
  clear FF
  refine law_for' (by rfl) H (by assumption) sit_start FB rfl rfl rfl ?iter ?turn ?done (hE := by subst hEg; passes_own)
  case iter =>
    clear NN
    k_steps
    all_goals (refine ⟨_, _, _, _, _, _, _, _, rfl, rfl, by assumption, ?_, ?_, by assumption, by assumption, ?_⟩)
    all_goals first | omega | ((try dsimp only); walk_at "m led")
  case done =>
    intro u1 u2 u3 u4 u5 u6 u7 u8 u9 nx h tk F9 N9
    clear NN
    subst hQg
    subst hEg
    k_steps
  case turn =>
    intro n i k t ρ9 o49 v49 vs bs ts u2 u3 u4 u5 u6 u7 u8 u9 nx h tk I oI hn hi H9 hI d49 S9 F9 N9
    clear NN
    have y19 := y1
    refine cut_1 F9 H9 ?_ ?_
    · k_steps
      refine cutMid_intro (by k_asm) (by k_asm) ?_
      refine ⟨_, _, _, _, _, _, _, _, _, _, lawM_off ?_, by assumption, by assumption, by walk_at "m keep9", by walk_at "m led"⟩
      walk_at "m off"
    clear F9 N9 H9
    intro h tk u1 op t u3 u4 u5 u6 u7 u8 u9 nx op0 op1 F9 N9 hI9 H9
    refine cut_2 F9 H9 hI9 ?_ ?_
    · k_steps
      all_goals (refine cutMid_intro (by k_asm) (by k_asm) ?_)
      all_goals (refine ⟨_, _, _, _, _, _, _, _, _, _, _, lawM_off ?_, ?_, by walk_at "m keep9", by walk_at "m led"⟩)
      all_goals first
        | exact .inl ⟨by omega, rfl, rfl⟩
        | exact .inr (.inl ⟨by omega, rfl, rfl⟩)
        | exact .inr (.inr ⟨by omega, rfl, rfl⟩)
        | walk_at "m off"
    clear F9 N9 H9 hI9
    intro h tk u1 t nm tn many tm u5 u6 u7 u8 u9 nx hop F9 N9 hI9 H9
    refine cut_3 F9 H9 hI9 ?_ ?_
    · have hmany := opIs_many op0 hop
      have htp := S9.tpos
      have htl : ts.length ≤ 100 := by have := S9.tlen; omega
      k_steps
      refine hold_out ?_
      rename IsRange _ _ _ _ _ _ _ _ => hr9
      refine comp_range_src rfl (by k_asm) (by k_asm) hr9 (by split <;> omega) (by split <;> omega) ?_
      intro g
      refine rangeG_all (SomeJ ρ9 Y _ o49 vs bs ts I oI) ⟨rfl, fun _ h => (nomatch h), by walk_at "m keep9", by walk_at "m led"⟩ ?_ ?_
      · intro i v ys ns hJ I2 oI2 C oC m₂ D h tk E' hC hx F₃ N₃ off
        have HJ := hJ.led
        k_steps
        exact SomeJ.next hJ hI off (by k_asm) (by k_asm) (by assumption) (by assumption) (by assumption)
      intro ys ns hJ
      k_steps
      rename PyProof.Rows.LCg.Off1 _ _ => o19
      have hlen := hJ.len
      refine cutMid_intro (by k_asm) (by k_asm) ?_
      refine ⟨_, _, _, _, _, ys, _, _, _, _, _, lawM_off ?_, .tail _ hJ.it, hJ.led.mono fun q hq => .tail _ hq, .head _, hJ.led.zero (off1_ne o19), ?_, ?_, hJ.all⟩
      · walk_at "m off"
      · split at hlen <;> omega
      · split at hlen <;> omega
    clear F9 N9 H9 hI9
    intro h tk u1 t tn tm sl us c u6 u7 u8 u9 nx F9 N9 hI9 H9 hs9 hz9 hl9 hl9' ht9
    refine cut_4 F9 H9 hI9 hs9 ?_ ?_
    · k_steps
      refine hold_out ?_
      refine PyProof.Rows.LCg.CompSrc.ledger (its := us.toArray) (by rfl) (by k_asm) (by k_asm) hs9 (by rw [sizeLine_eq]; simp; omega) ?_
      intro g
      refine nameC_all (us := us) (WordsJ bs us) (.inr ⟨_, hs9, rfl, _, rfl⟩) WordsJ.zero ?_ ?_
      · intro i v hv I2 oI2 C oC m₂ D ys h tk E' hJ hC hx F₃ N₃
        obtain ⟨wd, hwd⟩ := ok_word (S9.oks v (ht9 v (List.mem_of_getElem? hv)))
        k_steps
        exact ⟨_, _, rfl, by k_asm, by k_asm, hJ.snoc hv hwd _⟩
      intro ys hJ
      k_steps
      rename PyProof.Rows.LCg.Off1 _ _ => o19
      refine cutMid_intro (by k_asm) (by k_asm) ?_
      refine ⟨_, _, _, _, _, ys, _, _, _, _, _, lawM_off ?_, .tail _ hI9, H9.mono fun q hq => .tail _ hq, .tail _ hs9, .head _, H9.zero (off1_ne o19), hJ⟩
      walk_at "m off"
    clear F9 N9 H9 hI9 hs9
    intro h tk u1 t tn tm wl ws c c' u7 u8 u9 nx F9 N9 hI9 H9 hs9 hw9 hwz hW
    obtain ⟨w0, t0, w1, t01, i0, i1, ⟨u0, hu0, hq0⟩, hu1⟩ := hW.two hl9
    have hBI : ∀ op', isBlk op' → BlkIn vs op' w0 := fun op' => blk_in S9.coh (S9.oks u0 (ht9 u0 (List.mem_of_getElem? hu0))) hq0
    have h58 : vs.length < 800 := by have := S9.vlen; omega
    have hwl : ws.length < 10 := by rw [hW.len]; omega
    rcases hop with ⟨hA, rfl, rfl⟩ | ⟨rfl, rfl, rfl⟩ | ⟨hCc, rfl, rfl⟩
    ·
      have hb9 := hBI op
      have ho12 : op ≤ 12 := by omega
      have hwe : ws.length = us.length := hW.len
      by_cases hlen : (us.length : Int) = rowMany op
      · k_steps
        refine hold_out ?_
        refine called_L (by k_asm) (by k_asm) (by k_asm) (by k_asm) (by k_asm) rfl (by ktr_room) (by ktr_units) H9 op0 ho12 h58 hw9 hwz hwl i0 i1 hb9 ?_ ?_ ?_ ?_
        · intros; exfalso; omega
        · intros; exfalso; omega
        ·
          intro r9 ta9 tn9 tp9 tw9 pl n9 h9 tk9 F8 N8 H8 kp8 _ _ hc8 hm8
          have hbad := due_bad_of op0 S9.coh hlen hu0 hq0 hu1 hc8
          have hs8 := kp8.at hs9 hz9
          have hw8 := kp8.at hw9 hwz
          have hI8 := kp8.at hI9 (by assumption)
          have hpl : pl = 0 ∨ pl = 1 := by rcases hc8 with ⟨_, ⟨e, _⟩ | ⟨e, _⟩⟩ | ⟨_, e, _⟩ <;> omega
          have hp0 : 0 ≤ pl := by omega
          have hp1 : pl ≤ 1 := by omega
          have hwp : ws[pl.toNat]? = some (Value.int (if pl = 0 then w0 else w1) (if pl = 0 then t0 else t01)) := by
            rcases hpl with rfl | rfl
            · exact i0
            · refine i1 ?_
              have h3 : op < 3 := by rcases hc8 with ⟨h, _⟩ | ⟨_, h, _⟩ <;> omega
              have := rowMany_2 op0 (by omega)
              omega
          clear hs9 hw9 hI9 H9 N9 kp8 hc8 hpl
          k_steps
          refine hold_out ?_
          refine due_bad_L (by k_asm) (by k_asm) (by k_asm) (by k_asm) (by k_asm) rfl (by ktr_room) (by ktr_units) H8 hs8 op0 hbad ?_
          intro r7 ta7 tp7 n7 h7 tk7 F7 N7 H7 kp7 hm7
          have hw7 := kp7 _ hw8
          have hI7 := kp7 _ hI8
          have hm7' := kp7 _ hm8
          clear hs8 hw8 hI8 hm8 H8 kp7
          k_steps
          walk_at "m end"
        · intro r9 rr9 ta9 t9 vs9 n9 h9 tk9 F8 N8 _ _ hR8 H8 kp8 hm8
          have hs8 := kp8.at hs9 hz9
          have hw8 := kp8.at hw9 hwz
          have hI8 := kp8.at hI9 (by assumption)
          clear hs9 hw9 hI9 H9 N9 kp8
          k_steps
          refine hold_out ?_
          refine due_any_L (by k_asm) (by k_asm) (by k_asm) (by k_asm) (by k_asm) rfl (by ktr_room) (by ktr_units) H8 hs8 hz9 op0 hA S9 (by omega) hlen ht9 hu0 hq0 hu1 hR8 hI8 ?_
          intro r7 ta7 v7 bs7 n7 h7 tk7 F7 N7 H7 kp7 kt7 hm7 T7
          have hI7 := kp7.at hI8 (by assumption)
          have hr7 := kt7.at hm8 rfl
          have hne7 := news_ne N7 hr7 H7.c4 (fun e => by rw [← e] at d49; cases d49)
          clear hs8 hw8 hI8 hm8 H8 kp7 kt7
          k_steps
          refine hold_out ?_
          refine store4 (by k_asm) (by k_asm) H7 d49 rfl ?_
          intro h6 o6 n6 F6 N6 H6 d6 kp6 kn6
          have hI6 := kp6.at hI7 (by assumption)
          have hr6 := kn6 _ hr7 hne7
          have T6 := T7.keep kp6
          have hb6 := H6.blo
          have htn6 : ts.length < 1000 := by have := S9.tlen; omega
          have hbn6 : bs.length < 12 := by have := S9.blen; omega
          clear hI7 hr7 H7 kp6 kn6 hm7 T7
          have hmk3 : HoldMark3 := .mk
          k_steps
          refine hold_out ?_
          refine cut_5 Y o6 vs9 ts v7 rr9 ta9 t9 r9 I oI (i + 1) (by k_asm) ?_ ?_
          · rcases T6 with ⟨pv7, qv7, S7⟩ | ⟨k7, rfl, hk7, rfl, er7, S7⟩ | ⟨k7, rfl, rfl, z7, hIk, hb7, er7, S7⟩
            ·
              k_steps
              exact cutMid_intro (by k_asm) (by k_asm) ⟨rfl, _, _, by walk_at "m led", by walk_at "m keep9", by assumption, by walk_at "m keep9", qv7, S7⟩
            ·
              have qv7 : ThingW bs7 (.ref k7.b) rr9 := ⟨k7, hk7, rfl, er7⟩
              obtain ⟨cb6, hbl6⟩ := hb6
              have hb6 := H6.blk.lst k7 hk7
              k_steps
              refine ⟨_, blkRefs bs7, _, _, FindJ k7 bs7, rfl, { hh := rfl, F := by k_asm, N := by k_asm, at_ := hbl6, len := by rw [blkRefs, List.length_map]; omega, start := ⟨⟨[], .nil⟩, by simp⟩, turn := ?turn, fin := ?fin }⟩
              case turn =>
                intro i v hv
                obtain ⟨k', hk', rfl⟩ := blkRefs_get hv
                refine ⟨k'.tu, k'.wv, .ref k'.b, rfl, H6.blk.tup k' (List.mem_of_getElem? hk'), ?_⟩
                intro C oC m₂ D ys h tk E' hJ hoC hx hy F₃ N₃
                by_cases e : k'.b = k7.b
                · have e' := H6.blk.one k7 hk7 k' (List.mem_of_getElem? hk') e
                  subst e'
                  k_steps
                  exact ⟨_, rfl, hJ.snoc _ _⟩
                · have hb' := H6.blk.lst k' (List.mem_of_getElem? hk')
                  k_steps
                  exact ⟨_, rfl, hJ.skip hk' fun z => e (z ▸ rfl)⟩
              case fin =>
                intro ys D h tk hJ F₃ N₃ hD
                have hne : ys ≠ [] := hJ.has (by rw [blkRefs, List.length_map, List.take_length]; exact hk7)
                obtain ⟨ns, hi⟩ := hJ.vals
                cases hi with
                | nil => exact absurd rfl hne
                | cons x t hi =>
                  have hi' := IntsAre.cons x t hi
                  k_steps
                  exact cutMid_intro (by k_asm) (by walk_at "m news") ⟨rfl, _, _, by walk_at "m led", by walk_at "m keep9", by assumption, by walk_at "m keep9", qv7, S7⟩
            ·
              obtain ⟨cb6, hbl6⟩ := hb6
              have hb6 := hb7
              have hrb6 := news_ne N6 hr6 H6.blo.choose_spec (fun e => absurd (congrArg Obj.cls e) (by simp))
              clear hb7
              k_steps
              refine ⟨_, blkRefs bs7, _, _, fun _ ys => ys = [], rfl, { hh := rfl, F := by k_asm, N := by k_asm, at_ := hbl6, len := by rw [blkRefs, List.length_map]; omega, start := rfl, turn := ?turn, fin := ?fin }⟩
              case turn =>
                intro i v hv
                obtain ⟨k', hk', rfl⟩ := blkRefs_get hv
                refine ⟨k'.tu, k'.wv, .ref k'.b, rfl, H6.blk.tup k' (List.mem_of_getElem? hk'), ?_⟩
                intro C oC m₂ D ys h tk E' hJ hoC hx hy F₃ N₃
                have hb' := H6.blk.lst k' (List.mem_of_getElem? hk')
                have e : k'.b ≠ k7.b := Ne.symm (zero_ne z7 (H6.r.b k' (List.mem_of_getElem? hk')))
                k_steps
                exact ⟨_, rfl, hJ⟩
              case fin =>
                intro ys D h tk hJ F₃ N₃ hD
                subst hJ
                k_steps
                refine hold_out ?_
                refine blocks_add (n6 := n6) (k := k7) (fun k1 => Sit vs9 (bs7 ++ [k1]) (ts ++ [.ref k7.b]) (i + 1)) S7 (by k_asm) (by k_asm) (by rename _ ∧ _ ∧ AllLt _ n6 => l19; exact ktn_ltOf l19.2.2) (by walk_at "m up") H6 z7 hb6 er7 (by omega) ?_
                intro h5 n5 k5 ρ5 eb5 ea5 F5 N5 H5 S5 kn5 kz5
                have hI5 := kn5 _ hI6 (zero_ne (by assumption) H6.r.bl)
                have hz5 := kz5 _ hI6 (Nat.ne_of_lt hIk) (by assumption)
                have hr5 := kn5 _ hr6 hrb6
                have qv5 : ThingW (bs7 ++ [k5]) (.ref k7.b) rr9 := ⟨k5, List.mem_append_right _ (.head _), eb5, by rw [ea5]; exact er7⟩
                k_steps
                exact cutMid_intro (by k_asm) (by walk_at "m news") ⟨rfl, _, _, by walk_at "m led", by walk_at "m keep9", hz5, by walk_at "m keep9", qv5, S5⟩
          ·
            intro h5 tk5 n5 F5 N5 hT
            obtain ⟨ρ5, bs5, H5, hI5, hz5, hr5, qv5, S5⟩ := hT
            have h57 : vs9.length < 800 := by have := S5.vlen; omega
            have hC5 := S5.coh
            have hd5 := S5.nd
            obtain ⟨ct5, htl5⟩ := H5.thg
            clear H6 hI6 hr6 hb6 T6
            k_steps
            refine hold_out ?_
            refine app_m (news := n5) (by k_asm) (by walk_at "m news") htl5 htn6 ?_
            intro h4 c4 n4 F4 N4 hm4 kn4
            have R4 := H5.things hm4 kn4
            have H4 := R4.1
            have hI4 := R4.2 _ hI5 hz5
            have hz4 : ρ5 I = 0 := hz5
            k_steps
            walk_at "m end"
      · k_steps
        refine hold_out ?_
        refine called_L (by k_asm) (by k_asm) (by k_asm) (by k_asm) (by k_asm) rfl (by ktr_room) (by ktr_units) H9 op0 ho12 h58 hw9 hwz hwl i0 i1 hb9 ?_ ?_ ?_ ?_
        · intros; exfalso; omega
        ·
          intro r9 ta9 tn9 tp9 n9 h9 tk9 F8 N8 H8 kp8 _ hne8 hm8
          k_steps
          all_goals walk_at "m end"
        · intros; exfalso; omega
        · intros; exfalso; omega
    ·
      have hb9 := hBI 12
      k_steps
      refine hold_out ?_
      refine called_L (by k_asm) (by k_asm) (by k_asm) (by k_asm) (by k_asm) rfl (by ktr_room) (by ktr_units) H9 op0 (by omega) h58 hw9 hwz hwl i0 i1 hb9 ?_ ?_ ?_ ?_
      · intro r9 t9 n9 h9 tk9 F8 N8 H8 kp8 _ hm8
        k_steps
        walk_at "m end"
      · intros; exfalso; omega
      · intros; exfalso; omega
      · intros; exfalso; omega
    · have hT9 := S9.thg
      have hC9 := S9.coh
      have one9 : OneB bs := H9.blk.one
      have hus : us.length = 1 ∨ us.length = 2 ∨ us.length = 3 := by omega
      have ok0 := S9.oks u0 (ht9 u0 (List.mem_of_getElem? hu0))
      clear hBI i0 i1 hu1 hq0
      rcases hus with hus | hus
      ·
        have eu := shape1' hu0 hus
        obtain ⟨w0, t0, ew, q0⟩ := words1 hW eu
        subst eu
        subst ew
        have hl1 : [u0].getLast? = some u0 := rfl
        have hl2 : [Value.int w0 t0].getLast? = some (Value.int w0 t0) := rfl
        k_steps
        refine hold_out ?_
        refine items_L (by k_asm) (by k_asm) (by k_asm) (by k_asm) (by k_asm) rfl (by ktr_room) (by ktr_units) H9 hT9 ok0 ?_ ?_
        · intro h8 tk8 F8 N8 _
          k_steps
          walk_at "m end"
        · intro fl cf ks t n8 h8 tk8 F8 N8 kp8 hfl ch hle
          have hs8 := kp8 _ hs9
          have hw8 := kp8 _ hw9
          have hI8 := kp8 _ hI9
          have H8 := H9.mono kp8
          clear hs9 hw9 hI9 H9 kp8
          k_steps
          walk_at "m end"
      ·
        obtain ⟨um, u1, eu, hum⟩ := shape23 hu0 hus
        have ok1 := S9.oks u1 (ht9 u1 (by rw [eu]; simp))
        obtain ⟨w0, t0, mid, w1, t01, ms, ew, hml, him, q0, q1⟩ := words_g hW eu hum
        subst eu
        subst ew
        have hmid : mid.length ≤ 10 := by omega
        have hl1 : (u0 :: (um ++ [u1])).getLast? = some u1 := last_mid _ _ _
        have hl2 : (Value.int w0 t0 :: (mid ++ [Value.int w1 t01])).getLast? = some (Value.int w1 t01) := last_mid _ _ _
        have hl3 : (2 : Int) ≤ ((u0 :: (um ++ [u1])).length : Int) := by simp; omega
        have hl4 : (((Value.int w0 t0 :: (mid ++ [Value.int w1 t01])).length : Int) - 1) = ((u0 :: (um ++ [u1])).length : Int) - 1 := by simp [hml]
        have kn1 : Known bs w1 := ⟨u1, ok1, q1⟩
        k_steps
        refine hold_out ?_
        refine items_L (by k_asm) (by k_asm) (by k_asm) (by k_asm) (by k_asm) rfl (by ktr_room) (by ktr_units) H9 hT9 ok1 ?_ ?_
        · intro h8 tk8 F8 N8 hno
          have nos := no_list hC9 one9 q1 hno
          k_steps
          refine hold_out ?_
          refine spread_L (by k_asm) (by k_asm) (by k_asm) (by k_asm) (by k_asm) rfl (by ktr_room) (by ktr_units) (H9.mono fun q hq => .tail _ hq) h58 hmid (.tail _ hw9) hC9 hT9 kn1 ?_ ?_
          · intro r7 ta7 tn7 tp7 n7 h7 tk7 F7 N7 kp7 _ hm7
            have hD7 := kp7 _ (.head _)
            have hI7 := kp7 _ (.tail _ hI9)
            have H7 := H9.mono (fun q hq => kp7 q (.tail _ hq))
            clear hs9 hw9 hI9 H9 kp7
            k_steps
            walk_at "m end"
          · intro r fl c1 k acc n7 h7 tk7 F7 N7 kp7 _ _ st
            exact (nos k acc st).elim
        · intro fl cf ks t n8 h8 tk8 F8 N8 kp8 hfl ch hle
          have hs8 := kp8 _ hs9
          have hw8 := kp8 _ hw9
          have hI8 := kp8 _ hI9
          have H8 := H9.mono kp8
          have okx : ∀ v ∈ xsOf ks, ThingOk bs v := fun v hv => by
            obtain ⟨k, hk, rfl⟩ := List.mem_map.mp hv
            exact (hT9 k (ch.mem k hk).1).1
          have hkl : (xsOf ks).length ≤ 12 := by
            have := S9.blen
            rw [xsOf, List.length_map]
            omega
          clear hs9 hw9 hI9 H9 kp8
          k_steps
          refine hold_out ?_
          refine PyProof.Rows.LCg.CompSrc.ledger (its := (xsOf ks).toArray) (by rfl) (by k_asm) (by k_asm) (.tail _ (.tail _ hfl)) (by rw [sizeLine_eq]; simp only [List.size_toArray]; omega) ?_
          intro g
          refine nameC_all (us := xsOf ks) (WordsJ bs (xsOf ks)) (.inr ⟨_, .tail _ (.tail _ hfl), rfl, _, rfl⟩) WordsJ.zero ?_ ?_
          · intro i v hv I2 oI2 C oC m₂ D ys h tk E' hJ hC hx F₃ N₃
            obtain ⟨wd, hwd⟩ := ok_word (okx v (List.mem_of_getElem? hv))
            k_steps
            exact ⟨_, _, rfl, by k_asm, by k_asm, hJ.snoc hv hwd _⟩
          · intro ys hJ
            k_steps
            refine hold_out ?_
            refine add_m (xs := mid) (ys := ys) (by k_asm) (by k_asm) (.tail _ (.head _)) (.head _) (by rw [hJ.len]; omega) ?_
            intro D9 h9 F9 N9
            k_steps
            refine hold_out ?_
            refine spread_L (by k_asm) (by k_asm) (by k_asm) (by k_asm) (by k_asm) rfl (by ktr_room) (by ktr_units) (by walk_at "m led") h58 hmid (by k_mem) hC9 hT9 kn1 ?_ ?_
            · intro r7 ta7 tn7 tp7 n7 h7 tk7 F7 N7 kp7 hk7 _
              obtain ⟨acc, st, _, hle7⟩ := list_steps S9 one9 ch q1 hle
              exact (hk7 _ _ ⟨hle7, st⟩).elim
            · intro r7 f7 c7 k7 acc n7 h7 tk7 F7 N7 kp7 hf7 hr7 st7
              obtain ⟨acc', st, fw, hle7⟩ := list_steps S9 one9 ch q1 hle
              obtain rfl := st7.end_same st
              obtain ⟨ns7, i7, j7⟩ := words_same one9 fw hJ
              have i7' : IntsAre (mid ++ acc) (ms ++ ns7) := him.append i7
              have j7' : IntsAre (mid ++ ys) (ms ++ ns7) := him.append j7
              have hT7 := kp7 _ (.head _)
              have hD7 := kp7 _ (.tail _ (.head _))
              have hI7 := kp7 _ (.tail _ (.tail _ (.tail _ (.tail _ (.tail _ hI8)))))
              have H7 := H8.mono (fun q hq => kp7 q (.tail _ (.tail _ (.tail _ (.tail _ (.tail _ hq))))))
              clear hs8 hw8 hI8 H8 kp7 hfl
              k_steps
              walk_at "m end"
end Mine
theorem PySem.Challenge.cw_on0295_01_holds : PySem.Challenge.rw_on0295_01.Holds :=
  Mine.turns

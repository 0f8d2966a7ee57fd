import PyProof.Rows.All
import Wide.All
import OpenK.AllK
import Wide.FinOn
import PySem.Challenge.RW_np0064_01
open PySem PySem.W PySem.Calls PySem.Spec PyProof.Rows PyProof.V
set_option Elab.async false
set_option compiler.extract_closed false
set_option maxRecDepth 100000
set_option maxHeartbeats 8000000
namespace Mine
def topDef (p : Program) (i : Nat) : Option (Arguments × List Stmt × Scope) := match p.main.body[i]? with
  | some (.FunctionDef _ a b _ _ _ s _ _ _) => some (a, b, s)
  | _ => none
def memberDef (p : Program) (i j : Nat) : Option (Arguments × List Stmt × Scope) := match p.main.body[i]? with
  | some (.ClassDef _ _ _ c _ _ _ _ _ _ _) => (match c[j]? with
    | some (.FunctionDef _ a b _ _ _ s _ _ _) => some (a, b, s)
    | _ => none)
  | _ => none
noncomputable def heapK : Params → Frag := by
  refine (?f0 : ∀ p b s, topDef PySem.Challenge.pw_np0064_01 0 = some (p, b, s) → Params → Frag) _ _ _ rfl
  intro p0 b0 s0 _
  refine (?f1 : ∀ p b s, memberDef PySem.Challenge.pw_np0064_01 2 0 = some (p, b, s) → Params → Frag) _ _ _ rfl
  intro p1 b1 s1 _
  refine (?f2 : ∀ p b s, memberDef PySem.Challenge.pw_np0064_01 2 1 = some (p, b, s) → Params → Frag) _ _ _ rfl
  intro p2 b2 s2 _
  refine (?f3 : ∀ p b s, memberDef PySem.Challenge.pw_np0064_01 2 2 = some (p, b, s) → Params → Frag) _ _ _ rfl
  intro p3 b3 s3 _
  refine (?f4 : ∀ p b s, memberDef PySem.Challenge.pw_np0064_01 2 3 = some (p, b, s) → Params → Frag) _ _ _ rfl
  intro p4 b4 s4 _
  refine (?f5 : ∀ p b s, memberDef PySem.Challenge.pw_np0064_01 2 4 = some (p, b, s) → Params → Frag) _ _ _ rfl
  intro p5 b5 s5 _
  refine (?f6 : ∀ p b s, memberDef PySem.Challenge.pw_np0064_01 2 5 = some (p, b, s) → Params → Frag) _ _ _ rfl
  intro p6 b6 s6 _
  refine (?f7 : ∀ p b s, memberDef PySem.Challenge.pw_np0064_01 2 6 = some (p, b, s) → Params → Frag) _ _ _ rfl
  intro p7 b7 s7 _
  refine (?f8 : ∀ p b s, memberDef PySem.Challenge.pw_np0064_01 2 7 = some (p, b, s) → Params → Frag) _ _ _ rfl
  intro p8 b8 s8 _
  refine (?f9 : ∀ p b s, memberDef PySem.Challenge.pw_np0064_01 2 8 = some (p, b, s) → Params → Frag) _ _ _ rfl
  intro p9 b9 s9 _
  refine (?f10 : ∀ p b s, memberDef PySem.Challenge.pw_np0064_01 2 9 = some (p, b, s) → Params → Frag) _ _ _ rfl
  intro p10 b10 s10 _
  refine (?f11 : ∀ p b s, memberDef PySem.Challenge.pw_np0064_01 2 10 = some (p, b, s) → Params → Frag) _ _ _ rfl
  intro p11 b11 s11 _
  refine (?f12 : ∀ p b s, memberDef PySem.Challenge.pw_np0064_01 4 0 = some (p, b, s) → Params → Frag) _ _ _ rfl
  intro p12 b12 s12 _
  refine (?f13 : ∀ p b s, memberDef PySem.Challenge.pw_np0064_01 4 1 = some (p, b, s) → Params → Frag) _ _ _ rfl
  intro p13 b13 s13 _
  refine (?f14 : ∀ p b s, memberDef PySem.Challenge.pw_np0064_01 4 2 = some (p, b, s) → Params → Frag) _ _ _ rfl
  intro p14 b14 s14 _
  refine (?f15 : ∀ p b s, memberDef PySem.Challenge.pw_np0064_01 6 0 = some (p, b, s) → Params → Frag) _ _ _ rfl
  intro p15 b15 s15 _
  refine (?f16 : ∀ p b s, memberDef PySem.Challenge.pw_np0064_01 6 1 = some (p, b, s) → Params → Frag) _ _ _ rfl
  intro p16 b16 s16 _
  refine (?f17 : ∀ p b s, memberDef PySem.Challenge.pw_np0064_01 6 2 = some (p, b, s) → Params → Frag) _ _ _ rfl
  intro p17 b17 s17 _
  refine (?f18 : ∀ p b s, memberDef PySem.Challenge.pw_np0064_01 6 3 = some (p, b, s) → Params → Frag) _ _ _ rfl
  intro p18 b18 s18 _
  refine (?f19 : ∀ p b s, memberDef PySem.Challenge.pw_np0064_01 7 0 = some (p, b, s) → Params → Frag) _ _ _ rfl
  intro p19 b19 s19 _
  refine (?f20 : ∀ p b s, memberDef PySem.Challenge.pw_np0064_01 7 1 = some (p, b, s) → Params → Frag) _ _ _ rfl
  intro p20 b20 s20 _
  refine (?f21 : ∀ p b s, memberDef PySem.Challenge.pw_np0064_01 7 2 = some (p, b, s) → Params → Frag) _ _ _ rfl
  intro p21 b21 s21 _
  refine (?f22 : ∀ p b s, memberDef PySem.Challenge.pw_np0064_01 7 3 = some (p, b, s) → Params → Frag) _ _ _ rfl
  intro p22 b22 s22 _
  refine (?f23 : ∀ p b s, memberDef PySem.Challenge.pw_np0064_01 7 4 = some (p, b, s) → Params → Frag) _ _ _ rfl
  intro p23 b23 s23 _
  refine (?f24 : ∀ p b s, memberDef PySem.Challenge.pw_np0064_01 7 5 = some (p, b, s) → Params → Frag) _ _ _ rfl
  intro p24 b24 s24 _
  refine (?f25 : ∀ p b s, memberDef PySem.Challenge.pw_np0064_01 7 6 = some (p, b, s) → Params → Frag) _ _ _ rfl
  intro p25 b25 s25 _
  refine (?f26 : ∀ p b s, memberDef PySem.Challenge.pw_np0064_01 7 7 = some (p, b, s) → Params → Frag) _ _ _ rfl
  intro p26 b26 s26 _
  refine (?f27 : ∀ p b s, memberDef PySem.Challenge.pw_np0064_01 9 0 = some (p, b, s) → Params → Frag) _ _ _ rfl
  intro p27 b27 s27 _
  refine (?f28 : ∀ p b s, memberDef PySem.Challenge.pw_np0064_01 9 1 = some (p, b, s) → Params → Frag) _ _ _ rfl
  intro p28 b28 s28 _
  refine (?f29 : ∀ p b s, memberDef PySem.Challenge.pw_np0064_01 9 2 = some (p, b, s) → Params → Frag) _ _ _ rfl
  intro p29 b29 s29 _
  refine (?f30 : ∀ p b s, memberDef PySem.Challenge.pw_np0064_01 9 3 = some (p, b, s) → Params → Frag) _ _ _ rfl
  intro p30 b30 s30 _
  refine (?f31 : ∀ p b s, memberDef PySem.Challenge.pw_np0064_01 9 4 = some (p, b, s) → Params → Frag) _ _ _ rfl
  intro p31 b31 s31 _
  refine (?f32 : ∀ p b s, memberDef PySem.Challenge.pw_np0064_01 9 5 = some (p, b, s) → Params → Frag) _ _ _ rfl
  intro p32 b32 s32 _
  refine (?f33 : ∀ p b s, memberDef PySem.Challenge.pw_np0064_01 9 6 = some (p, b, s) → Params → Frag) _ _ _ rfl
  intro p33 b33 s33 _
  refine (?f34 : ∀ p b s, memberDef PySem.Challenge.pw_np0064_01 9 7 = some (p, b, s) → Params → Frag) _ _ _ rfl
  intro p34 b34 s34 _
  refine (?f35 : ∀ p b s, memberDef PySem.Challenge.pw_np0064_01 9 8 = some (p, b, s) → Params → Frag) _ _ _ rfl
  intro p35 b35 s35 _
  refine (?f36 : ∀ p b s, memberDef PySem.Challenge.pw_np0064_01 9 9 = some (p, b, s) → Params → Frag) _ _ _ rfl
  intro p36 b36 s36 _
  refine (?f37 : ∀ p b s, memberDef PySem.Challenge.pw_np0064_01 9 10 = some (p, b, s) → Params → Frag) _ _ _ rfl
  intro p37 b37 s37 _
  refine (?f38 : ∀ p b s, memberDef PySem.Challenge.pw_np0064_01 9 11 = some (p, b, s) → Params → Frag) _ _ _ rfl
  intro p38 b38 s38 _
  refine (?f39 : ∀ p b s, memberDef PySem.Challenge.pw_np0064_01 9 12 = some (p, b, s) → Params → Frag) _ _ _ rfl
  intro p39 b39 s39 _
  refine (?f40 : ∀ p b s, memberDef PySem.Challenge.pw_np0064_01 11 0 = some (p, b, s) → Params → Frag) _ _ _ rfl
  intro p40 b40 s40 _
  refine (?f41 : ∀ p b s, topDef PySem.Challenge.pw_np0064_01 13 = some (p, b, s) → Params → Frag) _ _ _ rfl
  intro p41 b41 s41 _
  refine (?f42 : ∀ p b s, memberDef PySem.Challenge.pw_np0064_01 15 0 = some (p, b, s) → Params → Frag) _ _ _ rfl
  intro p42 b42 s42 _
  refine (?f43 : ∀ p b s, memberDef PySem.Challenge.pw_np0064_01 15 1 = some (p, b, s) → Params → Frag) _ _ _ rfl
  intro p43 b43 s43 _
  refine (?f44 : ∀ p b s, memberDef PySem.Challenge.pw_np0064_01 15 2 = some (p, b, s) → Params → Frag) _ _ _ rfl
  intro p44 b44 s44 _
  refine (?f45 : ∀ p b s, memberDef PySem.Challenge.pw_np0064_01 15 3 = some (p, b, s) → Params → Frag) _ _ _ rfl
  intro p45 b45 s45 _
  refine (?f46 : ∀ p b s, memberDef PySem.Challenge.pw_np0064_01 15 4 = some (p, b, s) → Params → Frag) _ _ _ rfl
  intro p46 b46 s46 _
  refine (?f47 : ∀ p b s, memberDef PySem.Challenge.pw_np0064_01 15 5 = some (p, b, s) → Params → Frag) _ _ _ rfl
  intro p47 b47 s47 _
  refine (?f48 : ∀ p b s, memberDef PySem.Challenge.pw_np0064_01 15 6 = some (p, b, s) → Params → Frag) _ _ _ rfl
  intro p48 b48 s48 _
  refine (?f49 : ∀ p b s, memberDef PySem.Challenge.pw_np0064_01 15 7 = some (p, b, s) → Params → Frag) _ _ _ rfl
  intro p49 b49 s49 _
  refine (?f50 : ∀ p b s, memberDef PySem.Challenge.pw_np0064_01 15 8 = some (p, b, s) → Params → Frag) _ _ _ rfl
  intro p50 b50 s50 _
  refine (?f51 : ∀ p b s, memberDef PySem.Challenge.pw_np0064_01 15 9 = some (p, b, s) → Params → Frag) _ _ _ rfl
  intro p51 b51 s51 _
  refine (?f52 : ∀ p b s, memberDef PySem.Challenge.pw_np0064_01 15 10 = some (p, b, s) → Params → Frag) _ _ _ rfl
  intro p52 b52 s52 _
  refine (?f53 : ∀ p b s, memberDef PySem.Challenge.pw_np0064_01 15 11 = some (p, b, s) → Params → Frag) _ _ _ rfl
  intro p53 b53 s53 _
  refine (?f54 : ∀ p b s, memberDef PySem.Challenge.pw_np0064_01 15 12 = some (p, b, s) → Params → Frag) _ _ _ rfl
  intro p54 b54 s54 _
  refine (?f55 : ∀ p b s, topDef PySem.Challenge.pw_np0064_01 17 = some (p, b, s) → Params → Frag) _ _ _ rfl
  intro p55 b55 s55 _
  refine (?f56 : ∀ p b s, topDef PySem.Challenge.pw_np0064_01 18 = some (p, b, s) → Params → Frag) _ _ _ rfl
  intro p56 b56 s56 _
  refine (?f57 : ∀ p b s, topDef PySem.Challenge.pw_np0064_01 19 = some (p, b, s) → Params → Frag) _ _ _ rfl
  intro p57 b57 s57 _
  refine (?f58 : ∀ p b s, topDef PySem.Challenge.pw_np0064_01 20 = some (p, b, s) → Params → Frag) _ _ _ rfl
  intro p58 b58 s58 _
  refine (?f59 : ∀ p b s, topDef PySem.Challenge.pw_np0064_01 21 = some (p, b, s) → Params → Frag) _ _ _ rfl
  intro p59 b59 s59 _
  refine (?f60 : ∀ p b s, topDef PySem.Challenge.pw_np0064_01 22 = some (p, b, s) → Params → Frag) _ _ _ rfl
  intro p60 b60 s60 _
  exact fun P =>
    @List.cons (Nat × Obj) (@Prod.mk Nat Obj (nat_lit 2) ⟨.none, (none : Option Nat), (.dict #[⟨(PyData.keyHash P (.ofString "type.__subclasses__.Exception.0")), (.str (.ofString "type.__subclasses__.Exception.0") (672 : Nat)), (.int 378 (0 : Nat))⟩, ⟨(PyData.keyHash P (.ofString "type.__subclasses__.Exception.n")), (.str (.ofString "type.__subclasses__.Exception.n") (673 : Nat)), (.int 1 (0 : Nat))⟩] (2 : Nat)), #[]⟩) <|
    @List.cons (Nat × Obj) (@Prod.mk Nat Obj (nat_lit 3) ⟨(.type "dict"), (none : Option Nat), (.dict #[⟨(PyData.keyHash P (.ofString "__name__")), (.str (.ofString "__name__") (165 : Nat)), (.str (.ofString "law_np0064_01") (832 : Nat))⟩, ⟨(PyData.keyHash P (.ofString "__doc__")), (.str (.ofString "__doc__") (166 : Nat)), .none⟩, ⟨(PyData.keyHash P (.ofString "__package__")), (.str (.ofString "__package__") (167 : Nat)), .none⟩, ⟨(PyData.keyHash P (.ofString "__loader__")), (.str (.ofString "__loader__") (168 : Nat)), (.builtin "__main__.__loader__#opaque")⟩, ⟨(PyData.keyHash P (.ofString "__spec__")), (.str (.ofString "__spec__") (169 : Nat)), .none⟩, ⟨(PyData.keyHash P (.ofString "__annotations__")), (.str (.ofString "__annotations__") (170 : Nat)), (.ref (6 : Nat))⟩, ⟨(PyData.keyHash P (.ofString "__builtins__")), (.str (.ofString "__builtins__") (171 : Nat)), (.ref (4 : Nat))⟩, ⟨(PyData.keyHash P (.ofString "__file__")), (.str (.ofString "__file__") (173 : Nat)), (.str (.ofString "/claim/cut.py") (172 : Nat))⟩, ⟨(PyData.keyHash P (.ofString "__cached__")), (.str (.ofString "__cached__") (174 : Nat)), .none⟩, ⟨(PyData.keyHash P (.ofString "_wall")), (.str (.ofString "_wall") (193 : Nat)), (.ref (21 : Nat))⟩, ⟨(PyData.keyHash P (.ofString "GapText")), (.str (.ofString "GapText") (312 : Nat)), (.ref (108 : Nat))⟩, ⟨(PyData.keyHash P (.ofString "Opaque")), (.str (.ofString "Opaque") (356 : Nat)), (.ref (143 : Nat))⟩, ⟨(PyData.keyHash P (.ofString "Marker")), (.str (.ofString "Marker") (409 : Nat)), (.ref (185 : Nat))⟩, ⟨(PyData.keyHash P (.ofString "Markers")), (.str (.ofString "Markers") (503 : Nat)), (.ref (253 : Nat))⟩, ⟨(PyData.keyHash P (.ofString "Buffer")), (.str (.ofString "Buffer") (642 : Nat)), (.ref (359 : Nat))⟩, ⟨(PyData.keyHash P (.ofString "LispSignal")), (.str (.ofString "LispSignal") (675 : Nat)), (.ref (378 : Nat))⟩, ⟨(PyData.keyHash P (.ofString "set_marker")), (.str (.ofString "set_marker") (686 : Nat)), (.ref (388 : Nat))⟩, ⟨(PyData.keyHash P (.ofString "BufferTable")), (.str (.ofString "BufferTable") (831 : Nat)), (.ref (490 : Nat))⟩, ⟨(PyData.keyHash P (.ofString "_law_deck")), (.str (.ofString "_law_deck") (839 : Nat)), (.ref (499 : Nat))⟩, ⟨(PyData.keyHash P (.ofString "_law_draw")), (.str (.ofString "_law_draw") (848 : Nat)), (.ref (506 : Nat))⟩, ⟨(PyData.keyHash P (.ofString "_law_told")), (.str (.ofString "_law_told") (856 : Nat)), (.ref (513 : Nat))⟩, ⟨(PyData.keyHash P (.ofString "_law_fresh")), (.str (.ofString "_law_fresh") (862 : Nat)), (.ref (518 : Nat))⟩, ⟨(PyData.keyHash P (.ofString "_law_is_so")), (.str (.ofString "_law_is_so") (868 : Nat)), (.ref (523 : Nat))⟩, ⟨(PyData.keyHash P (.ofString "law")), (.str (.ofString "law") (874 : Nat)), (.ref (528 : Nat))⟩] (24 : Nat)), #[]⟩) <|
    @List.cons (Nat × Obj) (@Prod.mk Nat Obj (nat_lit 15) ⟨(.type "tuple"), (none : Option Nat), (.seq #[] (0 : Nat)), #[]⟩) <|
    @List.cons (Nat × Obj) (@Prod.mk Nat Obj (nat_lit 17) ⟨(.type "tuple"), (none : Option Nat), (.seq #[(.str (.ofString "k") (190 : Nat))] (0 : Nat)), #[]⟩) <|
    @List.cons (Nat × Obj) (@Prod.mk Nat Obj (nat_lit 18) ⟨(.type "tuple"), (none : Option Nat), (.seq #[] (0 : Nat)), #[]⟩) <|
    @List.cons (Nat × Obj) (@Prod.mk Nat Obj (nat_lit 20) ⟨(.type "code"), (none : Option Nat), (.fields #[(.str (.ofString "_wall") (187 : Nat)), (.str (.ofString "_wall") (188 : Nat)), (.str (.ofString "/claim/cut.py") (189 : Nat)), (.int 1 (0 : Nat)), (.int 1 (0 : Nat)), (.int 0 (0 : Nat)), (.int 0 (0 : Nat)), (.int 3 (0 : Nat)), (.ref (15 : Nat)), (.bool true), (.int 181 (0 : Nat)), (.ref (16 : Nat)), .none, (.ref (17 : Nat)), (.ref (18 : Nat)), (.ref (19 : Nat)), (.int 191 (0 : Nat)), (.int 1 (0 : Nat)), (.str (.ofString "/claim/cut.py") (192 : Nat))]), #[]⟩) <|
    @List.cons (Nat × Obj) (@Prod.mk Nat Obj (nat_lit 21) ⟨(.type "function"), (none : Option Nat), (.func ⟨(.ofString "_wall"), (.ofString "_wall"), p0, (.stmts b0), s0, (3 : Nat), ([] : List (Str × Nat)), .none, .none, .none, (.str (.ofString "__main__") (164 : Nat)), (none : Option Nat), (.ref (20 : Nat)), .none, (0 : Nat)⟩), #[]⟩) <|
    @List.cons (Nat × Obj) (@Prod.mk Nat Obj (nat_lit 29) ⟨(.type "tuple"), (none : Option Nat), (.seq #[] (0 : Nat)), #[]⟩) <|
    @List.cons (Nat × Obj) (@Prod.mk Nat Obj (nat_lit 31) ⟨(.type "tuple"), (none : Option Nat), (.seq #[(.str (.ofString "self") (211 : Nat)), (.str (.ofString "codes") (212 : Nat)), (.str (.ofString "room") (213 : Nat))] (0 : Nat)), #[]⟩) <|
    @List.cons (Nat × Obj) (@Prod.mk Nat Obj (nat_lit 32) ⟨(.type "tuple"), (none : Option Nat), (.seq #[] (0 : Nat)), #[]⟩) <|
    @List.cons (Nat × Obj) (@Prod.mk Nat Obj (nat_lit 34) ⟨(.type "code"), (none : Option Nat), (.fields #[(.str (.ofString "__init__") (208 : Nat)), (.str (.ofString "GapText.__init__") (209 : Nat)), (.str (.ofString "/claim/cut.py") (210 : Nat)), (.int 7 (0 : Nat)), (.int 3 (0 : Nat)), (.int 0 (0 : Nat)), (.int 0 (0 : Nat)), (.int 3 (0 : Nat)), (.ref (29 : Nat)), (.bool true), (.int 181 (0 : Nat)), (.ref (30 : Nat)), .none, (.ref (31 : Nat)), (.ref (32 : Nat)), (.ref (33 : Nat)), (.int 214 (0 : Nat)), (.int 7 (0 : Nat)), (.str (.ofString "/claim/cut.py") (215 : Nat))]), #[]⟩) <|
    @List.cons (Nat × Obj) (@Prod.mk Nat Obj (nat_lit 35) ⟨(.type "function"), (none : Option Nat), (.func ⟨(.ofString "__init__"), (.ofString "GapText.__init__"), p1, (.stmts b1), s1, (3 : Nat), ([] : List (Str × Nat)), .none, .none, .none, (.str (.ofString "emacs.gap") (194 : Nat)), (none : Option Nat), (.ref (34 : Nat)), .none, (0 : Nat)⟩), #[]⟩) <|
    @List.cons (Nat × Obj) (@Prod.mk Nat Obj (nat_lit 36) ⟨(.type "tuple"), (none : Option Nat), (.seq #[] (0 : Nat)), #[]⟩) <|
    @List.cons (Nat × Obj) (@Prod.mk Nat Obj (nat_lit 38) ⟨(.type "tuple"), (none : Option Nat), (.seq #[(.str (.ofString "self") (220 : Nat))] (0 : Nat)), #[]⟩) <|
    @List.cons (Nat × Obj) (@Prod.mk Nat Obj (nat_lit 39) ⟨(.type "tuple"), (none : Option Nat), (.seq #[] (0 : Nat)), #[]⟩) <|
    @List.cons (Nat × Obj) (@Prod.mk Nat Obj (nat_lit 41) ⟨(.type "code"), (none : Option Nat), (.fields #[(.str (.ofString "size") (217 : Nat)), (.str (.ofString "GapText.size") (218 : Nat)), (.str (.ofString "/claim/cut.py") (219 : Nat)), (.int 13 (0 : Nat)), (.int 1 (0 : Nat)), (.int 0 (0 : Nat)), (.int 0 (0 : Nat)), (.int 3 (0 : Nat)), (.ref (36 : Nat)), (.bool true), (.int 181 (0 : Nat)), (.ref (37 : Nat)), .none, (.ref (38 : Nat)), (.ref (39 : Nat)), (.ref (40 : Nat)), (.int 221 (0 : Nat)), (.int 13 (0 : Nat)), (.str (.ofString "/claim/cut.py") (222 : Nat))]), #[]⟩) <|
    @List.cons (Nat × Obj) (@Prod.mk Nat Obj (nat_lit 42) ⟨(.type "function"), (none : Option Nat), (.func ⟨(.ofString "size"), (.ofString "GapText.size"), p2, (.stmts b2), s2, (3 : Nat), ([] : List (Str × Nat)), .none, .none, .none, (.str (.ofString "emacs.gap") (194 : Nat)), (none : Option Nat), (.ref (41 : Nat)), .none, (0 : Nat)⟩), #[]⟩) <|
    @List.cons (Nat × Obj) (@Prod.mk Nat Obj (nat_lit 43) ⟨(.type "tuple"), (none : Option Nat), (.seq #[] (0 : Nat)), #[]⟩) <|
    @List.cons (Nat × Obj) (@Prod.mk Nat Obj (nat_lit 45) ⟨(.type "tuple"), (none : Option Nat), (.seq #[(.str (.ofString "self") (227 : Nat)), (.str (.ofString "at") (228 : Nat))] (0 : Nat)), #[]⟩) <|
    @List.cons (Nat × Obj) (@Prod.mk Nat Obj (nat_lit 46) ⟨(.type "tuple"), (none : Option Nat), (.seq #[] (0 : Nat)), #[]⟩) <|
    @List.cons (Nat × Obj) (@Prod.mk Nat Obj (nat_lit 48) ⟨(.type "code"), (none : Option Nat), (.fields #[(.str (.ofString "code") (224 : Nat)), (.str (.ofString "GapText.code") (225 : Nat)), (.str (.ofString "/claim/cut.py") (226 : Nat)), (.int 16 (0 : Nat)), (.int 2 (0 : Nat)), (.int 0 (0 : Nat)), (.int 0 (0 : Nat)), (.int 3 (0 : Nat)), (.ref (43 : Nat)), (.bool true), (.int 181 (0 : Nat)), (.ref (44 : Nat)), .none, (.ref (45 : Nat)), (.ref (46 : Nat)), (.ref (47 : Nat)), (.int 229 (0 : Nat)), (.int 16 (0 : Nat)), (.str (.ofString "/claim/cut.py") (230 : Nat))]), #[]⟩) <|
    @List.cons (Nat × Obj) (@Prod.mk Nat Obj (nat_lit 49) ⟨(.type "function"), (none : Option Nat), (.func ⟨(.ofString "code"), (.ofString "GapText.code"), p3, (.stmts b3), s3, (3 : Nat), ([] : List (Str × Nat)), .none, .none, .none, (.str (.ofString "emacs.gap") (194 : Nat)), (none : Option Nat), (.ref (48 : Nat)), .none, (0 : Nat)⟩), #[]⟩) <|
    @List.cons (Nat × Obj) (@Prod.mk Nat Obj (nat_lit 50) ⟨(.type "tuple"), (none : Option Nat), (.seq #[] (0 : Nat)), #[]⟩) <|
    @List.cons (Nat × Obj) (@Prod.mk Nat Obj (nat_lit 52) ⟨(.type "tuple"), (none : Option Nat), (.seq #[(.str (.ofString "self") (235 : Nat)), (.str (.ofString "start") (236 : Nat)), (.str (.ofString "end") (237 : Nat)), (.str (.ofString "shift") (238 : Nat))] (0 : Nat)), #[]⟩) <|
    @List.cons (Nat × Obj) (@Prod.mk Nat Obj (nat_lit 53) ⟨(.type "tuple"), (none : Option Nat), (.seq #[] (0 : Nat)), #[]⟩) <|
    @List.cons (Nat × Obj) (@Prod.mk Nat Obj (nat_lit 55) ⟨(.type "code"), (none : Option Nat), (.fields #[(.str (.ofString "codes") (232 : Nat)), (.str (.ofString "GapText.codes") (233 : Nat)), (.str (.ofString "/claim/cut.py") (234 : Nat)), (.int 21 (0 : Nat)), (.int 3 (0 : Nat)), (.int 0 (0 : Nat)), (.int 0 (0 : Nat)), (.int 3 (0 : Nat)), (.ref (50 : Nat)), (.bool true), (.int 181 (0 : Nat)), (.ref (51 : Nat)), .none, (.ref (52 : Nat)), (.ref (53 : Nat)), (.ref (54 : Nat)), (.int 239 (0 : Nat)), (.int 21 (0 : Nat)), (.str (.ofString "/claim/cut.py") (240 : Nat))]), #[]⟩) <|
    @List.cons (Nat × Obj) (@Prod.mk Nat Obj (nat_lit 56) ⟨(.type "function"), (none : Option Nat), (.func ⟨(.ofString "codes"), (.ofString "GapText.codes"), p4, (.stmts b4), s4, (3 : Nat), ([] : List (Str × Nat)), .none, .none, .none, (.str (.ofString "emacs.gap") (194 : Nat)), (none : Option Nat), (.ref (55 : Nat)), .none, (0 : Nat)⟩), #[]⟩) <|
    @List.cons (Nat × Obj) (@Prod.mk Nat Obj (nat_lit 57) ⟨(.type "tuple"), (none : Option Nat), (.seq #[] (0 : Nat)), #[]⟩) <|
    @List.cons (Nat × Obj) (@Prod.mk Nat Obj (nat_lit 59) ⟨(.type "tuple"), (none : Option Nat), (.seq #[(.str (.ofString "self") (245 : Nat)), (.str (.ofString "at") (246 : Nat)), (.str (.ofString "moved") (247 : Nat))] (0 : Nat)), #[]⟩) <|
    @List.cons (Nat × Obj) (@Prod.mk Nat Obj (nat_lit 60) ⟨(.type "tuple"), (none : Option Nat), (.seq #[] (0 : Nat)), #[]⟩) <|
    @List.cons (Nat × Obj) (@Prod.mk Nat Obj (nat_lit 62) ⟨(.type "code"), (none : Option Nat), (.fields #[(.str (.ofString "move_gap") (242 : Nat)), (.str (.ofString "GapText.move_gap") (243 : Nat)), (.str (.ofString "/claim/cut.py") (244 : Nat)), (.int 29 (0 : Nat)), (.int 2 (0 : Nat)), (.int 0 (0 : Nat)), (.int 0 (0 : Nat)), (.int 3 (0 : Nat)), (.ref (57 : Nat)), (.bool true), (.int 181 (0 : Nat)), (.ref (58 : Nat)), .none, (.ref (59 : Nat)), (.ref (60 : Nat)), (.ref (61 : Nat)), (.int 248 (0 : Nat)), (.int 29 (0 : Nat)), (.str (.ofString "/claim/cut.py") (249 : Nat))]), #[]⟩) <|
    @List.cons (Nat × Obj) (@Prod.mk Nat Obj (nat_lit 63) ⟨(.type "function"), (none : Option Nat), (.func ⟨(.ofString "move_gap"), (.ofString "GapText.move_gap"), p5, (.stmts b5), s5, (3 : Nat), ([] : List (Str × Nat)), .none, .none, .none, (.str (.ofString "emacs.gap") (194 : Nat)), (none : Option Nat), (.ref (62 : Nat)), .none, (0 : Nat)⟩), #[]⟩) <|
    @List.cons (Nat × Obj) (@Prod.mk Nat Obj (nat_lit 64) ⟨(.type "tuple"), (none : Option Nat), (.seq #[] (0 : Nat)), #[]⟩) <|
    @List.cons (Nat × Obj) (@Prod.mk Nat Obj (nat_lit 66) ⟨(.type "tuple"), (none : Option Nat), (.seq #[(.str (.ofString "self") (254 : Nat)), (.str (.ofString "wanted") (255 : Nat)), (.str (.ofString "lack") (256 : Nat))] (0 : Nat)), #[]⟩) <|
    @List.cons (Nat × Obj) (@Prod.mk Nat Obj (nat_lit 67) ⟨(.type "tuple"), (none : Option Nat), (.seq #[] (0 : Nat)), #[]⟩) <|
    @List.cons (Nat × Obj) (@Prod.mk Nat Obj (nat_lit 69) ⟨(.type "code"), (none : Option Nat), (.fields #[(.str (.ofString "widen_gap") (251 : Nat)), (.str (.ofString "GapText.widen_gap") (252 : Nat)), (.str (.ofString "/claim/cut.py") (253 : Nat)), (.int 40 (0 : Nat)), (.int 2 (0 : Nat)), (.int 0 (0 : Nat)), (.int 0 (0 : Nat)), (.int 3 (0 : Nat)), (.ref (64 : Nat)), (.bool true), (.int 181 (0 : Nat)), (.ref (65 : Nat)), .none, (.ref (66 : Nat)), (.ref (67 : Nat)), (.ref (68 : Nat)), (.int 257 (0 : Nat)), (.int 40 (0 : Nat)), (.str (.ofString "/claim/cut.py") (258 : Nat))]), #[]⟩) <|
    @List.cons (Nat × Obj) (@Prod.mk Nat Obj (nat_lit 70) ⟨(.type "function"), (none : Option Nat), (.func ⟨(.ofString "widen_gap"), (.ofString "GapText.widen_gap"), p6, (.stmts b6), s6, (3 : Nat), ([] : List (Str × Nat)), .none, .none, .none, (.str (.ofString "emacs.gap") (194 : Nat)), (none : Option Nat), (.ref (69 : Nat)), .none, (0 : Nat)⟩), #[]⟩) <|
    @List.cons (Nat × Obj) (@Prod.mk Nat Obj (nat_lit 71) ⟨(.type "tuple"), (none : Option Nat), (.seq #[] (0 : Nat)), #[]⟩) <|
    @List.cons (Nat × Obj) (@Prod.mk Nat Obj (nat_lit 73) ⟨(.type "tuple"), (none : Option Nat), (.seq #[(.str (.ofString "self") (263 : Nat)), (.str (.ofString "at") (264 : Nat)), (.str (.ofString "codes") (265 : Nat))] (0 : Nat)), #[]⟩) <|
    @List.cons (Nat × Obj) (@Prod.mk Nat Obj (nat_lit 74) ⟨(.type "tuple"), (none : Option Nat), (.seq #[] (0 : Nat)), #[]⟩) <|
    @List.cons (Nat × Obj) (@Prod.mk Nat Obj (nat_lit 76) ⟨(.type "code"), (none : Option Nat), (.fields #[(.str (.ofString "insert") (260 : Nat)), (.str (.ofString "GapText.insert") (261 : Nat)), (.str (.ofString "/claim/cut.py") (262 : Nat)), (.int 46 (0 : Nat)), (.int 3 (0 : Nat)), (.int 0 (0 : Nat)), (.int 0 (0 : Nat)), (.int 3 (0 : Nat)), (.ref (71 : Nat)), (.bool true), (.int 181 (0 : Nat)), (.ref (72 : Nat)), .none, (.ref (73 : Nat)), (.ref (74 : Nat)), (.ref (75 : Nat)), (.int 266 (0 : Nat)), (.int 46 (0 : Nat)), (.str (.ofString "/claim/cut.py") (267 : Nat))]), #[]⟩) <|
    @List.cons (Nat × Obj) (@Prod.mk Nat Obj (nat_lit 77) ⟨(.type "function"), (none : Option Nat), (.func ⟨(.ofString "insert"), (.ofString "GapText.insert"), p7, (.stmts b7), s7, (3 : Nat), ([] : List (Str × Nat)), .none, .none, .none, (.str (.ofString "emacs.gap") (194 : Nat)), (none : Option Nat), (.ref (76 : Nat)), .none, (0 : Nat)⟩), #[]⟩) <|
    @List.cons (Nat × Obj) (@Prod.mk Nat Obj (nat_lit 78) ⟨(.type "tuple"), (none : Option Nat), (.seq #[] (0 : Nat)), #[]⟩) <|
    @List.cons (Nat × Obj) (@Prod.mk Nat Obj (nat_lit 80) ⟨(.type "tuple"), (none : Option Nat), (.seq #[(.str (.ofString "self") (272 : Nat)), (.str (.ofString "start") (273 : Nat)), (.str (.ofString "end") (274 : Nat))] (0 : Nat)), #[]⟩) <|
    @List.cons (Nat × Obj) (@Prod.mk Nat Obj (nat_lit 81) ⟨(.type "tuple"), (none : Option Nat), (.seq #[] (0 : Nat)), #[]⟩) <|
    @List.cons (Nat × Obj) (@Prod.mk Nat Obj (nat_lit 83) ⟨(.type "code"), (none : Option Nat), (.fields #[(.str (.ofString "delete") (269 : Nat)), (.str (.ofString "GapText.delete") (270 : Nat)), (.str (.ofString "/claim/cut.py") (271 : Nat)), (.int 52 (0 : Nat)), (.int 3 (0 : Nat)), (.int 0 (0 : Nat)), (.int 0 (0 : Nat)), (.int 3 (0 : Nat)), (.ref (78 : Nat)), (.bool true), (.int 181 (0 : Nat)), (.ref (79 : Nat)), .none, (.ref (80 : Nat)), (.ref (81 : Nat)), (.ref (82 : Nat)), (.int 275 (0 : Nat)), (.int 52 (0 : Nat)), (.str (.ofString "/claim/cut.py") (276 : Nat))]), #[]⟩) <|
    @List.cons (Nat × Obj) (@Prod.mk Nat Obj (nat_lit 84) ⟨(.type "function"), (none : Option Nat), (.func ⟨(.ofString "delete"), (.ofString "GapText.delete"), p8, (.stmts b8), s8, (3 : Nat), ([] : List (Str × Nat)), .none, .none, .none, (.str (.ofString "emacs.gap") (194 : Nat)), (none : Option Nat), (.ref (83 : Nat)), .none, (0 : Nat)⟩), #[]⟩) <|
    @List.cons (Nat × Obj) (@Prod.mk Nat Obj (nat_lit 85) ⟨(.type "tuple"), (none : Option Nat), (.seq #[] (0 : Nat)), #[]⟩) <|
    @List.cons (Nat × Obj) (@Prod.mk Nat Obj (nat_lit 87) ⟨(.type "tuple"), (none : Option Nat), (.seq #[(.str (.ofString "self") (281 : Nat)), (.str (.ofString "at") (282 : Nat)), (.str (.ofString "code") (283 : Nat))] (0 : Nat)), #[]⟩) <|
    @List.cons (Nat × Obj) (@Prod.mk Nat Obj (nat_lit 88) ⟨(.type "tuple"), (none : Option Nat), (.seq #[] (0 : Nat)), #[]⟩) <|
    @List.cons (Nat × Obj) (@Prod.mk Nat Obj (nat_lit 90) ⟨(.type "code"), (none : Option Nat), (.fields #[(.str (.ofString "put") (278 : Nat)), (.str (.ofString "GapText.put") (279 : Nat)), (.str (.ofString "/claim/cut.py") (280 : Nat)), (.int 55 (0 : Nat)), (.int 3 (0 : Nat)), (.int 0 (0 : Nat)), (.int 0 (0 : Nat)), (.int 3 (0 : Nat)), (.ref (85 : Nat)), (.bool true), (.int 181 (0 : Nat)), (.ref (86 : Nat)), .none, (.ref (87 : Nat)), (.ref (88 : Nat)), (.ref (89 : Nat)), (.int 284 (0 : Nat)), (.int 55 (0 : Nat)), (.str (.ofString "/claim/cut.py") (285 : Nat))]), #[]⟩) <|
    @List.cons (Nat × Obj) (@Prod.mk Nat Obj (nat_lit 91) ⟨(.type "function"), (none : Option Nat), (.func ⟨(.ofString "put"), (.ofString "GapText.put"), p9, (.stmts b9), s9, (3 : Nat), ([] : List (Str × Nat)), .none, .none, .none, (.str (.ofString "emacs.gap") (194 : Nat)), (none : Option Nat), (.ref (90 : Nat)), .none, (0 : Nat)⟩), #[]⟩) <|
    @List.cons (Nat × Obj) (@Prod.mk Nat Obj (nat_lit 92) ⟨(.type "tuple"), (none : Option Nat), (.seq #[] (0 : Nat)), #[]⟩) <|
    @List.cons (Nat × Obj) (@Prod.mk Nat Obj (nat_lit 94) ⟨(.type "tuple"), (none : Option Nat), (.seq #[(.str (.ofString "self") (290 : Nat))] (0 : Nat)), #[]⟩) <|
    @List.cons (Nat × Obj) (@Prod.mk Nat Obj (nat_lit 95) ⟨(.type "tuple"), (none : Option Nat), (.seq #[] (0 : Nat)), #[]⟩) <|
    @List.cons (Nat × Obj) (@Prod.mk Nat Obj (nat_lit 97) ⟨(.type "code"), (none : Option Nat), (.fields #[(.str (.ofString "narrow_gap") (287 : Nat)), (.str (.ofString "GapText.narrow_gap") (288 : Nat)), (.str (.ofString "/claim/cut.py") (289 : Nat)), (.int 58 (0 : Nat)), (.int 1 (0 : Nat)), (.int 0 (0 : Nat)), (.int 0 (0 : Nat)), (.int 3 (0 : Nat)), (.ref (92 : Nat)), (.bool true), (.int 181 (0 : Nat)), (.ref (93 : Nat)), .none, (.ref (94 : Nat)), (.ref (95 : Nat)), (.ref (96 : Nat)), (.int 291 (0 : Nat)), (.int 58 (0 : Nat)), (.str (.ofString "/claim/cut.py") (292 : Nat))]), #[]⟩) <|
    @List.cons (Nat × Obj) (@Prod.mk Nat Obj (nat_lit 98) ⟨(.type "function"), (none : Option Nat), (.func ⟨(.ofString "narrow_gap"), (.ofString "GapText.narrow_gap"), p10, (.stmts b10), s10, (3 : Nat), ([] : List (Str × Nat)), .none, .none, .none, (.str (.ofString "emacs.gap") (194 : Nat)), (none : Option Nat), (.ref (97 : Nat)), .none, (0 : Nat)⟩), #[]⟩) <|
    @List.cons (Nat × Obj) (@Prod.mk Nat Obj (nat_lit 99) ⟨(.type "tuple"), (none : Option Nat), (.seq #[] (0 : Nat)), #[]⟩) <|
    @List.cons (Nat × Obj) (@Prod.mk Nat Obj (nat_lit 101) ⟨(.type "tuple"), (none : Option Nat), (.seq #[(.str (.ofString "self") (297 : Nat))] (0 : Nat)), #[]⟩) <|
    @List.cons (Nat × Obj) (@Prod.mk Nat Obj (nat_lit 102) ⟨(.type "tuple"), (none : Option Nat), (.seq #[] (0 : Nat)), #[]⟩) <|
    @List.cons (Nat × Obj) (@Prod.mk Nat Obj (nat_lit 104) ⟨(.type "code"), (none : Option Nat), (.fields #[(.str (.ofString "is_whole") (294 : Nat)), (.str (.ofString "GapText.is_whole") (295 : Nat)), (.str (.ofString "/claim/cut.py") (296 : Nat)), (.int 61 (0 : Nat)), (.int 1 (0 : Nat)), (.int 0 (0 : Nat)), (.int 0 (0 : Nat)), (.int 3 (0 : Nat)), (.ref (99 : Nat)), (.bool true), (.int 181 (0 : Nat)), (.ref (100 : Nat)), .none, (.ref (101 : Nat)), (.ref (102 : Nat)), (.ref (103 : Nat)), (.int 298 (0 : Nat)), (.int 61 (0 : Nat)), (.str (.ofString "/claim/cut.py") (299 : Nat))]), #[]⟩) <|
    @List.cons (Nat × Obj) (@Prod.mk Nat Obj (nat_lit 105) ⟨(.type "function"), (none : Option Nat), (.func ⟨(.ofString "is_whole"), (.ofString "GapText.is_whole"), p11, (.stmts b11), s11, (3 : Nat), ([] : List (Str × Nat)), .none, .none, .none, (.str (.ofString "emacs.gap") (194 : Nat)), (none : Option Nat), (.ref (104 : Nat)), .none, (0 : Nat)⟩), #[]⟩) <|
    @List.cons (Nat × Obj) (@Prod.mk Nat Obj (nat_lit 106) ⟨(.type "tuple"), (none : Option Nat), (.seq #[(.str (.ofString "cells") (301 : Nat)), (.str (.ofString "gap_end") (302 : Nat)), (.str (.ofString "gap_start") (303 : Nat)), (.str (.ofString "room") (304 : Nat))] (0 : Nat)), #[]⟩) <|
    @List.cons (Nat × Obj) (@Prod.mk Nat Obj (nat_lit 107) ⟨(.type "dict"), (none : Option Nat), (.dict #[⟨(PyData.keyHash P (.ofString "__module__")), (.str (.ofString "__module__") (203 : Nat)), (.str (.ofString "emacs.gap") (194 : Nat))⟩, ⟨(PyData.keyHash P (.ofString "__firstlineno__")), (.str (.ofString "__firstlineno__") (207 : Nat)), (.int 5 (206 : Nat))⟩, ⟨(PyData.keyHash P (.ofString "__init__")), (.str (.ofString "__init__") (216 : Nat)), (.ref (35 : Nat))⟩, ⟨(PyData.keyHash P (.ofString "size")), (.str (.ofString "size") (223 : Nat)), (.ref (42 : Nat))⟩, ⟨(PyData.keyHash P (.ofString "code")), (.str (.ofString "code") (231 : Nat)), (.ref (49 : Nat))⟩, ⟨(PyData.keyHash P (.ofString "codes")), (.str (.ofString "codes") (241 : Nat)), (.ref (56 : Nat))⟩, ⟨(PyData.keyHash P (.ofString "move_gap")), (.str (.ofString "move_gap") (250 : Nat)), (.ref (63 : Nat))⟩, ⟨(PyData.keyHash P (.ofString "widen_gap")), (.str (.ofString "widen_gap") (259 : Nat)), (.ref (70 : Nat))⟩, ⟨(PyData.keyHash P (.ofString "insert")), (.str (.ofString "insert") (268 : Nat)), (.ref (77 : Nat))⟩, ⟨(PyData.keyHash P (.ofString "delete")), (.str (.ofString "delete") (277 : Nat)), (.ref (84 : Nat))⟩, ⟨(PyData.keyHash P (.ofString "put")), (.str (.ofString "put") (286 : Nat)), (.ref (91 : Nat))⟩, ⟨(PyData.keyHash P (.ofString "narrow_gap")), (.str (.ofString "narrow_gap") (293 : Nat)), (.ref (98 : Nat))⟩, ⟨(PyData.keyHash P (.ofString "is_whole")), (.str (.ofString "is_whole") (300 : Nat)), (.ref (105 : Nat))⟩, ⟨(PyData.keyHash P (.ofString "__static_attributes__")), (.str (.ofString "__static_attributes__") (305 : Nat)), (.ref (106 : Nat))⟩, ⟨(PyData.keyHash P (.ofString "__dict__")), (.str (.ofString "__dict__") (307 : Nat)), (.ref (109 : Nat))⟩, ⟨(PyData.keyHash P (.ofString "__weakref__")), (.str (.ofString "__weakref__") (309 : Nat)), (.ref (110 : Nat))⟩, ⟨(PyData.keyHash P (.ofString "__doc__")), (.str (.ofString "__doc__") (310 : Nat)), .none⟩] (4 : Nat)), #[]⟩) <|
    @List.cons (Nat × Obj) (@Prod.mk Nat Obj (nat_lit 108) ⟨(.type "type"), (none : Option Nat), (.cls ⟨(.ofString "GapText"), [(.type "object")], [(.ref (108 : Nat)), (.type "object")], (107 : Nat), (.ofString "GapText"), true, [], [], false, none, false⟩), #[none, none, (some (.str (.ofString "GapText") (196 : Nat))), (some (.str (.ofString "GapText") (204 : Nat))), (some (.builtin "object.__new__")), (some (.bool true))]⟩) <|
    @List.cons (Nat × Obj) (@Prod.mk Nat Obj (nat_lit 109) ⟨(.type "getset_descriptor"), (none : Option Nat), (.fields #[(.str (.ofString "__dict__") (306 : Nat)), (.ref (108 : Nat)), (.builtin "function.__dict__"), (.builtin "function.__dict__#set")]), #[]⟩) <|
    @List.cons (Nat × Obj) (@Prod.mk Nat Obj (nat_lit 110) ⟨(.type "getset_descriptor"), (none : Option Nat), (.fields #[(.str (.ofString "__weakref__") (308 : Nat)), (.ref (108 : Nat)), (.builtin "ExceptionGroup.__weakref__"), .none]), #[]⟩) <|
    @List.cons (Nat × Obj) (@Prod.mk Nat Obj (nat_lit 120) ⟨(.type "tuple"), (none : Option Nat), (.seq #[] (0 : Nat)), #[]⟩) <|
    @List.cons (Nat × Obj) (@Prod.mk Nat Obj (nat_lit 122) ⟨(.type "tuple"), (none : Option Nat), (.seq #[(.str (.ofString "self") (330 : Nat))] (0 : Nat)), #[]⟩) <|
    @List.cons (Nat × Obj) (@Prod.mk Nat Obj (nat_lit 123) ⟨(.type "tuple"), (none : Option Nat), (.seq #[] (0 : Nat)), #[]⟩) <|
    @List.cons (Nat × Obj) (@Prod.mk Nat Obj (nat_lit 125) ⟨(.type "code"), (none : Option Nat), (.fields #[(.str (.ofString "shown") (327 : Nat)), (.str (.ofString "Opaque.shown") (328 : Nat)), (.str (.ofString "/claim/cut.py") (329 : Nat)), (.int 66 (0 : Nat)), (.int 1 (0 : Nat)), (.int 0 (0 : Nat)), (.int 0 (0 : Nat)), (.int 3 (0 : Nat)), (.ref (120 : Nat)), (.bool true), (.int 181 (0 : Nat)), (.ref (121 : Nat)), .none, (.ref (122 : Nat)), (.ref (123 : Nat)), (.ref (124 : Nat)), (.int 331 (0 : Nat)), (.int 66 (0 : Nat)), (.str (.ofString "/claim/cut.py") (332 : Nat))]), #[]⟩) <|
    @List.cons (Nat × Obj) (@Prod.mk Nat Obj (nat_lit 126) ⟨(.type "function"), (none : Option Nat), (.func ⟨(.ofString "shown"), (.ofString "Opaque.shown"), p12, (.stmts b12), s12, (3 : Nat), ([] : List (Str × Nat)), .none, .none, .none, (.str (.ofString "emacs.objects") (313 : Nat)), (none : Option Nat), (.ref (125 : Nat)), .none, (0 : Nat)⟩), #[]⟩) <|
    @List.cons (Nat × Obj) (@Prod.mk Nat Obj (nat_lit 127) ⟨(.type "tuple"), (none : Option Nat), (.seq #[] (0 : Nat)), #[]⟩) <|
    @List.cons (Nat × Obj) (@Prod.mk Nat Obj (nat_lit 129) ⟨(.type "tuple"), (none : Option Nat), (.seq #[(.str (.ofString "self") (337 : Nat))] (0 : Nat)), #[]⟩) <|
    @List.cons (Nat × Obj) (@Prod.mk Nat Obj (nat_lit 130) ⟨(.type "tuple"), (none : Option Nat), (.seq #[] (0 : Nat)), #[]⟩) <|
    @List.cons (Nat × Obj) (@Prod.mk Nat Obj (nat_lit 132) ⟨(.type "code"), (none : Option Nat), (.fields #[(.str (.ofString "kind") (334 : Nat)), (.str (.ofString "Opaque.kind") (335 : Nat)), (.str (.ofString "/claim/cut.py") (336 : Nat)), (.int 69 (0 : Nat)), (.int 1 (0 : Nat)), (.int 0 (0 : Nat)), (.int 0 (0 : Nat)), (.int 3 (0 : Nat)), (.ref (127 : Nat)), (.bool true), (.int 181 (0 : Nat)), (.ref (128 : Nat)), .none, (.ref (129 : Nat)), (.ref (130 : Nat)), (.ref (131 : Nat)), (.int 338 (0 : Nat)), (.int 69 (0 : Nat)), (.str (.ofString "/claim/cut.py") (339 : Nat))]), #[]⟩) <|
    @List.cons (Nat × Obj) (@Prod.mk Nat Obj (nat_lit 133) ⟨(.type "function"), (none : Option Nat), (.func ⟨(.ofString "kind"), (.ofString "Opaque.kind"), p13, (.stmts b13), s13, (3 : Nat), ([] : List (Str × Nat)), .none, .none, .none, (.str (.ofString "emacs.objects") (313 : Nat)), (none : Option Nat), (.ref (132 : Nat)), .none, (0 : Nat)⟩), #[]⟩) <|
    @List.cons (Nat × Obj) (@Prod.mk Nat Obj (nat_lit 134) ⟨(.type "tuple"), (none : Option Nat), (.seq #[] (0 : Nat)), #[]⟩) <|
    @List.cons (Nat × Obj) (@Prod.mk Nat Obj (nat_lit 136) ⟨(.type "tuple"), (none : Option Nat), (.seq #[(.str (.ofString "self") (344 : Nat)), (.str (.ofString "other") (345 : Nat))] (0 : Nat)), #[]⟩) <|
    @List.cons (Nat × Obj) (@Prod.mk Nat Obj (nat_lit 137) ⟨(.type "tuple"), (none : Option Nat), (.seq #[] (0 : Nat)), #[]⟩) <|
    @List.cons (Nat × Obj) (@Prod.mk Nat Obj (nat_lit 139) ⟨(.type "code"), (none : Option Nat), (.fields #[(.str (.ofString "same_as") (341 : Nat)), (.str (.ofString "Opaque.same_as") (342 : Nat)), (.str (.ofString "/claim/cut.py") (343 : Nat)), (.int 72 (0 : Nat)), (.int 2 (0 : Nat)), (.int 0 (0 : Nat)), (.int 0 (0 : Nat)), (.int 3 (0 : Nat)), (.ref (134 : Nat)), (.bool true), (.int 181 (0 : Nat)), (.ref (135 : Nat)), .none, (.ref (136 : Nat)), (.ref (137 : Nat)), (.ref (138 : Nat)), (.int 346 (0 : Nat)), (.int 72 (0 : Nat)), (.str (.ofString "/claim/cut.py") (347 : Nat))]), #[]⟩) <|
    @List.cons (Nat × Obj) (@Prod.mk Nat Obj (nat_lit 140) ⟨(.type "function"), (none : Option Nat), (.func ⟨(.ofString "same_as"), (.ofString "Opaque.same_as"), p14, (.stmts b14), s14, (3 : Nat), ([] : List (Str × Nat)), .none, .none, .none, (.str (.ofString "emacs.objects") (313 : Nat)), (none : Option Nat), (.ref (139 : Nat)), .none, (0 : Nat)⟩), #[]⟩) <|
    @List.cons (Nat × Obj) (@Prod.mk Nat Obj (nat_lit 141) ⟨(.type "tuple"), (none : Option Nat), (.seq #[] (0 : Nat)), #[]⟩) <|
    @List.cons (Nat × Obj) (@Prod.mk Nat Obj (nat_lit 142) ⟨(.type "dict"), (none : Option Nat), (.dict #[⟨(PyData.keyHash P (.ofString "__module__")), (.str (.ofString "__module__") (322 : Nat)), (.str (.ofString "emacs.objects") (313 : Nat))⟩, ⟨(PyData.keyHash P (.ofString "__firstlineno__")), (.str (.ofString "__firstlineno__") (326 : Nat)), (.int 64 (325 : Nat))⟩, ⟨(PyData.keyHash P (.ofString "shown")), (.str (.ofString "shown") (333 : Nat)), (.ref (126 : Nat))⟩, ⟨(PyData.keyHash P (.ofString "kind")), (.str (.ofString "kind") (340 : Nat)), (.ref (133 : Nat))⟩, ⟨(PyData.keyHash P (.ofString "same_as")), (.str (.ofString "same_as") (348 : Nat)), (.ref (140 : Nat))⟩, ⟨(PyData.keyHash P (.ofString "__static_attributes__")), (.str (.ofString "__static_attributes__") (349 : Nat)), (.ref (141 : Nat))⟩, ⟨(PyData.keyHash P (.ofString "__dict__")), (.str (.ofString "__dict__") (351 : Nat)), (.ref (144 : Nat))⟩, ⟨(PyData.keyHash P (.ofString "__weakref__")), (.str (.ofString "__weakref__") (353 : Nat)), (.ref (145 : Nat))⟩, ⟨(PyData.keyHash P (.ofString "__doc__")), (.str (.ofString "__doc__") (354 : Nat)), .none⟩] (4 : Nat)), #[]⟩) <|
    @List.cons (Nat × Obj) (@Prod.mk Nat Obj (nat_lit 143) ⟨(.type "type"), (none : Option Nat), (.cls ⟨(.ofString "Opaque"), [(.type "object")], [(.ref (143 : Nat)), (.type "object")], (142 : Nat), (.ofString "Opaque"), true, [], [(.ref (185 : Nat)), (.ref (359 : Nat))], false, none, false⟩), #[none, none, (some (.str (.ofString "Opaque") (315 : Nat))), (some (.str (.ofString "Opaque") (323 : Nat))), (some (.builtin "object.__new__")), (some (.bool true))]⟩) <|
    @List.cons (Nat × Obj) (@Prod.mk Nat Obj (nat_lit 144) ⟨(.type "getset_descriptor"), (none : Option Nat), (.fields #[(.str (.ofString "__dict__") (350 : Nat)), (.ref (143 : Nat)), (.builtin "function.__dict__"), (.builtin "function.__dict__#set")]), #[]⟩) <|
    @List.cons (Nat × Obj) (@Prod.mk Nat Obj (nat_lit 145) ⟨(.type "getset_descriptor"), (none : Option Nat), (.fields #[(.str (.ofString "__weakref__") (352 : Nat)), (.ref (143 : Nat)), (.builtin "ExceptionGroup.__weakref__"), .none]), #[]⟩) <|
    @List.cons (Nat × Obj) (@Prod.mk Nat Obj (nat_lit 148) ⟨(.type "tuple"), (none : Option Nat), (.seq #[(.ref (143 : Nat))] (0 : Nat)), #[]⟩) <|
    @List.cons (Nat × Obj) (@Prod.mk Nat Obj (nat_lit 155) ⟨(.type "tuple"), (none : Option Nat), (.seq #[] (0 : Nat)), #[]⟩) <|
    @List.cons (Nat × Obj) (@Prod.mk Nat Obj (nat_lit 157) ⟨(.type "tuple"), (none : Option Nat), (.seq #[(.str (.ofString "self") (374 : Nat)), (.str (.ofString "number") (375 : Nat)), (.str (.ofString "advances") (376 : Nat))] (0 : Nat)), #[]⟩) <|
    @List.cons (Nat × Obj) (@Prod.mk Nat Obj (nat_lit 158) ⟨(.type "tuple"), (none : Option Nat), (.seq #[] (0 : Nat)), #[]⟩) <|
    @List.cons (Nat × Obj) (@Prod.mk Nat Obj (nat_lit 160) ⟨(.type "code"), (none : Option Nat), (.fields #[(.str (.ofString "__init__") (371 : Nat)), (.str (.ofString "Marker.__init__") (372 : Nat)), (.str (.ofString "/claim/cut.py") (373 : Nat)), (.int 77 (0 : Nat)), (.int 3 (0 : Nat)), (.int 0 (0 : Nat)), (.int 0 (0 : Nat)), (.int 3 (0 : Nat)), (.ref (155 : Nat)), (.bool true), (.int 181 (0 : Nat)), (.ref (156 : Nat)), .none, (.ref (157 : Nat)), (.ref (158 : Nat)), (.ref (159 : Nat)), (.int 377 (0 : Nat)), (.int 77 (0 : Nat)), (.str (.ofString "/claim/cut.py") (378 : Nat))]), #[]⟩) <|
    @List.cons (Nat × Obj) (@Prod.mk Nat Obj (nat_lit 161) ⟨(.type "function"), (none : Option Nat), (.func ⟨(.ofString "__init__"), (.ofString "Marker.__init__"), p15, (.stmts b15), s15, (3 : Nat), ([] : List (Str × Nat)), .none, .none, .none, (.str (.ofString "emacs.markers") (357 : Nat)), (none : Option Nat), (.ref (160 : Nat)), .none, (0 : Nat)⟩), #[]⟩) <|
    @List.cons (Nat × Obj) (@Prod.mk Nat Obj (nat_lit 162) ⟨(.type "tuple"), (none : Option Nat), (.seq #[] (0 : Nat)), #[]⟩) <|
    @List.cons (Nat × Obj) (@Prod.mk Nat Obj (nat_lit 164) ⟨(.type "tuple"), (none : Option Nat), (.seq #[(.str (.ofString "self") (383 : Nat))] (0 : Nat)), #[]⟩) <|
    @List.cons (Nat × Obj) (@Prod.mk Nat Obj (nat_lit 165) ⟨(.type "tuple"), (none : Option Nat), (.seq #[] (0 : Nat)), #[]⟩) <|
    @List.cons (Nat × Obj) (@Prod.mk Nat Obj (nat_lit 167) ⟨(.type "code"), (none : Option Nat), (.fields #[(.str (.ofString "shown") (380 : Nat)), (.str (.ofString "Marker.shown") (381 : Nat)), (.str (.ofString "/claim/cut.py") (382 : Nat)), (.int 83 (0 : Nat)), (.int 1 (0 : Nat)), (.int 0 (0 : Nat)), (.int 0 (0 : Nat)), (.int 3 (0 : Nat)), (.ref (162 : Nat)), (.bool true), (.int 181 (0 : Nat)), (.ref (163 : Nat)), .none, (.ref (164 : Nat)), (.ref (165 : Nat)), (.ref (166 : Nat)), (.int 384 (0 : Nat)), (.int 83 (0 : Nat)), (.str (.ofString "/claim/cut.py") (385 : Nat))]), #[]⟩) <|
    @List.cons (Nat × Obj) (@Prod.mk Nat Obj (nat_lit 168) ⟨(.type "function"), (none : Option Nat), (.func ⟨(.ofString "shown"), (.ofString "Marker.shown"), p16, (.stmts b16), s16, (3 : Nat), ([] : List (Str × Nat)), .none, .none, .none, (.str (.ofString "emacs.markers") (357 : Nat)), (none : Option Nat), (.ref (167 : Nat)), .none, (0 : Nat)⟩), #[]⟩) <|
    @List.cons (Nat × Obj) (@Prod.mk Nat Obj (nat_lit 169) ⟨(.type "tuple"), (none : Option Nat), (.seq #[] (0 : Nat)), #[]⟩) <|
    @List.cons (Nat × Obj) (@Prod.mk Nat Obj (nat_lit 171) ⟨(.type "tuple"), (none : Option Nat), (.seq #[(.str (.ofString "self") (390 : Nat))] (0 : Nat)), #[]⟩) <|
    @List.cons (Nat × Obj) (@Prod.mk Nat Obj (nat_lit 172) ⟨(.type "tuple"), (none : Option Nat), (.seq #[] (0 : Nat)), #[]⟩) <|
    @List.cons (Nat × Obj) (@Prod.mk Nat Obj (nat_lit 174) ⟨(.type "code"), (none : Option Nat), (.fields #[(.str (.ofString "kind") (387 : Nat)), (.str (.ofString "Marker.kind") (388 : Nat)), (.str (.ofString "/claim/cut.py") (389 : Nat)), (.int 86 (0 : Nat)), (.int 1 (0 : Nat)), (.int 0 (0 : Nat)), (.int 0 (0 : Nat)), (.int 3 (0 : Nat)), (.ref (169 : Nat)), (.bool true), (.int 181 (0 : Nat)), (.ref (170 : Nat)), .none, (.ref (171 : Nat)), (.ref (172 : Nat)), (.ref (173 : Nat)), (.int 391 (0 : Nat)), (.int 86 (0 : Nat)), (.str (.ofString "/claim/cut.py") (392 : Nat))]), #[]⟩) <|
    @List.cons (Nat × Obj) (@Prod.mk Nat Obj (nat_lit 175) ⟨(.type "function"), (none : Option Nat), (.func ⟨(.ofString "kind"), (.ofString "Marker.kind"), p17, (.stmts b17), s17, (3 : Nat), ([] : List (Str × Nat)), .none, .none, .none, (.str (.ofString "emacs.markers") (357 : Nat)), (none : Option Nat), (.ref (174 : Nat)), .none, (0 : Nat)⟩), #[]⟩) <|
    @List.cons (Nat × Obj) (@Prod.mk Nat Obj (nat_lit 176) ⟨(.type "tuple"), (none : Option Nat), (.seq #[] (0 : Nat)), #[]⟩) <|
    @List.cons (Nat × Obj) (@Prod.mk Nat Obj (nat_lit 178) ⟨(.type "tuple"), (none : Option Nat), (.seq #[(.str (.ofString "self") (397 : Nat)), (.str (.ofString "other") (398 : Nat))] (0 : Nat)), #[]⟩) <|
    @List.cons (Nat × Obj) (@Prod.mk Nat Obj (nat_lit 179) ⟨(.type "tuple"), (none : Option Nat), (.seq #[] (0 : Nat)), #[]⟩) <|
    @List.cons (Nat × Obj) (@Prod.mk Nat Obj (nat_lit 181) ⟨(.type "code"), (none : Option Nat), (.fields #[(.str (.ofString "same_as") (394 : Nat)), (.str (.ofString "Marker.same_as") (395 : Nat)), (.str (.ofString "/claim/cut.py") (396 : Nat)), (.int 89 (0 : Nat)), (.int 2 (0 : Nat)), (.int 0 (0 : Nat)), (.int 0 (0 : Nat)), (.int 3 (0 : Nat)), (.ref (176 : Nat)), (.bool true), (.int 181 (0 : Nat)), (.ref (177 : Nat)), .none, (.ref (178 : Nat)), (.ref (179 : Nat)), (.ref (180 : Nat)), (.int 399 (0 : Nat)), (.int 89 (0 : Nat)), (.str (.ofString "/claim/cut.py") (400 : Nat))]), #[]⟩) <|
    @List.cons (Nat × Obj) (@Prod.mk Nat Obj (nat_lit 182) ⟨(.type "function"), (none : Option Nat), (.func ⟨(.ofString "same_as"), (.ofString "Marker.same_as"), p18, (.stmts b18), s18, (3 : Nat), ([] : List (Str × Nat)), .none, .none, .none, (.str (.ofString "emacs.markers") (357 : Nat)), (none : Option Nat), (.ref (181 : Nat)), .none, (0 : Nat)⟩), #[]⟩) <|
    @List.cons (Nat × Obj) (@Prod.mk Nat Obj (nat_lit 183) ⟨(.type "tuple"), (none : Option Nat), (.seq #[(.str (.ofString "advances") (402 : Nat)), (.str (.ofString "buffer") (403 : Nat)), (.str (.ofString "number") (404 : Nat)), (.str (.ofString "position") (405 : Nat))] (0 : Nat)), #[]⟩) <|
    @List.cons (Nat × Obj) (@Prod.mk Nat Obj (nat_lit 184) ⟨(.type "dict"), (none : Option Nat), (.dict #[⟨(PyData.keyHash P (.ofString "__module__")), (.str (.ofString "__module__") (366 : Nat)), (.str (.ofString "emacs.markers") (357 : Nat))⟩, ⟨(PyData.keyHash P (.ofString "__firstlineno__")), (.str (.ofString "__firstlineno__") (370 : Nat)), (.int 75 (369 : Nat))⟩, ⟨(PyData.keyHash P (.ofString "__init__")), (.str (.ofString "__init__") (379 : Nat)), (.ref (161 : Nat))⟩, ⟨(PyData.keyHash P (.ofString "shown")), (.str (.ofString "shown") (386 : Nat)), (.ref (168 : Nat))⟩, ⟨(PyData.keyHash P (.ofString "kind")), (.str (.ofString "kind") (393 : Nat)), (.ref (175 : Nat))⟩, ⟨(PyData.keyHash P (.ofString "same_as")), (.str (.ofString "same_as") (401 : Nat)), (.ref (182 : Nat))⟩, ⟨(PyData.keyHash P (.ofString "__static_attributes__")), (.str (.ofString "__static_attributes__") (406 : Nat)), (.ref (183 : Nat))⟩, ⟨(PyData.keyHash P (.ofString "__doc__")), (.str (.ofString "__doc__") (407 : Nat)), .none⟩] (2 : Nat)), #[]⟩) <|
    @List.cons (Nat × Obj) (@Prod.mk Nat Obj (nat_lit 185) ⟨(.type "type"), (none : Option Nat), (.cls ⟨(.ofString "Marker"), [(.ref (143 : Nat))], [(.ref (185 : Nat)), (.ref (143 : Nat)), (.type "object")], (184 : Nat), (.ofString "Marker"), true, [], [], false, none, false⟩), #[(some (.ref (148 : Nat))), none, (some (.str (.ofString "Marker") (359 : Nat))), (some (.str (.ofString "Marker") (367 : Nat))), (some (.builtin "object.__new__")), (some (.bool true))]⟩) <|
    @List.cons (Nat × Obj) (@Prod.mk Nat Obj (nat_lit 195) ⟨(.type "tuple"), (none : Option Nat), (.seq #[] (0 : Nat)), #[]⟩) <|
    @List.cons (Nat × Obj) (@Prod.mk Nat Obj (nat_lit 197) ⟨(.type "tuple"), (none : Option Nat), (.seq #[(.str (.ofString "self") (425 : Nat))] (0 : Nat)), #[]⟩) <|
    @List.cons (Nat × Obj) (@Prod.mk Nat Obj (nat_lit 198) ⟨(.type "tuple"), (none : Option Nat), (.seq #[] (0 : Nat)), #[]⟩) <|
    @List.cons (Nat × Obj) (@Prod.mk Nat Obj (nat_lit 200) ⟨(.type "code"), (none : Option Nat), (.fields #[(.str (.ofString "__init__") (422 : Nat)), (.str (.ofString "Markers.__init__") (423 : Nat)), (.str (.ofString "/claim/cut.py") (424 : Nat)), (.int 93 (0 : Nat)), (.int 1 (0 : Nat)), (.int 0 (0 : Nat)), (.int 0 (0 : Nat)), (.int 3 (0 : Nat)), (.ref (195 : Nat)), (.bool true), (.int 181 (0 : Nat)), (.ref (196 : Nat)), .none, (.ref (197 : Nat)), (.ref (198 : Nat)), (.ref (199 : Nat)), (.int 426 (0 : Nat)), (.int 93 (0 : Nat)), (.str (.ofString "/claim/cut.py") (427 : Nat))]), #[]⟩) <|
    @List.cons (Nat × Obj) (@Prod.mk Nat Obj (nat_lit 201) ⟨(.type "function"), (none : Option Nat), (.func ⟨(.ofString "__init__"), (.ofString "Markers.__init__"), p19, (.stmts b19), s19, (3 : Nat), ([] : List (Str × Nat)), .none, .none, .none, (.str (.ofString "emacs.markers") (357 : Nat)), (none : Option Nat), (.ref (200 : Nat)), .none, (0 : Nat)⟩), #[]⟩) <|
    @List.cons (Nat × Obj) (@Prod.mk Nat Obj (nat_lit 202) ⟨(.type "tuple"), (none : Option Nat), (.seq #[] (0 : Nat)), #[]⟩) <|
    @List.cons (Nat × Obj) (@Prod.mk Nat Obj (nat_lit 204) ⟨(.type "tuple"), (none : Option Nat), (.seq #[(.str (.ofString "self") (432 : Nat))] (0 : Nat)), #[]⟩) <|
    @List.cons (Nat × Obj) (@Prod.mk Nat Obj (nat_lit 205) ⟨(.type "tuple"), (none : Option Nat), (.seq #[] (0 : Nat)), #[]⟩) <|
    @List.cons (Nat × Obj) (@Prod.mk Nat Obj (nat_lit 207) ⟨(.type "code"), (none : Option Nat), (.fields #[(.str (.ofString "numbers") (429 : Nat)), (.str (.ofString "Markers.numbers") (430 : Nat)), (.str (.ofString "/claim/cut.py") (431 : Nat)), (.int 96 (0 : Nat)), (.int 1 (0 : Nat)), (.int 0 (0 : Nat)), (.int 0 (0 : Nat)), (.int 3 (0 : Nat)), (.ref (202 : Nat)), (.bool true), (.int 181 (0 : Nat)), (.ref (203 : Nat)), .none, (.ref (204 : Nat)), (.ref (205 : Nat)), (.ref (206 : Nat)), (.int 433 (0 : Nat)), (.int 96 (0 : Nat)), (.str (.ofString "/claim/cut.py") (434 : Nat))]), #[]⟩) <|
    @List.cons (Nat × Obj) (@Prod.mk Nat Obj (nat_lit 208) ⟨(.type "function"), (none : Option Nat), (.func ⟨(.ofString "numbers"), (.ofString "Markers.numbers"), p20, (.stmts b20), s20, (3 : Nat), ([] : List (Str × Nat)), .none, .none, .none, (.str (.ofString "emacs.markers") (357 : Nat)), (none : Option Nat), (.ref (207 : Nat)), .none, (0 : Nat)⟩), #[]⟩) <|
    @List.cons (Nat × Obj) (@Prod.mk Nat Obj (nat_lit 209) ⟨(.type "tuple"), (none : Option Nat), (.seq #[] (0 : Nat)), #[]⟩) <|
    @List.cons (Nat × Obj) (@Prod.mk Nat Obj (nat_lit 211) ⟨(.type "tuple"), (none : Option Nat), (.seq #[(.str (.ofString "self") (439 : Nat)), (.str (.ofString "marker") (440 : Nat)), (.str (.ofString "position") (441 : Nat))] (0 : Nat)), #[]⟩) <|
    @List.cons (Nat × Obj) (@Prod.mk Nat Obj (nat_lit 212) ⟨(.type "tuple"), (none : Option Nat), (.seq #[] (0 : Nat)), #[]⟩) <|
    @List.cons (Nat × Obj) (@Prod.mk Nat Obj (nat_lit 214) ⟨(.type "code"), (none : Option Nat), (.fields #[(.str (.ofString "put") (436 : Nat)), (.str (.ofString "Markers.put") (437 : Nat)), (.str (.ofString "/claim/cut.py") (438 : Nat)), (.int 99 (0 : Nat)), (.int 3 (0 : Nat)), (.int 0 (0 : Nat)), (.int 0 (0 : Nat)), (.int 3 (0 : Nat)), (.ref (209 : Nat)), (.bool true), (.int 181 (0 : Nat)), (.ref (210 : Nat)), .none, (.ref (211 : Nat)), (.ref (212 : Nat)), (.ref (213 : Nat)), (.int 442 (0 : Nat)), (.int 99 (0 : Nat)), (.str (.ofString "/claim/cut.py") (443 : Nat))]), #[]⟩) <|
    @List.cons (Nat × Obj) (@Prod.mk Nat Obj (nat_lit 215) ⟨(.type "function"), (none : Option Nat), (.func ⟨(.ofString "put"), (.ofString "Markers.put"), p21, (.stmts b21), s21, (3 : Nat), ([] : List (Str × Nat)), .none, .none, .none, (.str (.ofString "emacs.markers") (357 : Nat)), (none : Option Nat), (.ref (214 : Nat)), .none, (0 : Nat)⟩), #[]⟩) <|
    @List.cons (Nat × Obj) (@Prod.mk Nat Obj (nat_lit 216) ⟨(.type "tuple"), (none : Option Nat), (.seq #[] (0 : Nat)), #[]⟩) <|
    @List.cons (Nat × Obj) (@Prod.mk Nat Obj (nat_lit 218) ⟨(.type "tuple"), (none : Option Nat), (.seq #[(.str (.ofString "self") (448 : Nat)), (.str (.ofString "marker") (449 : Nat))] (0 : Nat)), #[]⟩) <|
    @List.cons (Nat × Obj) (@Prod.mk Nat Obj (nat_lit 219) ⟨(.type "tuple"), (none : Option Nat), (.seq #[] (0 : Nat)), #[]⟩) <|
    @List.cons (Nat × Obj) (@Prod.mk Nat Obj (nat_lit 221) ⟨(.type "code"), (none : Option Nat), (.fields #[(.str (.ofString "drop") (445 : Nat)), (.str (.ofString "Markers.drop") (446 : Nat)), (.str (.ofString "/claim/cut.py") (447 : Nat)), (.int 103 (0 : Nat)), (.int 2 (0 : Nat)), (.int 0 (0 : Nat)), (.int 0 (0 : Nat)), (.int 3 (0 : Nat)), (.ref (216 : Nat)), (.bool true), (.int 181 (0 : Nat)), (.ref (217 : Nat)), .none, (.ref (218 : Nat)), (.ref (219 : Nat)), (.ref (220 : Nat)), (.int 450 (0 : Nat)), (.int 103 (0 : Nat)), (.str (.ofString "/claim/cut.py") (451 : Nat))]), #[]⟩) <|
    @List.cons (Nat × Obj) (@Prod.mk Nat Obj (nat_lit 222) ⟨(.type "function"), (none : Option Nat), (.func ⟨(.ofString "drop"), (.ofString "Markers.drop"), p22, (.stmts b22), s22, (3 : Nat), ([] : List (Str × Nat)), .none, .none, .none, (.str (.ofString "emacs.markers") (357 : Nat)), (none : Option Nat), (.ref (221 : Nat)), .none, (0 : Nat)⟩), #[]⟩) <|
    @List.cons (Nat × Obj) (@Prod.mk Nat Obj (nat_lit 223) ⟨(.type "tuple"), (none : Option Nat), (.seq #[] (0 : Nat)), #[]⟩) <|
    @List.cons (Nat × Obj) (@Prod.mk Nat Obj (nat_lit 225) ⟨(.type "tuple"), (none : Option Nat), (.seq #[(.str (.ofString "self") (456 : Nat)), (.str (.ofString "start") (457 : Nat)), (.str (.ofString "end") (458 : Nat)), (.str (.ofString "found") (459 : Nat)), (.str (.ofString "number") (460 : Nat))] (0 : Nat)), #[]⟩) <|
    @List.cons (Nat × Obj) (@Prod.mk Nat Obj (nat_lit 226) ⟨(.type "tuple"), (none : Option Nat), (.seq #[] (0 : Nat)), #[]⟩) <|
    @List.cons (Nat × Obj) (@Prod.mk Nat Obj (nat_lit 228) ⟨(.type "code"), (none : Option Nat), (.fields #[(.str (.ofString "within") (453 : Nat)), (.str (.ofString "Markers.within") (454 : Nat)), (.str (.ofString "/claim/cut.py") (455 : Nat)), (.int 107 (0 : Nat)), (.int 3 (0 : Nat)), (.int 0 (0 : Nat)), (.int 0 (0 : Nat)), (.int 3 (0 : Nat)), (.ref (223 : Nat)), (.bool true), (.int 181 (0 : Nat)), (.ref (224 : Nat)), .none, (.ref (225 : Nat)), (.ref (226 : Nat)), (.ref (227 : Nat)), (.int 461 (0 : Nat)), (.int 107 (0 : Nat)), (.str (.ofString "/claim/cut.py") (462 : Nat))]), #[]⟩) <|
    @List.cons (Nat × Obj) (@Prod.mk Nat Obj (nat_lit 229) ⟨(.type "function"), (none : Option Nat), (.func ⟨(.ofString "within"), (.ofString "Markers.within"), p23, (.stmts b23), s23, (3 : Nat), ([] : List (Str × Nat)), .none, .none, .none, (.str (.ofString "emacs.markers") (357 : Nat)), (none : Option Nat), (.ref (228 : Nat)), .none, (0 : Nat)⟩), #[]⟩) <|
    @List.cons (Nat × Obj) (@Prod.mk Nat Obj (nat_lit 230) ⟨(.type "tuple"), (none : Option Nat), (.seq #[] (0 : Nat)), #[]⟩) <|
    @List.cons (Nat × Obj) (@Prod.mk Nat Obj (nat_lit 232) ⟨(.type "tuple"), (none : Option Nat), (.seq #[(.str (.ofString "self") (467 : Nat)), (.str (.ofString "start") (468 : Nat)), (.str (.ofString "end") (469 : Nat)), (.str (.ofString "is_before") (470 : Nat))] (0 : Nat)), #[]⟩) <|
    @List.cons (Nat × Obj) (@Prod.mk Nat Obj (nat_lit 233) ⟨(.type "tuple"), (none : Option Nat), (.seq #[] (0 : Nat)), #[]⟩) <|
    @List.cons (Nat × Obj) (@Prod.mk Nat Obj (nat_lit 235) ⟨(.type "code"), (none : Option Nat), (.fields #[(.str (.ofString "inserted") (464 : Nat)), (.str (.ofString "Markers.inserted") (465 : Nat)), (.str (.ofString "/claim/cut.py") (466 : Nat)), (.int 114 (0 : Nat)), (.int 4 (0 : Nat)), (.int 0 (0 : Nat)), (.int 0 (0 : Nat)), (.int 3 (0 : Nat)), (.ref (230 : Nat)), (.bool true), (.int 181 (0 : Nat)), (.ref (231 : Nat)), .none, (.ref (232 : Nat)), (.ref (233 : Nat)), (.ref (234 : Nat)), (.int 471 (0 : Nat)), (.int 114 (0 : Nat)), (.str (.ofString "/claim/cut.py") (472 : Nat))]), #[]⟩) <|
    @List.cons (Nat × Obj) (@Prod.mk Nat Obj (nat_lit 236) ⟨(.type "function"), (none : Option Nat), (.func ⟨(.ofString "inserted"), (.ofString "Markers.inserted"), p24, (.stmts b24), s24, (3 : Nat), ([] : List (Str × Nat)), .none, .none, .none, (.str (.ofString "emacs.markers") (357 : Nat)), (none : Option Nat), (.ref (235 : Nat)), .none, (0 : Nat)⟩), #[]⟩) <|
    @List.cons (Nat × Obj) (@Prod.mk Nat Obj (nat_lit 237) ⟨(.type "tuple"), (none : Option Nat), (.seq #[] (0 : Nat)), #[]⟩) <|
    @List.cons (Nat × Obj) (@Prod.mk Nat Obj (nat_lit 239) ⟨(.type "tuple"), (none : Option Nat), (.seq #[(.str (.ofString "self") (477 : Nat)), (.str (.ofString "start") (478 : Nat)), (.str (.ofString "end") (479 : Nat)), (.str (.ofString "number") (480 : Nat)), (.str (.ofString "marker") (481 : Nat))] (0 : Nat)), #[]⟩) <|
    @List.cons (Nat × Obj) (@Prod.mk Nat Obj (nat_lit 240) ⟨(.type "tuple"), (none : Option Nat), (.seq #[] (0 : Nat)), #[]⟩) <|
    @List.cons (Nat × Obj) (@Prod.mk Nat Obj (nat_lit 242) ⟨(.type "code"), (none : Option Nat), (.fields #[(.str (.ofString "deleted") (474 : Nat)), (.str (.ofString "Markers.deleted") (475 : Nat)), (.str (.ofString "/claim/cut.py") (476 : Nat)), (.int 117 (0 : Nat)), (.int 3 (0 : Nat)), (.int 0 (0 : Nat)), (.int 0 (0 : Nat)), (.int 3 (0 : Nat)), (.ref (237 : Nat)), (.bool true), (.int 181 (0 : Nat)), (.ref (238 : Nat)), .none, (.ref (239 : Nat)), (.ref (240 : Nat)), (.ref (241 : Nat)), (.int 482 (0 : Nat)), (.int 117 (0 : Nat)), (.str (.ofString "/claim/cut.py") (483 : Nat))]), #[]⟩) <|
    @List.cons (Nat × Obj) (@Prod.mk Nat Obj (nat_lit 243) ⟨(.type "function"), (none : Option Nat), (.func ⟨(.ofString "deleted"), (.ofString "Markers.deleted"), p25, (.stmts b25), s25, (3 : Nat), ([] : List (Str × Nat)), .none, .none, .none, (.str (.ofString "emacs.markers") (357 : Nat)), (none : Option Nat), (.ref (242 : Nat)), .none, (0 : Nat)⟩), #[]⟩) <|
    @List.cons (Nat × Obj) (@Prod.mk Nat Obj (nat_lit 244) ⟨(.type "tuple"), (none : Option Nat), (.seq #[] (0 : Nat)), #[]⟩) <|
    @List.cons (Nat × Obj) (@Prod.mk Nat Obj (nat_lit 246) ⟨(.type "tuple"), (none : Option Nat), (.seq #[(.str (.ofString "self") (488 : Nat)), (.str (.ofString "start") (489 : Nat)), (.str (.ofString "end") (490 : Nat)), (.str (.ofString "many") (491 : Nat))] (0 : Nat)), #[]⟩) <|
    @List.cons (Nat × Obj) (@Prod.mk Nat Obj (nat_lit 247) ⟨(.type "tuple"), (none : Option Nat), (.seq #[] (0 : Nat)), #[]⟩) <|
    @List.cons (Nat × Obj) (@Prod.mk Nat Obj (nat_lit 249) ⟨(.type "code"), (none : Option Nat), (.fields #[(.str (.ofString "replaced") (485 : Nat)), (.str (.ofString "Markers.replaced") (486 : Nat)), (.str (.ofString "/claim/cut.py") (487 : Nat)), (.int 125 (0 : Nat)), (.int 4 (0 : Nat)), (.int 0 (0 : Nat)), (.int 0 (0 : Nat)), (.int 3 (0 : Nat)), (.ref (244 : Nat)), (.bool true), (.int 181 (0 : Nat)), (.ref (245 : Nat)), .none, (.ref (246 : Nat)), (.ref (247 : Nat)), (.ref (248 : Nat)), (.int 492 (0 : Nat)), (.int 125 (0 : Nat)), (.str (.ofString "/claim/cut.py") (493 : Nat))]), #[]⟩) <|
    @List.cons (Nat × Obj) (@Prod.mk Nat Obj (nat_lit 250) ⟨(.type "function"), (none : Option Nat), (.func ⟨(.ofString "replaced"), (.ofString "Markers.replaced"), p26, (.stmts b26), s26, (3 : Nat), ([] : List (Str × Nat)), .none, .none, .none, (.str (.ofString "emacs.markers") (357 : Nat)), (none : Option Nat), (.ref (249 : Nat)), .none, (0 : Nat)⟩), #[]⟩) <|
    @List.cons (Nat × Obj) (@Prod.mk Nat Obj (nat_lit 251) ⟨(.type "tuple"), (none : Option Nat), (.seq #[(.str (.ofString "rows") (495 : Nat))] (0 : Nat)), #[]⟩) <|
    @List.cons (Nat × Obj) (@Prod.mk Nat Obj (nat_lit 252) ⟨(.type "dict"), (none : Option Nat), (.dict #[⟨(PyData.keyHash P (.ofString "__module__")), (.str (.ofString "__module__") (417 : Nat)), (.str (.ofString "emacs.markers") (357 : Nat))⟩, ⟨(PyData.keyHash P (.ofString "__firstlineno__")), (.str (.ofString "__firstlineno__") (421 : Nat)), (.int 91 (420 : Nat))⟩, ⟨(PyData.keyHash P (.ofString "__init__")), (.str (.ofString "__init__") (428 : Nat)), (.ref (201 : Nat))⟩, ⟨(PyData.keyHash P (.ofString "numbers")), (.str (.ofString "numbers") (435 : Nat)), (.ref (208 : Nat))⟩, ⟨(PyData.keyHash P (.ofString "put")), (.str (.ofString "put") (444 : Nat)), (.ref (215 : Nat))⟩, ⟨(PyData.keyHash P (.ofString "drop")), (.str (.ofString "drop") (452 : Nat)), (.ref (222 : Nat))⟩, ⟨(PyData.keyHash P (.ofString "within")), (.str (.ofString "within") (463 : Nat)), (.ref (229 : Nat))⟩, ⟨(PyData.keyHash P (.ofString "inserted")), (.str (.ofString "inserted") (473 : Nat)), (.ref (236 : Nat))⟩, ⟨(PyData.keyHash P (.ofString "deleted")), (.str (.ofString "deleted") (484 : Nat)), (.ref (243 : Nat))⟩, ⟨(PyData.keyHash P (.ofString "replaced")), (.str (.ofString "replaced") (494 : Nat)), (.ref (250 : Nat))⟩, ⟨(PyData.keyHash P (.ofString "__static_attributes__")), (.str (.ofString "__static_attributes__") (496 : Nat)), (.ref (251 : Nat))⟩, ⟨(PyData.keyHash P (.ofString "__dict__")), (.str (.ofString "__dict__") (498 : Nat)), (.ref (254 : Nat))⟩, ⟨(PyData.keyHash P (.ofString "__weakref__")), (.str (.ofString "__weakref__") (500 : Nat)), (.ref (255 : Nat))⟩, ⟨(PyData.keyHash P (.ofString "__doc__")), (.str (.ofString "__doc__") (501 : Nat)), .none⟩] (4 : Nat)), #[]⟩) <|
    @List.cons (Nat × Obj) (@Prod.mk Nat Obj (nat_lit 253) ⟨(.type "type"), (none : Option Nat), (.cls ⟨(.ofString "Markers"), [(.type "object")], [(.ref (253 : Nat)), (.type "object")], (252 : Nat), (.ofString "Markers"), true, [], [], false, none, false⟩), #[none, none, (some (.str (.ofString "Markers") (410 : Nat))), (some (.str (.ofString "Markers") (418 : Nat))), (some (.builtin "object.__new__")), (some (.bool true))]⟩) <|
    @List.cons (Nat × Obj) (@Prod.mk Nat Obj (nat_lit 254) ⟨(.type "getset_descriptor"), (none : Option Nat), (.fields #[(.str (.ofString "__dict__") (497 : Nat)), (.ref (253 : Nat)), (.builtin "function.__dict__"), (.builtin "function.__dict__#set")]), #[]⟩) <|
    @List.cons (Nat × Obj) (@Prod.mk Nat Obj (nat_lit 255) ⟨(.type "getset_descriptor"), (none : Option Nat), (.fields #[(.str (.ofString "__weakref__") (499 : Nat)), (.ref (253 : Nat)), (.builtin "ExceptionGroup.__weakref__"), .none]), #[]⟩) <|
    @List.cons (Nat × Obj) (@Prod.mk Nat Obj (nat_lit 258) ⟨(.type "tuple"), (none : Option Nat), (.seq #[(.ref (143 : Nat))] (0 : Nat)), #[]⟩) <|
    @List.cons (Nat × Obj) (@Prod.mk Nat Obj (nat_lit 265) ⟨(.type "tuple"), (none : Option Nat), (.seq #[(.int 8 (518 : Nat))] (0 : Nat)), #[]⟩) <|
    @List.cons (Nat × Obj) (@Prod.mk Nat Obj (nat_lit 266) ⟨(.type "tuple"), (none : Option Nat), (.seq #[] (0 : Nat)), #[]⟩) <|
    @List.cons (Nat × Obj) (@Prod.mk Nat Obj (nat_lit 268) ⟨(.type "tuple"), (none : Option Nat), (.seq #[(.str (.ofString "self") (522 : Nat)), (.str (.ofString "number") (523 : Nat)), (.str (.ofString "name") (524 : Nat)), (.str (.ofString "room") (525 : Nat))] (0 : Nat)), #[]⟩) <|
    @List.cons (Nat × Obj) (@Prod.mk Nat Obj (nat_lit 269) ⟨(.type "tuple"), (none : Option Nat), (.seq #[] (0 : Nat)), #[]⟩) <|
    @List.cons (Nat × Obj) (@Prod.mk Nat Obj (nat_lit 271) ⟨(.type "code"), (none : Option Nat), (.fields #[(.str (.ofString "__init__") (519 : Nat)), (.str (.ofString "Buffer.__init__") (520 : Nat)), (.str (.ofString "/claim/cut.py") (521 : Nat)), (.int 130 (0 : Nat)), (.int 4 (0 : Nat)), (.int 0 (0 : Nat)), (.int 0 (0 : Nat)), (.int 3 (0 : Nat)), (.ref (266 : Nat)), (.bool true), (.int 181 (0 : Nat)), (.ref (267 : Nat)), .none, (.ref (268 : Nat)), (.ref (269 : Nat)), (.ref (270 : Nat)), (.int 526 (0 : Nat)), (.int 130 (0 : Nat)), (.str (.ofString "/claim/cut.py") (527 : Nat))]), #[]⟩) <|
    @List.cons (Nat × Obj) (@Prod.mk Nat Obj (nat_lit 272) ⟨(.type "function"), (none : Option Nat), (.func ⟨(.ofString "__init__"), (.ofString "Buffer.__init__"), p27, (.stmts b27), s27, (3 : Nat), ([] : List (Str × Nat)), (.ref (265 : Nat)), .none, .none, (.str (.ofString "emacs.buffer") (504 : Nat)), (none : Option Nat), (.ref (271 : Nat)), .none, (0 : Nat)⟩), #[]⟩) <|
    @List.cons (Nat × Obj) (@Prod.mk Nat Obj (nat_lit 273) ⟨(.type "tuple"), (none : Option Nat), (.seq #[] (0 : Nat)), #[]⟩) <|
    @List.cons (Nat × Obj) (@Prod.mk Nat Obj (nat_lit 275) ⟨(.type "tuple"), (none : Option Nat), (.seq #[(.str (.ofString "self") (532 : Nat))] (0 : Nat)), #[]⟩) <|
    @List.cons (Nat × Obj) (@Prod.mk Nat Obj (nat_lit 276) ⟨(.type "tuple"), (none : Option Nat), (.seq #[] (0 : Nat)), #[]⟩) <|
    @List.cons (Nat × Obj) (@Prod.mk Nat Obj (nat_lit 278) ⟨(.type "code"), (none : Option Nat), (.fields #[(.str (.ofString "shown") (529 : Nat)), (.str (.ofString "Buffer.shown") (530 : Nat)), (.str (.ofString "/claim/cut.py") (531 : Nat)), (.int 152 (0 : Nat)), (.int 1 (0 : Nat)), (.int 0 (0 : Nat)), (.int 0 (0 : Nat)), (.int 3 (0 : Nat)), (.ref (273 : Nat)), (.bool true), (.int 181 (0 : Nat)), (.ref (274 : Nat)), .none, (.ref (275 : Nat)), (.ref (276 : Nat)), (.ref (277 : Nat)), (.int 533 (0 : Nat)), (.int 152 (0 : Nat)), (.str (.ofString "/claim/cut.py") (534 : Nat))]), #[]⟩) <|
    @List.cons (Nat × Obj) (@Prod.mk Nat Obj (nat_lit 279) ⟨(.type "function"), (none : Option Nat), (.func ⟨(.ofString "shown"), (.ofString "Buffer.shown"), p28, (.stmts b28), s28, (3 : Nat), ([] : List (Str × Nat)), .none, .none, .none, (.str (.ofString "emacs.buffer") (504 : Nat)), (none : Option Nat), (.ref (278 : Nat)), .none, (0 : Nat)⟩), #[]⟩) <|
    @List.cons (Nat × Obj) (@Prod.mk Nat Obj (nat_lit 280) ⟨(.type "tuple"), (none : Option Nat), (.seq #[] (0 : Nat)), #[]⟩) <|
    @List.cons (Nat × Obj) (@Prod.mk Nat Obj (nat_lit 282) ⟨(.type "tuple"), (none : Option Nat), (.seq #[(.str (.ofString "self") (539 : Nat))] (0 : Nat)), #[]⟩) <|
    @List.cons (Nat × Obj) (@Prod.mk Nat Obj (nat_lit 283) ⟨(.type "tuple"), (none : Option Nat), (.seq #[] (0 : Nat)), #[]⟩) <|
    @List.cons (Nat × Obj) (@Prod.mk Nat Obj (nat_lit 285) ⟨(.type "code"), (none : Option Nat), (.fields #[(.str (.ofString "kind") (536 : Nat)), (.str (.ofString "Buffer.kind") (537 : Nat)), (.str (.ofString "/claim/cut.py") (538 : Nat)), (.int 155 (0 : Nat)), (.int 1 (0 : Nat)), (.int 0 (0 : Nat)), (.int 0 (0 : Nat)), (.int 3 (0 : Nat)), (.ref (280 : Nat)), (.bool true), (.int 181 (0 : Nat)), (.ref (281 : Nat)), .none, (.ref (282 : Nat)), (.ref (283 : Nat)), (.ref (284 : Nat)), (.int 540 (0 : Nat)), (.int 155 (0 : Nat)), (.str (.ofString "/claim/cut.py") (541 : Nat))]), #[]⟩) <|
    @List.cons (Nat × Obj) (@Prod.mk Nat Obj (nat_lit 286) ⟨(.type "function"), (none : Option Nat), (.func ⟨(.ofString "kind"), (.ofString "Buffer.kind"), p29, (.stmts b29), s29, (3 : Nat), ([] : List (Str × Nat)), .none, .none, .none, (.str (.ofString "emacs.buffer") (504 : Nat)), (none : Option Nat), (.ref (285 : Nat)), .none, (0 : Nat)⟩), #[]⟩) <|
    @List.cons (Nat × Obj) (@Prod.mk Nat Obj (nat_lit 287) ⟨(.type "tuple"), (none : Option Nat), (.seq #[] (0 : Nat)), #[]⟩) <|
    @List.cons (Nat × Obj) (@Prod.mk Nat Obj (nat_lit 289) ⟨(.type "tuple"), (none : Option Nat), (.seq #[(.str (.ofString "self") (546 : Nat))] (0 : Nat)), #[]⟩) <|
    @List.cons (Nat × Obj) (@Prod.mk Nat Obj (nat_lit 290) ⟨(.type "tuple"), (none : Option Nat), (.seq #[] (0 : Nat)), #[]⟩) <|
    @List.cons (Nat × Obj) (@Prod.mk Nat Obj (nat_lit 292) ⟨(.type "code"), (none : Option Nat), (.fields #[(.str (.ofString "begin") (543 : Nat)), (.str (.ofString "Buffer.begin") (544 : Nat)), (.str (.ofString "/claim/cut.py") (545 : Nat)), (.int 158 (0 : Nat)), (.int 1 (0 : Nat)), (.int 0 (0 : Nat)), (.int 0 (0 : Nat)), (.int 3 (0 : Nat)), (.ref (287 : Nat)), (.bool true), (.int 181 (0 : Nat)), (.ref (288 : Nat)), .none, (.ref (289 : Nat)), (.ref (290 : Nat)), (.ref (291 : Nat)), (.int 547 (0 : Nat)), (.int 158 (0 : Nat)), (.str (.ofString "/claim/cut.py") (548 : Nat))]), #[]⟩) <|
    @List.cons (Nat × Obj) (@Prod.mk Nat Obj (nat_lit 293) ⟨(.type "function"), (none : Option Nat), (.func ⟨(.ofString "begin"), (.ofString "Buffer.begin"), p30, (.stmts b30), s30, (3 : Nat), ([] : List (Str × Nat)), .none, .none, .none, (.str (.ofString "emacs.buffer") (504 : Nat)), (none : Option Nat), (.ref (292 : Nat)), .none, (0 : Nat)⟩), #[]⟩) <|
    @List.cons (Nat × Obj) (@Prod.mk Nat Obj (nat_lit 294) ⟨(.type "tuple"), (none : Option Nat), (.seq #[] (0 : Nat)), #[]⟩) <|
    @List.cons (Nat × Obj) (@Prod.mk Nat Obj (nat_lit 296) ⟨(.type "tuple"), (none : Option Nat), (.seq #[(.str (.ofString "self") (553 : Nat))] (0 : Nat)), #[]⟩) <|
    @List.cons (Nat × Obj) (@Prod.mk Nat Obj (nat_lit 297) ⟨(.type "tuple"), (none : Option Nat), (.seq #[] (0 : Nat)), #[]⟩) <|
    @List.cons (Nat × Obj) (@Prod.mk Nat Obj (nat_lit 299) ⟨(.type "code"), (none : Option Nat), (.fields #[(.str (.ofString "end") (550 : Nat)), (.str (.ofString "Buffer.end") (551 : Nat)), (.str (.ofString "/claim/cut.py") (552 : Nat)), (.int 161 (0 : Nat)), (.int 1 (0 : Nat)), (.int 0 (0 : Nat)), (.int 0 (0 : Nat)), (.int 3 (0 : Nat)), (.ref (294 : Nat)), (.bool true), (.int 181 (0 : Nat)), (.ref (295 : Nat)), .none, (.ref (296 : Nat)), (.ref (297 : Nat)), (.ref (298 : Nat)), (.int 554 (0 : Nat)), (.int 161 (0 : Nat)), (.str (.ofString "/claim/cut.py") (555 : Nat))]), #[]⟩) <|
    @List.cons (Nat × Obj) (@Prod.mk Nat Obj (nat_lit 300) ⟨(.type "function"), (none : Option Nat), (.func ⟨(.ofString "end"), (.ofString "Buffer.end"), p31, (.stmts b31), s31, (3 : Nat), ([] : List (Str × Nat)), .none, .none, .none, (.str (.ofString "emacs.buffer") (504 : Nat)), (none : Option Nat), (.ref (299 : Nat)), .none, (0 : Nat)⟩), #[]⟩) <|
    @List.cons (Nat × Obj) (@Prod.mk Nat Obj (nat_lit 301) ⟨(.type "tuple"), (none : Option Nat), (.seq #[] (0 : Nat)), #[]⟩) <|
    @List.cons (Nat × Obj) (@Prod.mk Nat Obj (nat_lit 303) ⟨(.type "tuple"), (none : Option Nat), (.seq #[(.str (.ofString "self") (560 : Nat))] (0 : Nat)), #[]⟩) <|
    @List.cons (Nat × Obj) (@Prod.mk Nat Obj (nat_lit 304) ⟨(.type "tuple"), (none : Option Nat), (.seq #[] (0 : Nat)), #[]⟩) <|
    @List.cons (Nat × Obj) (@Prod.mk Nat Obj (nat_lit 306) ⟨(.type "code"), (none : Option Nat), (.fields #[(.str (.ofString "size") (557 : Nat)), (.str (.ofString "Buffer.size") (558 : Nat)), (.str (.ofString "/claim/cut.py") (559 : Nat)), (.int 164 (0 : Nat)), (.int 1 (0 : Nat)), (.int 0 (0 : Nat)), (.int 0 (0 : Nat)), (.int 3 (0 : Nat)), (.ref (301 : Nat)), (.bool true), (.int 181 (0 : Nat)), (.ref (302 : Nat)), .none, (.ref (303 : Nat)), (.ref (304 : Nat)), (.ref (305 : Nat)), (.int 561 (0 : Nat)), (.int 164 (0 : Nat)), (.str (.ofString "/claim/cut.py") (562 : Nat))]), #[]⟩) <|
    @List.cons (Nat × Obj) (@Prod.mk Nat Obj (nat_lit 307) ⟨(.type "function"), (none : Option Nat), (.func ⟨(.ofString "size"), (.ofString "Buffer.size"), p32, (.stmts b32), s32, (3 : Nat), ([] : List (Str × Nat)), .none, .none, .none, (.str (.ofString "emacs.buffer") (504 : Nat)), (none : Option Nat), (.ref (306 : Nat)), .none, (0 : Nat)⟩), #[]⟩) <|
    @List.cons (Nat × Obj) (@Prod.mk Nat Obj (nat_lit 308) ⟨(.type "tuple"), (none : Option Nat), (.seq #[] (0 : Nat)), #[]⟩) <|
    @List.cons (Nat × Obj) (@Prod.mk Nat Obj (nat_lit 310) ⟨(.type "tuple"), (none : Option Nat), (.seq #[(.str (.ofString "self") (567 : Nat)), (.str (.ofString "place") (568 : Nat))] (0 : Nat)), #[]⟩) <|
    @List.cons (Nat × Obj) (@Prod.mk Nat Obj (nat_lit 311) ⟨(.type "tuple"), (none : Option Nat), (.seq #[] (0 : Nat)), #[]⟩) <|
    @List.cons (Nat × Obj) (@Prod.mk Nat Obj (nat_lit 313) ⟨(.type "code"), (none : Option Nat), (.fields #[(.str (.ofString "code_at") (564 : Nat)), (.str (.ofString "Buffer.code_at") (565 : Nat)), (.str (.ofString "/claim/cut.py") (566 : Nat)), (.int 167 (0 : Nat)), (.int 2 (0 : Nat)), (.int 0 (0 : Nat)), (.int 0 (0 : Nat)), (.int 3 (0 : Nat)), (.ref (308 : Nat)), (.bool true), (.int 181 (0 : Nat)), (.ref (309 : Nat)), .none, (.ref (310 : Nat)), (.ref (311 : Nat)), (.ref (312 : Nat)), (.int 569 (0 : Nat)), (.int 167 (0 : Nat)), (.str (.ofString "/claim/cut.py") (570 : Nat))]), #[]⟩) <|
    @List.cons (Nat × Obj) (@Prod.mk Nat Obj (nat_lit 314) ⟨(.type "function"), (none : Option Nat), (.func ⟨(.ofString "code_at"), (.ofString "Buffer.code_at"), p33, (.stmts b33), s33, (3 : Nat), ([] : List (Str × Nat)), .none, .none, .none, (.str (.ofString "emacs.buffer") (504 : Nat)), (none : Option Nat), (.ref (313 : Nat)), .none, (0 : Nat)⟩), #[]⟩) <|
    @List.cons (Nat × Obj) (@Prod.mk Nat Obj (nat_lit 315) ⟨(.type "tuple"), (none : Option Nat), (.seq #[] (0 : Nat)), #[]⟩) <|
    @List.cons (Nat × Obj) (@Prod.mk Nat Obj (nat_lit 317) ⟨(.type "tuple"), (none : Option Nat), (.seq #[(.str (.ofString "self") (575 : Nat)), (.str (.ofString "start") (576 : Nat)), (.str (.ofString "end") (577 : Nat))] (0 : Nat)), #[]⟩) <|
    @List.cons (Nat × Obj) (@Prod.mk Nat Obj (nat_lit 318) ⟨(.type "tuple"), (none : Option Nat), (.seq #[] (0 : Nat)), #[]⟩) <|
    @List.cons (Nat × Obj) (@Prod.mk Nat Obj (nat_lit 320) ⟨(.type "code"), (none : Option Nat), (.fields #[(.str (.ofString "codes") (572 : Nat)), (.str (.ofString "Buffer.codes") (573 : Nat)), (.str (.ofString "/claim/cut.py") (574 : Nat)), (.int 170 (0 : Nat)), (.int 3 (0 : Nat)), (.int 0 (0 : Nat)), (.int 0 (0 : Nat)), (.int 3 (0 : Nat)), (.ref (315 : Nat)), (.bool true), (.int 181 (0 : Nat)), (.ref (316 : Nat)), .none, (.ref (317 : Nat)), (.ref (318 : Nat)), (.ref (319 : Nat)), (.int 578 (0 : Nat)), (.int 170 (0 : Nat)), (.str (.ofString "/claim/cut.py") (579 : Nat))]), #[]⟩) <|
    @List.cons (Nat × Obj) (@Prod.mk Nat Obj (nat_lit 321) ⟨(.type "function"), (none : Option Nat), (.func ⟨(.ofString "codes"), (.ofString "Buffer.codes"), p34, (.stmts b34), s34, (3 : Nat), ([] : List (Str × Nat)), .none, .none, .none, (.str (.ofString "emacs.buffer") (504 : Nat)), (none : Option Nat), (.ref (320 : Nat)), .none, (0 : Nat)⟩), #[]⟩) <|
    @List.cons (Nat × Obj) (@Prod.mk Nat Obj (nat_lit 322) ⟨(.type "tuple"), (none : Option Nat), (.seq #[] (0 : Nat)), #[]⟩) <|
    @List.cons (Nat × Obj) (@Prod.mk Nat Obj (nat_lit 324) ⟨(.type "tuple"), (none : Option Nat), (.seq #[(.str (.ofString "self") (584 : Nat)), (.str (.ofString "place") (585 : Nat))] (0 : Nat)), #[]⟩) <|
    @List.cons (Nat × Obj) (@Prod.mk Nat Obj (nat_lit 325) ⟨(.type "tuple"), (none : Option Nat), (.seq #[] (0 : Nat)), #[]⟩) <|
    @List.cons (Nat × Obj) (@Prod.mk Nat Obj (nat_lit 327) ⟨(.type "code"), (none : Option Nat), (.fields #[(.str (.ofString "goto") (581 : Nat)), (.str (.ofString "Buffer.goto") (582 : Nat)), (.str (.ofString "/claim/cut.py") (583 : Nat)), (.int 173 (0 : Nat)), (.int 2 (0 : Nat)), (.int 0 (0 : Nat)), (.int 0 (0 : Nat)), (.int 3 (0 : Nat)), (.ref (322 : Nat)), (.bool true), (.int 181 (0 : Nat)), (.ref (323 : Nat)), .none, (.ref (324 : Nat)), (.ref (325 : Nat)), (.ref (326 : Nat)), (.int 586 (0 : Nat)), (.int 173 (0 : Nat)), (.str (.ofString "/claim/cut.py") (587 : Nat))]), #[]⟩) <|
    @List.cons (Nat × Obj) (@Prod.mk Nat Obj (nat_lit 328) ⟨(.type "function"), (none : Option Nat), (.func ⟨(.ofString "goto"), (.ofString "Buffer.goto"), p35, (.stmts b35), s35, (3 : Nat), ([] : List (Str × Nat)), .none, .none, .none, (.str (.ofString "emacs.buffer") (504 : Nat)), (none : Option Nat), (.ref (327 : Nat)), .none, (0 : Nat)⟩), #[]⟩) <|
    @List.cons (Nat × Obj) (@Prod.mk Nat Obj (nat_lit 329) ⟨(.type "tuple"), (none : Option Nat), (.seq #[] (0 : Nat)), #[]⟩) <|
    @List.cons (Nat × Obj) (@Prod.mk Nat Obj (nat_lit 331) ⟨(.type "tuple"), (none : Option Nat), (.seq #[(.str (.ofString "self") (592 : Nat))] (0 : Nat)), #[]⟩) <|
    @List.cons (Nat × Obj) (@Prod.mk Nat Obj (nat_lit 332) ⟨(.type "tuple"), (none : Option Nat), (.seq #[] (0 : Nat)), #[]⟩) <|
    @List.cons (Nat × Obj) (@Prod.mk Nat Obj (nat_lit 334) ⟨(.type "code"), (none : Option Nat), (.fields #[(.str (.ofString "tick") (589 : Nat)), (.str (.ofString "Buffer.tick") (590 : Nat)), (.str (.ofString "/claim/cut.py") (591 : Nat)), (.int 176 (0 : Nat)), (.int 1 (0 : Nat)), (.int 0 (0 : Nat)), (.int 0 (0 : Nat)), (.int 3 (0 : Nat)), (.ref (329 : Nat)), (.bool true), (.int 181 (0 : Nat)), (.ref (330 : Nat)), .none, (.ref (331 : Nat)), (.ref (332 : Nat)), (.ref (333 : Nat)), (.int 593 (0 : Nat)), (.int 176 (0 : Nat)), (.str (.ofString "/claim/cut.py") (594 : Nat))]), #[]⟩) <|
    @List.cons (Nat × Obj) (@Prod.mk Nat Obj (nat_lit 335) ⟨(.type "function"), (none : Option Nat), (.func ⟨(.ofString "tick"), (.ofString "Buffer.tick"), p36, (.stmts b36), s36, (3 : Nat), ([] : List (Str × Nat)), .none, .none, .none, (.str (.ofString "emacs.buffer") (504 : Nat)), (none : Option Nat), (.ref (334 : Nat)), .none, (0 : Nat)⟩), #[]⟩) <|
    @List.cons (Nat × Obj) (@Prod.mk Nat Obj (nat_lit 336) ⟨(.type "tuple"), (none : Option Nat), (.seq #[] (0 : Nat)), #[]⟩) <|
    @List.cons (Nat × Obj) (@Prod.mk Nat Obj (nat_lit 338) ⟨(.type "tuple"), (none : Option Nat), (.seq #[(.str (.ofString "self") (599 : Nat))] (0 : Nat)), #[]⟩) <|
    @List.cons (Nat × Obj) (@Prod.mk Nat Obj (nat_lit 339) ⟨(.type "tuple"), (none : Option Nat), (.seq #[] (0 : Nat)), #[]⟩) <|
    @List.cons (Nat × Obj) (@Prod.mk Nat Obj (nat_lit 341) ⟨(.type "code"), (none : Option Nat), (.fields #[(.str (.ofString "is_modified") (596 : Nat)), (.str (.ofString "Buffer.is_modified") (597 : Nat)), (.str (.ofString "/claim/cut.py") (598 : Nat)), (.int 179 (0 : Nat)), (.int 1 (0 : Nat)), (.int 0 (0 : Nat)), (.int 0 (0 : Nat)), (.int 3 (0 : Nat)), (.ref (336 : Nat)), (.bool true), (.int 181 (0 : Nat)), (.ref (337 : Nat)), .none, (.ref (338 : Nat)), (.ref (339 : Nat)), (.ref (340 : Nat)), (.int 600 (0 : Nat)), (.int 179 (0 : Nat)), (.str (.ofString "/claim/cut.py") (601 : Nat))]), #[]⟩) <|
    @List.cons (Nat × Obj) (@Prod.mk Nat Obj (nat_lit 342) ⟨(.type "function"), (none : Option Nat), (.func ⟨(.ofString "is_modified"), (.ofString "Buffer.is_modified"), p37, (.stmts b37), s37, (3 : Nat), ([] : List (Str × Nat)), .none, .none, .none, (.str (.ofString "emacs.buffer") (504 : Nat)), (none : Option Nat), (.ref (341 : Nat)), .none, (0 : Nat)⟩), #[]⟩) <|
    @List.cons (Nat × Obj) (@Prod.mk Nat Obj (nat_lit 343) ⟨(.type "tuple"), (none : Option Nat), (.seq #[] (0 : Nat)), #[]⟩) <|
    @List.cons (Nat × Obj) (@Prod.mk Nat Obj (nat_lit 345) ⟨(.type "tuple"), (none : Option Nat), (.seq #[(.str (.ofString "self") (606 : Nat)), (.str (.ofString "is_so") (607 : Nat))] (0 : Nat)), #[]⟩) <|
    @List.cons (Nat × Obj) (@Prod.mk Nat Obj (nat_lit 346) ⟨(.type "tuple"), (none : Option Nat), (.seq #[] (0 : Nat)), #[]⟩) <|
    @List.cons (Nat × Obj) (@Prod.mk Nat Obj (nat_lit 348) ⟨(.type "code"), (none : Option Nat), (.fields #[(.str (.ofString "set_modified") (603 : Nat)), (.str (.ofString "Buffer.set_modified") (604 : Nat)), (.str (.ofString "/claim/cut.py") (605 : Nat)), (.int 182 (0 : Nat)), (.int 2 (0 : Nat)), (.int 0 (0 : Nat)), (.int 0 (0 : Nat)), (.int 3 (0 : Nat)), (.ref (343 : Nat)), (.bool true), (.int 181 (0 : Nat)), (.ref (344 : Nat)), .none, (.ref (345 : Nat)), (.ref (346 : Nat)), (.ref (347 : Nat)), (.int 608 (0 : Nat)), (.int 182 (0 : Nat)), (.str (.ofString "/claim/cut.py") (609 : Nat))]), #[]⟩) <|
    @List.cons (Nat × Obj) (@Prod.mk Nat Obj (nat_lit 349) ⟨(.type "function"), (none : Option Nat), (.func ⟨(.ofString "set_modified"), (.ofString "Buffer.set_modified"), p38, (.stmts b38), s38, (3 : Nat), ([] : List (Str × Nat)), .none, .none, .none, (.str (.ofString "emacs.buffer") (504 : Nat)), (none : Option Nat), (.ref (348 : Nat)), .none, (0 : Nat)⟩), #[]⟩) <|
    @List.cons (Nat × Obj) (@Prod.mk Nat Obj (nat_lit 350) ⟨(.type "tuple"), (none : Option Nat), (.seq #[] (0 : Nat)), #[]⟩) <|
    @List.cons (Nat × Obj) (@Prod.mk Nat Obj (nat_lit 352) ⟨(.type "tuple"), (none : Option Nat), (.seq #[(.str (.ofString "self") (614 : Nat)), (.str (.ofString "are_codes") (615 : Nat))] (0 : Nat)), #[]⟩) <|
    @List.cons (Nat × Obj) (@Prod.mk Nat Obj (nat_lit 353) ⟨(.type "tuple"), (none : Option Nat), (.seq #[] (0 : Nat)), #[]⟩) <|
    @List.cons (Nat × Obj) (@Prod.mk Nat Obj (nat_lit 355) ⟨(.type "code"), (none : Option Nat), (.fields #[(.str (.ofString "touch") (611 : Nat)), (.str (.ofString "Buffer.touch") (612 : Nat)), (.str (.ofString "/claim/cut.py") (613 : Nat)), (.int 185 (0 : Nat)), (.int 2 (0 : Nat)), (.int 0 (0 : Nat)), (.int 0 (0 : Nat)), (.int 3 (0 : Nat)), (.ref (350 : Nat)), (.bool true), (.int 181 (0 : Nat)), (.ref (351 : Nat)), .none, (.ref (352 : Nat)), (.ref (353 : Nat)), (.ref (354 : Nat)), (.int 616 (0 : Nat)), (.int 185 (0 : Nat)), (.str (.ofString "/claim/cut.py") (617 : Nat))]), #[]⟩) <|
    @List.cons (Nat × Obj) (@Prod.mk Nat Obj (nat_lit 356) ⟨(.type "function"), (none : Option Nat), (.func ⟨(.ofString "touch"), (.ofString "Buffer.touch"), p39, (.stmts b39), s39, (3 : Nat), ([] : List (Str × Nat)), .none, .none, .none, (.str (.ofString "emacs.buffer") (504 : Nat)), (none : Option Nat), (.ref (355 : Nat)), .none, (0 : Nat)⟩), #[]⟩) <|
    @List.cons (Nat × Obj) (@Prod.mk Nat Obj (nat_lit 357) ⟨(.type "tuple"), (none : Option Nat), (.seq #[(.str (.ofString "begv") (619 : Nat)), (.str (.ofString "codes_ticks") (620 : Nat)), (.str (.ofString "file") (621 : Nat)), (.str (.ofString "is_live") (622 : Nat)), (.str (.ofString "is_read_only") (623 : Nat)), (.str (.ofString "listeners") (624 : Nat)), (.str (.ofString "locals") (625 : Nat)), (.str (.ofString "mark") (626 : Nat)), (.str (.ofString "markers") (627 : Nat)), (.str (.ofString "name") (628 : Nat)), (.str (.ofString "number") (629 : Nat)), (.str (.ofString "overlays") (630 : Nat)), (.str (.ofString "point") (631 : Nat)), (.str (.ofString "props") (632 : Nat)), (.str (.ofString "saved_ticks") (633 : Nat)), (.str (.ofString "syntax") (634 : Nat)), (.str (.ofString "text") (635 : Nat)), (.str (.ofString "ticks") (636 : Nat)), (.str (.ofString "undo") (637 : Nat)), (.str (.ofString "zv") (638 : Nat))] (0 : Nat)), #[]⟩) <|
    @List.cons (Nat × Obj) (@Prod.mk Nat Obj (nat_lit 358) ⟨(.type "dict"), (none : Option Nat), (.dict #[⟨(PyData.keyHash P (.ofString "__module__")), (.str (.ofString "__module__") (513 : Nat)), (.str (.ofString "emacs.buffer") (504 : Nat))⟩, ⟨(PyData.keyHash P (.ofString "__firstlineno__")), (.str (.ofString "__firstlineno__") (517 : Nat)), (.int 128 (516 : Nat))⟩, ⟨(PyData.keyHash P (.ofString "__init__")), (.str (.ofString "__init__") (528 : Nat)), (.ref (272 : Nat))⟩, ⟨(PyData.keyHash P (.ofString "shown")), (.str (.ofString "shown") (535 : Nat)), (.ref (279 : Nat))⟩, ⟨(PyData.keyHash P (.ofString "kind")), (.str (.ofString "kind") (542 : Nat)), (.ref (286 : Nat))⟩, ⟨(PyData.keyHash P (.ofString "begin")), (.str (.ofString "begin") (549 : Nat)), (.ref (293 : Nat))⟩, ⟨(PyData.keyHash P (.ofString "end")), (.str (.ofString "end") (556 : Nat)), (.ref (300 : Nat))⟩, ⟨(PyData.keyHash P (.ofString "size")), (.str (.ofString "size") (563 : Nat)), (.ref (307 : Nat))⟩, ⟨(PyData.keyHash P (.ofString "code_at")), (.str (.ofString "code_at") (571 : Nat)), (.ref (314 : Nat))⟩, ⟨(PyData.keyHash P (.ofString "codes")), (.str (.ofString "codes") (580 : Nat)), (.ref (321 : Nat))⟩, ⟨(PyData.keyHash P (.ofString "goto")), (.str (.ofString "goto") (588 : Nat)), (.ref (328 : Nat))⟩, ⟨(PyData.keyHash P (.ofString "tick")), (.str (.ofString "tick") (595 : Nat)), (.ref (335 : Nat))⟩, ⟨(PyData.keyHash P (.ofString "is_modified")), (.str (.ofString "is_modified") (602 : Nat)), (.ref (342 : Nat))⟩, ⟨(PyData.keyHash P (.ofString "set_modified")), (.str (.ofString "set_modified") (610 : Nat)), (.ref (349 : Nat))⟩, ⟨(PyData.keyHash P (.ofString "touch")), (.str (.ofString "touch") (618 : Nat)), (.ref (356 : Nat))⟩, ⟨(PyData.keyHash P (.ofString "__static_attributes__")), (.str (.ofString "__static_attributes__") (639 : Nat)), (.ref (357 : Nat))⟩, ⟨(PyData.keyHash P (.ofString "__doc__")), (.str (.ofString "__doc__") (640 : Nat)), .none⟩] (2 : Nat)), #[]⟩) <|
    @List.cons (Nat × Obj) (@Prod.mk Nat Obj (nat_lit 359) ⟨(.type "type"), (none : Option Nat), (.cls ⟨(.ofString "Buffer"), [(.ref (143 : Nat))], [(.ref (359 : Nat)), (.ref (143 : Nat)), (.type "object")], (358 : Nat), (.ofString "Buffer"), true, [], [], false, none, false⟩), #[(some (.ref (258 : Nat))), none, (some (.str (.ofString "Buffer") (506 : Nat))), (some (.str (.ofString "Buffer") (514 : Nat))), (some (.builtin "object.__new__")), (some (.bool true))]⟩) <|
    @List.cons (Nat × Obj) (@Prod.mk Nat Obj (nat_lit 362) ⟨(.type "tuple"), (none : Option Nat), (.seq #[(.type "Exception")] (0 : Nat)), #[]⟩) <|
    @List.cons (Nat × Obj) (@Prod.mk Nat Obj (nat_lit 369) ⟨(.type "tuple"), (none : Option Nat), (.seq #[] (0 : Nat)), #[]⟩) <|
    @List.cons (Nat × Obj) (@Prod.mk Nat Obj (nat_lit 371) ⟨(.type "tuple"), (none : Option Nat), (.seq #[(.str (.ofString "self") (660 : Nat)), (.str (.ofString "symbol") (661 : Nat)), (.str (.ofString "data") (662 : Nat))] (0 : Nat)), #[]⟩) <|
    @List.cons (Nat × Obj) (@Prod.mk Nat Obj (nat_lit 372) ⟨(.type "tuple"), (none : Option Nat), (.seq #[] (0 : Nat)), #[]⟩) <|
    @List.cons (Nat × Obj) (@Prod.mk Nat Obj (nat_lit 374) ⟨(.type "code"), (none : Option Nat), (.fields #[(.str (.ofString "__init__") (657 : Nat)), (.str (.ofString "LispSignal.__init__") (658 : Nat)), (.str (.ofString "/claim/cut.py") (659 : Nat)), (.int 190 (0 : Nat)), (.int 3 (0 : Nat)), (.int 0 (0 : Nat)), (.int 0 (0 : Nat)), (.int 3 (0 : Nat)), (.ref (369 : Nat)), (.bool true), (.int 181 (0 : Nat)), (.ref (370 : Nat)), .none, (.ref (371 : Nat)), (.ref (372 : Nat)), (.ref (373 : Nat)), (.int 663 (0 : Nat)), (.int 190 (0 : Nat)), (.str (.ofString "/claim/cut.py") (664 : Nat))]), #[]⟩) <|
    @List.cons (Nat × Obj) (@Prod.mk Nat Obj (nat_lit 375) ⟨(.type "function"), (none : Option Nat), (.func ⟨(.ofString "__init__"), (.ofString "LispSignal.__init__"), p40, (.stmts b40), s40, (3 : Nat), ([] : List (Str × Nat)), .none, .none, .none, (.str (.ofString "emacs.errors") (643 : Nat)), (none : Option Nat), (.ref (374 : Nat)), .none, (0 : Nat)⟩), #[]⟩) <|
    @List.cons (Nat × Obj) (@Prod.mk Nat Obj (nat_lit 376) ⟨(.type "tuple"), (none : Option Nat), (.seq #[(.str (.ofString "data") (666 : Nat)), (.str (.ofString "symbol") (667 : Nat))] (0 : Nat)), #[]⟩) <|
    @List.cons (Nat × Obj) (@Prod.mk Nat Obj (nat_lit 377) ⟨(.type "dict"), (none : Option Nat), (.dict #[⟨(PyData.keyHash P (.ofString "__module__")), (.str (.ofString "__module__") (652 : Nat)), (.str (.ofString "emacs.errors") (643 : Nat))⟩, ⟨(PyData.keyHash P (.ofString "__firstlineno__")), (.str (.ofString "__firstlineno__") (656 : Nat)), (.int 188 (655 : Nat))⟩, ⟨(PyData.keyHash P (.ofString "__init__")), (.str (.ofString "__init__") (665 : Nat)), (.ref (375 : Nat))⟩, ⟨(PyData.keyHash P (.ofString "__static_attributes__")), (.str (.ofString "__static_attributes__") (668 : Nat)), (.ref (376 : Nat))⟩, ⟨(PyData.keyHash P (.ofString "__weakref__")), (.str (.ofString "__weakref__") (670 : Nat)), (.ref (379 : Nat))⟩, ⟨(PyData.keyHash P (.ofString "__doc__")), (.str (.ofString "__doc__") (671 : Nat)), .none⟩] (3 : Nat)), #[]⟩) <|
    @List.cons (Nat × Obj) (@Prod.mk Nat Obj (nat_lit 378) ⟨(.type "type"), (none : Option Nat), (.cls ⟨(.ofString "LispSignal"), [(.type "Exception")], [(.ref (378 : Nat)), (.type "Exception"), (.type "BaseException"), (.type "object")], (377 : Nat), (.ofString "LispSignal"), true, [], [], false, none, false⟩), #[(some (.ref (362 : Nat))), none, (some (.str (.ofString "LispSignal") (645 : Nat))), (some (.str (.ofString "LispSignal") (653 : Nat))), (some (.builtin "Exception.__new__")), (some (.bool true))]⟩) <|
    @List.cons (Nat × Obj) (@Prod.mk Nat Obj (nat_lit 379) ⟨(.type "getset_descriptor"), (none : Option Nat), (.fields #[(.str (.ofString "__weakref__") (669 : Nat)), (.ref (378 : Nat)), (.builtin "ExceptionGroup.__weakref__"), .none]), #[]⟩) <|
    @List.cons (Nat × Obj) (@Prod.mk Nat Obj (nat_lit 382) ⟨(.type "tuple"), (none : Option Nat), (.seq #[] (0 : Nat)), #[]⟩) <|
    @List.cons (Nat × Obj) (@Prod.mk Nat Obj (nat_lit 384) ⟨(.type "tuple"), (none : Option Nat), (.seq #[(.str (.ofString "marker") (681 : Nat)), (.str (.ofString "buffer") (682 : Nat)), (.str (.ofString "place") (683 : Nat))] (0 : Nat)), #[]⟩) <|
    @List.cons (Nat × Obj) (@Prod.mk Nat Obj (nat_lit 385) ⟨(.type "tuple"), (none : Option Nat), (.seq #[] (0 : Nat)), #[]⟩) <|
    @List.cons (Nat × Obj) (@Prod.mk Nat Obj (nat_lit 387) ⟨(.type "code"), (none : Option Nat), (.fields #[(.str (.ofString "set_marker") (678 : Nat)), (.str (.ofString "set_marker") (679 : Nat)), (.str (.ofString "/claim/cut.py") (680 : Nat)), (.int 194 (0 : Nat)), (.int 3 (0 : Nat)), (.int 0 (0 : Nat)), (.int 0 (0 : Nat)), (.int 3 (0 : Nat)), (.ref (382 : Nat)), (.bool true), (.int 181 (0 : Nat)), (.ref (383 : Nat)), .none, (.ref (384 : Nat)), (.ref (385 : Nat)), (.ref (386 : Nat)), (.int 684 (0 : Nat)), (.int 194 (0 : Nat)), (.str (.ofString "/claim/cut.py") (685 : Nat))]), #[]⟩) <|
    @List.cons (Nat × Obj) (@Prod.mk Nat Obj (nat_lit 388) ⟨(.type "function"), (none : Option Nat), (.func ⟨(.ofString "set_marker"), (.ofString "set_marker"), p41, (.stmts b41), s41, (3 : Nat), ([] : List (Str × Nat)), .none, .none, .none, (.str (.ofString "emacs.placing") (676 : Nat)), (none : Option Nat), (.ref (387 : Nat)), .none, (0 : Nat)⟩), #[]⟩) <|
    @List.cons (Nat × Obj) (@Prod.mk Nat Obj (nat_lit 396) ⟨(.type "tuple"), (none : Option Nat), (.seq #[] (0 : Nat)), #[]⟩) <|
    @List.cons (Nat × Obj) (@Prod.mk Nat Obj (nat_lit 398) ⟨(.type "tuple"), (none : Option Nat), (.seq #[(.str (.ofString "self") (704 : Nat))] (0 : Nat)), #[]⟩) <|
    @List.cons (Nat × Obj) (@Prod.mk Nat Obj (nat_lit 399) ⟨(.type "tuple"), (none : Option Nat), (.seq #[] (0 : Nat)), #[]⟩) <|
    @List.cons (Nat × Obj) (@Prod.mk Nat Obj (nat_lit 401) ⟨(.type "code"), (none : Option Nat), (.fields #[(.str (.ofString "__init__") (701 : Nat)), (.str (.ofString "BufferTable.__init__") (702 : Nat)), (.str (.ofString "/claim/cut.py") (703 : Nat)), (.int 205 (0 : Nat)), (.int 1 (0 : Nat)), (.int 0 (0 : Nat)), (.int 0 (0 : Nat)), (.int 3 (0 : Nat)), (.ref (396 : Nat)), (.bool true), (.int 181 (0 : Nat)), (.ref (397 : Nat)), .none, (.ref (398 : Nat)), (.ref (399 : Nat)), (.ref (400 : Nat)), (.int 705 (0 : Nat)), (.int 205 (0 : Nat)), (.str (.ofString "/claim/cut.py") (706 : Nat))]), #[]⟩) <|
    @List.cons (Nat × Obj) (@Prod.mk Nat Obj (nat_lit 402) ⟨(.type "function"), (none : Option Nat), (.func ⟨(.ofString "__init__"), (.ofString "BufferTable.__init__"), p42, (.stmts b42), s42, (3 : Nat), ([] : List (Str × Nat)), .none, .none, .none, (.str (.ofString "emacs.buffers") (687 : Nat)), (none : Option Nat), (.ref (401 : Nat)), .none, (0 : Nat)⟩), #[]⟩) <|
    @List.cons (Nat × Obj) (@Prod.mk Nat Obj (nat_lit 403) ⟨(.type "tuple"), (none : Option Nat), (.seq #[] (0 : Nat)), #[]⟩) <|
    @List.cons (Nat × Obj) (@Prod.mk Nat Obj (nat_lit 405) ⟨(.type "tuple"), (none : Option Nat), (.seq #[(.str (.ofString "self") (711 : Nat)), (.str (.ofString "number") (712 : Nat))] (0 : Nat)), #[]⟩) <|
    @List.cons (Nat × Obj) (@Prod.mk Nat Obj (nat_lit 406) ⟨(.type "tuple"), (none : Option Nat), (.seq #[] (0 : Nat)), #[]⟩) <|
    @List.cons (Nat × Obj) (@Prod.mk Nat Obj (nat_lit 408) ⟨(.type "code"), (none : Option Nat), (.fields #[(.str (.ofString "by_number") (708 : Nat)), (.str (.ofString "BufferTable.by_number") (709 : Nat)), (.str (.ofString "/claim/cut.py") (710 : Nat)), (.int 212 (0 : Nat)), (.int 2 (0 : Nat)), (.int 0 (0 : Nat)), (.int 0 (0 : Nat)), (.int 3 (0 : Nat)), (.ref (403 : Nat)), (.bool true), (.int 181 (0 : Nat)), (.ref (404 : Nat)), .none, (.ref (405 : Nat)), (.ref (406 : Nat)), (.ref (407 : Nat)), (.int 713 (0 : Nat)), (.int 212 (0 : Nat)), (.str (.ofString "/claim/cut.py") (714 : Nat))]), #[]⟩) <|
    @List.cons (Nat × Obj) (@Prod.mk Nat Obj (nat_lit 409) ⟨(.type "function"), (none : Option Nat), (.func ⟨(.ofString "by_number"), (.ofString "BufferTable.by_number"), p43, (.stmts b43), s43, (3 : Nat), ([] : List (Str × Nat)), .none, .none, .none, (.str (.ofString "emacs.buffers") (687 : Nat)), (none : Option Nat), (.ref (408 : Nat)), .none, (0 : Nat)⟩), #[]⟩) <|
    @List.cons (Nat × Obj) (@Prod.mk Nat Obj (nat_lit 410) ⟨(.type "tuple"), (none : Option Nat), (.seq #[] (0 : Nat)), #[]⟩) <|
    @List.cons (Nat × Obj) (@Prod.mk Nat Obj (nat_lit 412) ⟨(.type "tuple"), (none : Option Nat), (.seq #[(.str (.ofString "self") (719 : Nat)), (.str (.ofString "name") (720 : Nat)), (.str (.ofString "number") (721 : Nat))] (0 : Nat)), #[]⟩) <|
    @List.cons (Nat × Obj) (@Prod.mk Nat Obj (nat_lit 413) ⟨(.type "tuple"), (none : Option Nat), (.seq #[] (0 : Nat)), #[]⟩) <|
    @List.cons (Nat × Obj) (@Prod.mk Nat Obj (nat_lit 415) ⟨(.type "code"), (none : Option Nat), (.fields #[(.str (.ofString "by_name") (716 : Nat)), (.str (.ofString "BufferTable.by_name") (717 : Nat)), (.str (.ofString "/claim/cut.py") (718 : Nat)), (.int 215 (0 : Nat)), (.int 2 (0 : Nat)), (.int 0 (0 : Nat)), (.int 0 (0 : Nat)), (.int 3 (0 : Nat)), (.ref (410 : Nat)), (.bool true), (.int 181 (0 : Nat)), (.ref (411 : Nat)), .none, (.ref (412 : Nat)), (.ref (413 : Nat)), (.ref (414 : Nat)), (.int 722 (0 : Nat)), (.int 215 (0 : Nat)), (.str (.ofString "/claim/cut.py") (723 : Nat))]), #[]⟩) <|
    @List.cons (Nat × Obj) (@Prod.mk Nat Obj (nat_lit 416) ⟨(.type "function"), (none : Option Nat), (.func ⟨(.ofString "by_name"), (.ofString "BufferTable.by_name"), p44, (.stmts b44), s44, (3 : Nat), ([] : List (Str × Nat)), .none, .none, .none, (.str (.ofString "emacs.buffers") (687 : Nat)), (none : Option Nat), (.ref (415 : Nat)), .none, (0 : Nat)⟩), #[]⟩) <|
    @List.cons (Nat × Obj) (@Prod.mk Nat Obj (nat_lit 417) ⟨(.type "tuple"), (none : Option Nat), (.seq #[] (0 : Nat)), #[]⟩) <|
    @List.cons (Nat × Obj) (@Prod.mk Nat Obj (nat_lit 419) ⟨(.type "tuple"), (none : Option Nat), (.seq #[(.str (.ofString "self") (728 : Nat)), (.str (.ofString "name") (729 : Nat)), (.str (.ofString "buffer") (730 : Nat))] (0 : Nat)), #[]⟩) <|
    @List.cons (Nat × Obj) (@Prod.mk Nat Obj (nat_lit 420) ⟨(.type "tuple"), (none : Option Nat), (.seq #[] (0 : Nat)), #[]⟩) <|
    @List.cons (Nat × Obj) (@Prod.mk Nat Obj (nat_lit 422) ⟨(.type "code"), (none : Option Nat), (.fields #[(.str (.ofString "create") (725 : Nat)), (.str (.ofString "BufferTable.create") (726 : Nat)), (.str (.ofString "/claim/cut.py") (727 : Nat)), (.int 221 (0 : Nat)), (.int 2 (0 : Nat)), (.int 0 (0 : Nat)), (.int 0 (0 : Nat)), (.int 3 (0 : Nat)), (.ref (417 : Nat)), (.bool true), (.int 181 (0 : Nat)), (.ref (418 : Nat)), .none, (.ref (419 : Nat)), (.ref (420 : Nat)), (.ref (421 : Nat)), (.int 731 (0 : Nat)), (.int 221 (0 : Nat)), (.str (.ofString "/claim/cut.py") (732 : Nat))]), #[]⟩) <|
    @List.cons (Nat × Obj) (@Prod.mk Nat Obj (nat_lit 423) ⟨(.type "function"), (none : Option Nat), (.func ⟨(.ofString "create"), (.ofString "BufferTable.create"), p45, (.stmts b45), s45, (3 : Nat), ([] : List (Str × Nat)), .none, .none, .none, (.str (.ofString "emacs.buffers") (687 : Nat)), (none : Option Nat), (.ref (422 : Nat)), .none, (0 : Nat)⟩), #[]⟩) <|
    @List.cons (Nat × Obj) (@Prod.mk Nat Obj (nat_lit 424) ⟨(.type "tuple"), (none : Option Nat), (.seq #[(.str (.ofString "") (734 : Nat))] (0 : Nat)), #[]⟩) <|
    @List.cons (Nat × Obj) (@Prod.mk Nat Obj (nat_lit 425) ⟨(.type "tuple"), (none : Option Nat), (.seq #[] (0 : Nat)), #[]⟩) <|
    @List.cons (Nat × Obj) (@Prod.mk Nat Obj (nat_lit 427) ⟨(.type "tuple"), (none : Option Nat), (.seq #[(.str (.ofString "self") (738 : Nat)), (.str (.ofString "name") (739 : Nat)), (.str (.ofString "ignored") (740 : Nat)), (.str (.ofString "count") (741 : Nat)), (.str (.ofString "found") (742 : Nat))] (0 : Nat)), #[]⟩) <|
    @List.cons (Nat × Obj) (@Prod.mk Nat Obj (nat_lit 428) ⟨(.type "tuple"), (none : Option Nat), (.seq #[] (0 : Nat)), #[]⟩) <|
    @List.cons (Nat × Obj) (@Prod.mk Nat Obj (nat_lit 430) ⟨(.type "code"), (none : Option Nat), (.fields #[(.str (.ofString "fresh_name") (735 : Nat)), (.str (.ofString "BufferTable.fresh_name") (736 : Nat)), (.str (.ofString "/claim/cut.py") (737 : Nat)), (.int 230 (0 : Nat)), (.int 3 (0 : Nat)), (.int 0 (0 : Nat)), (.int 0 (0 : Nat)), (.int 3 (0 : Nat)), (.ref (425 : Nat)), (.bool true), (.int 181 (0 : Nat)), (.ref (426 : Nat)), .none, (.ref (427 : Nat)), (.ref (428 : Nat)), (.ref (429 : Nat)), (.int 743 (0 : Nat)), (.int 230 (0 : Nat)), (.str (.ofString "/claim/cut.py") (744 : Nat))]), #[]⟩) <|
    @List.cons (Nat × Obj) (@Prod.mk Nat Obj (nat_lit 431) ⟨(.type "function"), (none : Option Nat), (.func ⟨(.ofString "fresh_name"), (.ofString "BufferTable.fresh_name"), p46, (.stmts b46), s46, (3 : Nat), ([] : List (Str × Nat)), (.ref (424 : Nat)), .none, .none, (.str (.ofString "emacs.buffers") (687 : Nat)), (none : Option Nat), (.ref (430 : Nat)), .none, (0 : Nat)⟩), #[]⟩) <|
    @List.cons (Nat × Obj) (@Prod.mk Nat Obj (nat_lit 432) ⟨(.type "tuple"), (none : Option Nat), (.seq #[] (0 : Nat)), #[]⟩) <|
    @List.cons (Nat × Obj) (@Prod.mk Nat Obj (nat_lit 434) ⟨(.type "tuple"), (none : Option Nat), (.seq #[(.str (.ofString "self") (749 : Nat)), (.str (.ofString "buffer") (750 : Nat)), (.str (.ofString "name") (751 : Nat)), (.str (.ofString "is_unique") (752 : Nat)), (.str (.ofString "other") (753 : Nat))] (0 : Nat)), #[]⟩) <|
    @List.cons (Nat × Obj) (@Prod.mk Nat Obj (nat_lit 435) ⟨(.type "tuple"), (none : Option Nat), (.seq #[] (0 : Nat)), #[]⟩) <|
    @List.cons (Nat × Obj) (@Prod.mk Nat Obj (nat_lit 437) ⟨(.type "code"), (none : Option Nat), (.fields #[(.str (.ofString "rename") (746 : Nat)), (.str (.ofString "BufferTable.rename") (747 : Nat)), (.str (.ofString "/claim/cut.py") (748 : Nat)), (.int 240 (0 : Nat)), (.int 4 (0 : Nat)), (.int 0 (0 : Nat)), (.int 0 (0 : Nat)), (.int 3 (0 : Nat)), (.ref (432 : Nat)), (.bool true), (.int 181 (0 : Nat)), (.ref (433 : Nat)), .none, (.ref (434 : Nat)), (.ref (435 : Nat)), (.ref (436 : Nat)), (.int 754 (0 : Nat)), (.int 240 (0 : Nat)), (.str (.ofString "/claim/cut.py") (755 : Nat))]), #[]⟩) <|
    @List.cons (Nat × Obj) (@Prod.mk Nat Obj (nat_lit 438) ⟨(.type "function"), (none : Option Nat), (.func ⟨(.ofString "rename"), (.ofString "BufferTable.rename"), p47, (.stmts b47), s47, (3 : Nat), ([] : List (Str × Nat)), .none, .none, .none, (.str (.ofString "emacs.buffers") (687 : Nat)), (none : Option Nat), (.ref (437 : Nat)), .none, (0 : Nat)⟩), #[]⟩) <|
    @List.cons (Nat × Obj) (@Prod.mk Nat Obj (nat_lit 439) ⟨(.type "tuple"), (none : Option Nat), (.seq #[] (0 : Nat)), #[]⟩) <|
    @List.cons (Nat × Obj) (@Prod.mk Nat Obj (nat_lit 441) ⟨(.type "tuple"), (none : Option Nat), (.seq #[(.str (.ofString "self") (760 : Nat)), (.str (.ofString "buffer") (761 : Nat))] (0 : Nat)), #[]⟩) <|
    @List.cons (Nat × Obj) (@Prod.mk Nat Obj (nat_lit 442) ⟨(.type "tuple"), (none : Option Nat), (.seq #[] (0 : Nat)), #[]⟩) <|
    @List.cons (Nat × Obj) (@Prod.mk Nat Obj (nat_lit 444) ⟨(.type "code"), (none : Option Nat), (.fields #[(.str (.ofString "select") (757 : Nat)), (.str (.ofString "BufferTable.select") (758 : Nat)), (.str (.ofString "/claim/cut.py") (759 : Nat)), (.int 247 (0 : Nat)), (.int 2 (0 : Nat)), (.int 0 (0 : Nat)), (.int 0 (0 : Nat)), (.int 3 (0 : Nat)), (.ref (439 : Nat)), (.bool true), (.int 181 (0 : Nat)), (.ref (440 : Nat)), .none, (.ref (441 : Nat)), (.ref (442 : Nat)), (.ref (443 : Nat)), (.int 762 (0 : Nat)), (.int 247 (0 : Nat)), (.str (.ofString "/claim/cut.py") (763 : Nat))]), #[]⟩) <|
    @List.cons (Nat × Obj) (@Prod.mk Nat Obj (nat_lit 445) ⟨(.type "function"), (none : Option Nat), (.func ⟨(.ofString "select"), (.ofString "BufferTable.select"), p48, (.stmts b48), s48, (3 : Nat), ([] : List (Str × Nat)), .none, .none, .none, (.str (.ofString "emacs.buffers") (687 : Nat)), (none : Option Nat), (.ref (444 : Nat)), .none, (0 : Nat)⟩), #[]⟩) <|
    @List.cons (Nat × Obj) (@Prod.mk Nat Obj (nat_lit 446) ⟨(.type "tuple"), (none : Option Nat), (.seq #[] (0 : Nat)), #[]⟩) <|
    @List.cons (Nat × Obj) (@Prod.mk Nat Obj (nat_lit 448) ⟨(.type "tuple"), (none : Option Nat), (.seq #[(.str (.ofString "self") (768 : Nat)), (.str (.ofString "buffer") (769 : Nat))] (0 : Nat)), #[]⟩) <|
    @List.cons (Nat × Obj) (@Prod.mk Nat Obj (nat_lit 449) ⟨(.type "tuple"), (none : Option Nat), (.seq #[] (0 : Nat)), #[]⟩) <|
    @List.cons (Nat × Obj) (@Prod.mk Nat Obj (nat_lit 451) ⟨(.type "code"), (none : Option Nat), (.fields #[(.str (.ofString "set_current") (765 : Nat)), (.str (.ofString "BufferTable.set_current") (766 : Nat)), (.str (.ofString "/claim/cut.py") (767 : Nat)), (.int 252 (0 : Nat)), (.int 2 (0 : Nat)), (.int 0 (0 : Nat)), (.int 0 (0 : Nat)), (.int 3 (0 : Nat)), (.ref (446 : Nat)), (.bool true), (.int 181 (0 : Nat)), (.ref (447 : Nat)), .none, (.ref (448 : Nat)), (.ref (449 : Nat)), (.ref (450 : Nat)), (.int 770 (0 : Nat)), (.int 252 (0 : Nat)), (.str (.ofString "/claim/cut.py") (771 : Nat))]), #[]⟩) <|
    @List.cons (Nat × Obj) (@Prod.mk Nat Obj (nat_lit 452) ⟨(.type "function"), (none : Option Nat), (.func ⟨(.ofString "set_current"), (.ofString "BufferTable.set_current"), p49, (.stmts b49), s49, (3 : Nat), ([] : List (Str × Nat)), .none, .none, .none, (.str (.ofString "emacs.buffers") (687 : Nat)), (none : Option Nat), (.ref (451 : Nat)), .none, (0 : Nat)⟩), #[]⟩) <|
    @List.cons (Nat × Obj) (@Prod.mk Nat Obj (nat_lit 453) ⟨(.type "tuple"), (none : Option Nat), (.seq #[] (0 : Nat)), #[]⟩) <|
    @List.cons (Nat × Obj) (@Prod.mk Nat Obj (nat_lit 455) ⟨(.type "tuple"), (none : Option Nat), (.seq #[(.str (.ofString "self") (776 : Nat)), (.str (.ofString "buffer") (777 : Nat))] (0 : Nat)), #[]⟩) <|
    @List.cons (Nat × Obj) (@Prod.mk Nat Obj (nat_lit 456) ⟨(.type "tuple"), (none : Option Nat), (.seq #[] (0 : Nat)), #[]⟩) <|
    @List.cons (Nat × Obj) (@Prod.mk Nat Obj (nat_lit 458) ⟨(.type "code"), (none : Option Nat), (.fields #[(.str (.ofString "bury") (773 : Nat)), (.str (.ofString "BufferTable.bury") (774 : Nat)), (.str (.ofString "/claim/cut.py") (775 : Nat)), (.int 257 (0 : Nat)), (.int 2 (0 : Nat)), (.int 0 (0 : Nat)), (.int 0 (0 : Nat)), (.int 3 (0 : Nat)), (.ref (453 : Nat)), (.bool true), (.int 181 (0 : Nat)), (.ref (454 : Nat)), .none, (.ref (455 : Nat)), (.ref (456 : Nat)), (.ref (457 : Nat)), (.int 778 (0 : Nat)), (.int 257 (0 : Nat)), (.str (.ofString "/claim/cut.py") (779 : Nat))]), #[]⟩) <|
    @List.cons (Nat × Obj) (@Prod.mk Nat Obj (nat_lit 459) ⟨(.type "function"), (none : Option Nat), (.func ⟨(.ofString "bury"), (.ofString "BufferTable.bury"), p50, (.stmts b50), s50, (3 : Nat), ([] : List (Str × Nat)), .none, .none, .none, (.str (.ofString "emacs.buffers") (687 : Nat)), (none : Option Nat), (.ref (458 : Nat)), .none, (0 : Nat)⟩), #[]⟩) <|
    @List.cons (Nat × Obj) (@Prod.mk Nat Obj (nat_lit 460) ⟨(.type "tuple"), (none : Option Nat), (.seq #[] (0 : Nat)), #[]⟩) <|
    @List.cons (Nat × Obj) (@Prod.mk Nat Obj (nat_lit 462) ⟨(.type "tuple"), (none : Option Nat), (.seq #[(.str (.ofString "self") (784 : Nat)), (.str (.ofString "buffer") (785 : Nat)), (.str (.ofString "number") (786 : Nat))] (0 : Nat)), #[]⟩) <|
    @List.cons (Nat × Obj) (@Prod.mk Nat Obj (nat_lit 463) ⟨(.type "tuple"), (none : Option Nat), (.seq #[] (0 : Nat)), #[]⟩) <|
    @List.cons (Nat × Obj) (@Prod.mk Nat Obj (nat_lit 465) ⟨(.type "code"), (none : Option Nat), (.fields #[(.str (.ofString "other") (781 : Nat)), (.str (.ofString "BufferTable.other") (782 : Nat)), (.str (.ofString "/claim/cut.py") (783 : Nat)), (.int 261 (0 : Nat)), (.int 2 (0 : Nat)), (.int 0 (0 : Nat)), (.int 0 (0 : Nat)), (.int 3 (0 : Nat)), (.ref (460 : Nat)), (.bool true), (.int 181 (0 : Nat)), (.ref (461 : Nat)), .none, (.ref (462 : Nat)), (.ref (463 : Nat)), (.ref (464 : Nat)), (.int 787 (0 : Nat)), (.int 261 (0 : Nat)), (.str (.ofString "/claim/cut.py") (788 : Nat))]), #[]⟩) <|
    @List.cons (Nat × Obj) (@Prod.mk Nat Obj (nat_lit 466) ⟨(.type "function"), (none : Option Nat), (.func ⟨(.ofString "other"), (.ofString "BufferTable.other"), p51, (.stmts b51), s51, (3 : Nat), ([] : List (Str × Nat)), .none, .none, .none, (.str (.ofString "emacs.buffers") (687 : Nat)), (none : Option Nat), (.ref (465 : Nat)), .none, (0 : Nat)⟩), #[]⟩) <|
    @List.cons (Nat × Obj) (@Prod.mk Nat Obj (nat_lit 467) ⟨(.type "tuple"), (none : Option Nat), (.seq #[] (0 : Nat)), #[]⟩) <|
    @List.cons (Nat × Obj) (@Prod.mk Nat Obj (nat_lit 469) ⟨(.type "tuple"), (none : Option Nat), (.seq #[(.str (.ofString "self") (793 : Nat)), (.str (.ofString "buffer") (794 : Nat)), (.str (.ofString "following") (795 : Nat)), (.str (.ofString "marker") (796 : Nat))] (0 : Nat)), #[]⟩) <|
    @List.cons (Nat × Obj) (@Prod.mk Nat Obj (nat_lit 470) ⟨(.type "tuple"), (none : Option Nat), (.seq #[] (0 : Nat)), #[]⟩) <|
    @List.cons (Nat × Obj) (@Prod.mk Nat Obj (nat_lit 472) ⟨(.type "code"), (none : Option Nat), (.fields #[(.str (.ofString "kill") (790 : Nat)), (.str (.ofString "BufferTable.kill") (791 : Nat)), (.str (.ofString "/claim/cut.py") (792 : Nat)), (.int 267 (0 : Nat)), (.int 2 (0 : Nat)), (.int 0 (0 : Nat)), (.int 0 (0 : Nat)), (.int 3 (0 : Nat)), (.ref (467 : Nat)), (.bool true), (.int 181 (0 : Nat)), (.ref (468 : Nat)), .none, (.ref (469 : Nat)), (.ref (470 : Nat)), (.ref (471 : Nat)), (.int 797 (0 : Nat)), (.int 267 (0 : Nat)), (.str (.ofString "/claim/cut.py") (798 : Nat))]), #[]⟩) <|
    @List.cons (Nat × Obj) (@Prod.mk Nat Obj (nat_lit 473) ⟨(.type "function"), (none : Option Nat), (.func ⟨(.ofString "kill"), (.ofString "BufferTable.kill"), p52, (.stmts b52), s52, (3 : Nat), ([] : List (Str × Nat)), .none, .none, .none, (.str (.ofString "emacs.buffers") (687 : Nat)), (none : Option Nat), (.ref (472 : Nat)), .none, (0 : Nat)⟩), #[]⟩) <|
    @List.cons (Nat × Obj) (@Prod.mk Nat Obj (nat_lit 474) ⟨(.type "tuple"), (none : Option Nat), (.seq #[] (0 : Nat)), #[]⟩) <|
    @List.cons (Nat × Obj) (@Prod.mk Nat Obj (nat_lit 476) ⟨(.type "tuple"), (none : Option Nat), (.seq #[(.str (.ofString "self") (803 : Nat)), (.str (.ofString "advances") (804 : Nat))] (0 : Nat)), #[]⟩) <|
    @List.cons (Nat × Obj) (@Prod.mk Nat Obj (nat_lit 477) ⟨(.type "tuple"), (none : Option Nat), (.seq #[] (0 : Nat)), #[]⟩) <|
    @List.cons (Nat × Obj) (@Prod.mk Nat Obj (nat_lit 479) ⟨(.type "code"), (none : Option Nat), (.fields #[(.str (.ofString "new_marker") (800 : Nat)), (.str (.ofString "BufferTable.new_marker") (801 : Nat)), (.str (.ofString "/claim/cut.py") (802 : Nat)), (.int 278 (0 : Nat)), (.int 2 (0 : Nat)), (.int 0 (0 : Nat)), (.int 0 (0 : Nat)), (.int 3 (0 : Nat)), (.ref (474 : Nat)), (.bool true), (.int 181 (0 : Nat)), (.ref (475 : Nat)), .none, (.ref (476 : Nat)), (.ref (477 : Nat)), (.ref (478 : Nat)), (.int 805 (0 : Nat)), (.int 278 (0 : Nat)), (.str (.ofString "/claim/cut.py") (806 : Nat))]), #[]⟩) <|
    @List.cons (Nat × Obj) (@Prod.mk Nat Obj (nat_lit 480) ⟨(.type "function"), (none : Option Nat), (.func ⟨(.ofString "new_marker"), (.ofString "BufferTable.new_marker"), p53, (.stmts b53), s53, (3 : Nat), ([] : List (Str × Nat)), .none, .none, .none, (.str (.ofString "emacs.buffers") (687 : Nat)), (none : Option Nat), (.ref (479 : Nat)), .none, (0 : Nat)⟩), #[]⟩) <|
    @List.cons (Nat × Obj) (@Prod.mk Nat Obj (nat_lit 481) ⟨(.type "tuple"), (none : Option Nat), (.seq #[] (0 : Nat)), #[]⟩) <|
    @List.cons (Nat × Obj) (@Prod.mk Nat Obj (nat_lit 483) ⟨(.type "tuple"), (none : Option Nat), (.seq #[(.str (.ofString "self") (811 : Nat)), (.str (.ofString "buffer") (812 : Nat)), (.str (.ofString "place") (813 : Nat)), (.str (.ofString "advances") (814 : Nat)), (.str (.ofString "marker") (815 : Nat))] (0 : Nat)), #[]⟩) <|
    @List.cons (Nat × Obj) (@Prod.mk Nat Obj (nat_lit 484) ⟨(.type "tuple"), (none : Option Nat), (.seq #[] (0 : Nat)), #[]⟩) <|
    @List.cons (Nat × Obj) (@Prod.mk Nat Obj (nat_lit 486) ⟨(.type "code"), (none : Option Nat), (.fields #[(.str (.ofString "marker_at") (808 : Nat)), (.str (.ofString "BufferTable.marker_at") (809 : Nat)), (.str (.ofString "/claim/cut.py") (810 : Nat)), (.int 282 (0 : Nat)), (.int 4 (0 : Nat)), (.int 0 (0 : Nat)), (.int 0 (0 : Nat)), (.int 3 (0 : Nat)), (.ref (481 : Nat)), (.bool true), (.int 181 (0 : Nat)), (.ref (482 : Nat)), .none, (.ref (483 : Nat)), (.ref (484 : Nat)), (.ref (485 : Nat)), (.int 816 (0 : Nat)), (.int 282 (0 : Nat)), (.str (.ofString "/claim/cut.py") (817 : Nat))]), #[]⟩) <|
    @List.cons (Nat × Obj) (@Prod.mk Nat Obj (nat_lit 487) ⟨(.type "function"), (none : Option Nat), (.func ⟨(.ofString "marker_at"), (.ofString "BufferTable.marker_at"), p54, (.stmts b54), s54, (3 : Nat), ([] : List (Str × Nat)), .none, .none, .none, (.str (.ofString "emacs.buffers") (687 : Nat)), (none : Option Nat), (.ref (486 : Nat)), .none, (0 : Nat)⟩), #[]⟩) <|
    @List.cons (Nat × Obj) (@Prod.mk Nat Obj (nat_lit 488) ⟨(.type "tuple"), (none : Option Nat), (.seq #[(.str (.ofString "current") (819 : Nat)), (.str (.ofString "last_marker") (820 : Nat)), (.str (.ofString "last_number") (821 : Nat)), (.str (.ofString "order") (822 : Nat)), (.str (.ofString "rows") (823 : Nat))] (0 : Nat)), #[]⟩) <|
    @List.cons (Nat × Obj) (@Prod.mk Nat Obj (nat_lit 489) ⟨(.type "dict"), (none : Option Nat), (.dict #[⟨(PyData.keyHash P (.ofString "__module__")), (.str (.ofString "__module__") (696 : Nat)), (.str (.ofString "emacs.buffers") (687 : Nat))⟩, ⟨(PyData.keyHash P (.ofString "__firstlineno__")), (.str (.ofString "__firstlineno__") (700 : Nat)), (.int 203 (699 : Nat))⟩, ⟨(PyData.keyHash P (.ofString "__init__")), (.str (.ofString "__init__") (707 : Nat)), (.ref (402 : Nat))⟩, ⟨(PyData.keyHash P (.ofString "by_number")), (.str (.ofString "by_number") (715 : Nat)), (.ref (409 : Nat))⟩, ⟨(PyData.keyHash P (.ofString "by_name")), (.str (.ofString "by_name") (724 : Nat)), (.ref (416 : Nat))⟩, ⟨(PyData.keyHash P (.ofString "create")), (.str (.ofString "create") (733 : Nat)), (.ref (423 : Nat))⟩, ⟨(PyData.keyHash P (.ofString "fresh_name")), (.str (.ofString "fresh_name") (745 : Nat)), (.ref (431 : Nat))⟩, ⟨(PyData.keyHash P (.ofString "rename")), (.str (.ofString "rename") (756 : Nat)), (.ref (438 : Nat))⟩, ⟨(PyData.keyHash P (.ofString "select")), (.str (.ofString "select") (764 : Nat)), (.ref (445 : Nat))⟩, ⟨(PyData.keyHash P (.ofString "set_current")), (.str (.ofString "set_current") (772 : Nat)), (.ref (452 : Nat))⟩, ⟨(PyData.keyHash P (.ofString "bury")), (.str (.ofString "bury") (780 : Nat)), (.ref (459 : Nat))⟩, ⟨(PyData.keyHash P (.ofString "other")), (.str (.ofString "other") (789 : Nat)), (.ref (466 : Nat))⟩, ⟨(PyData.keyHash P (.ofString "kill")), (.str (.ofString "kill") (799 : Nat)), (.ref (473 : Nat))⟩, ⟨(PyData.keyHash P (.ofString "new_marker")), (.str (.ofString "new_marker") (807 : Nat)), (.ref (480 : Nat))⟩, ⟨(PyData.keyHash P (.ofString "marker_at")), (.str (.ofString "marker_at") (818 : Nat)), (.ref (487 : Nat))⟩, ⟨(PyData.keyHash P (.ofString "__static_attributes__")), (.str (.ofString "__static_attributes__") (824 : Nat)), (.ref (488 : Nat))⟩, ⟨(PyData.keyHash P (.ofString "__dict__")), (.str (.ofString "__dict__") (826 : Nat)), (.ref (491 : Nat))⟩, ⟨(PyData.keyHash P (.ofString "__weakref__")), (.str (.ofString "__weakref__") (828 : Nat)), (.ref (492 : Nat))⟩, ⟨(PyData.keyHash P (.ofString "__doc__")), (.str (.ofString "__doc__") (829 : Nat)), .none⟩] (4 : Nat)), #[]⟩) <|
    @List.cons (Nat × Obj) (@Prod.mk Nat Obj (nat_lit 490) ⟨(.type "type"), (none : Option Nat), (.cls ⟨(.ofString "BufferTable"), [(.type "object")], [(.ref (490 : Nat)), (.type "object")], (489 : Nat), (.ofString "BufferTable"), true, [], [], false, none, false⟩), #[none, none, (some (.str (.ofString "BufferTable") (689 : Nat))), (some (.str (.ofString "BufferTable") (697 : Nat))), (some (.builtin "object.__new__")), (some (.bool true))]⟩) <|
    @List.cons (Nat × Obj) (@Prod.mk Nat Obj (nat_lit 491) ⟨(.type "getset_descriptor"), (none : Option Nat), (.fields #[(.str (.ofString "__dict__") (825 : Nat)), (.ref (490 : Nat)), (.builtin "function.__dict__"), (.builtin "function.__dict__#set")]), #[]⟩) <|
    @List.cons (Nat × Obj) (@Prod.mk Nat Obj (nat_lit 492) ⟨(.type "getset_descriptor"), (none : Option Nat), (.fields #[(.str (.ofString "__weakref__") (827 : Nat)), (.ref (490 : Nat)), (.builtin "ExceptionGroup.__weakref__"), .none]), #[]⟩) <|
    @List.cons (Nat × Obj) (@Prod.mk Nat Obj (nat_lit 495) ⟨(.type "tuple"), (none : Option Nat), (.seq #[] (0 : Nat)), #[]⟩) <|
    @List.cons (Nat × Obj) (@Prod.mk Nat Obj (nat_lit 498) ⟨(.type "code"), (none : Option Nat), (.fields #[(.str (.ofString "_law_deck") (834 : Nat)), (.str (.ofString "_law_deck") (835 : Nat)), (.str (.ofString "/claim/cut.py") (836 : Nat)), (.int 287 (0 : Nat)), (.int 1 (0 : Nat)), (.int 0 (0 : Nat)), (.int 0 (0 : Nat)), (.int 3 (0 : Nat)), (.ref (495 : Nat)), (.bool true), (.int 181 (0 : Nat)), (.ref (496 : Nat)), .none, .none, .none, (.ref (497 : Nat)), (.int 837 (0 : Nat)), (.int 287 (0 : Nat)), (.str (.ofString "/claim/cut.py") (838 : Nat))]), #[]⟩) <|
    @List.cons (Nat × Obj) (@Prod.mk Nat Obj (nat_lit 499) ⟨(.type "function"), (none : Option Nat), (.func ⟨(.ofString "_law_deck"), (.ofString "_law_deck"), p55, (.stmts b55), s55, (3 : Nat), ([] : List (Str × Nat)), .none, .none, .none, (.str (.ofString "law_np0064_01") (832 : Nat)), (none : Option Nat), (.ref (498 : Nat)), .none, (0 : Nat)⟩), #[]⟩) <|
    @List.cons (Nat × Obj) (@Prod.mk Nat Obj (nat_lit 500) ⟨(.type "tuple"), (none : Option Nat), (.seq #[] (0 : Nat)), #[]⟩) <|
    @List.cons (Nat × Obj) (@Prod.mk Nat Obj (nat_lit 502) ⟨(.type "tuple"), (none : Option Nat), (.seq #[(.str (.ofString "deck") (843 : Nat)), (.str (.ofString "many") (844 : Nat)), (.str (.ofString "found") (845 : Nat))] (0 : Nat)), #[]⟩) <|
    @List.cons (Nat × Obj) (@Prod.mk Nat Obj (nat_lit 503) ⟨(.type "tuple"), (none : Option Nat), (.seq #[] (0 : Nat)), #[]⟩) <|
    @List.cons (Nat × Obj) (@Prod.mk Nat Obj (nat_lit 505) ⟨(.type "code"), (none : Option Nat), (.fields #[(.str (.ofString "_law_draw") (840 : Nat)), (.str (.ofString "_law_draw") (841 : Nat)), (.str (.ofString "/claim/cut.py") (842 : Nat)), (.int 289 (0 : Nat)), (.int 2 (0 : Nat)), (.int 0 (0 : Nat)), (.int 0 (0 : Nat)), (.int 3 (0 : Nat)), (.ref (500 : Nat)), (.bool true), (.int 181 (0 : Nat)), (.ref (501 : Nat)), .none, (.ref (502 : Nat)), (.ref (503 : Nat)), (.ref (504 : Nat)), (.int 846 (0 : Nat)), (.int 289 (0 : Nat)), (.str (.ofString "/claim/cut.py") (847 : Nat))]), #[]⟩) <|
    @List.cons (Nat × Obj) (@Prod.mk Nat Obj (nat_lit 506) ⟨(.type "function"), (none : Option Nat), (.func ⟨(.ofString "_law_draw"), (.ofString "_law_draw"), p56, (.stmts b56), s56, (3 : Nat), ([] : List (Str × Nat)), .none, .none, .none, (.str (.ofString "law_np0064_01") (832 : Nat)), (none : Option Nat), (.ref (505 : Nat)), .none, (0 : Nat)⟩), #[]⟩) <|
    @List.cons (Nat × Obj) (@Prod.mk Nat Obj (nat_lit 507) ⟨(.type "tuple"), (none : Option Nat), (.seq #[] (0 : Nat)), #[]⟩) <|
    @List.cons (Nat × Obj) (@Prod.mk Nat Obj (nat_lit 509) ⟨(.type "tuple"), (none : Option Nat), (.seq #[(.str (.ofString "deed") (852 : Nat)), (.str (.ofString "error") (853 : Nat))] (0 : Nat)), #[]⟩) <|
    @List.cons (Nat × Obj) (@Prod.mk Nat Obj (nat_lit 510) ⟨(.type "tuple"), (none : Option Nat), (.seq #[] (0 : Nat)), #[]⟩) <|
    @List.cons (Nat × Obj) (@Prod.mk Nat Obj (nat_lit 512) ⟨(.type "code"), (none : Option Nat), (.fields #[(.str (.ofString "_law_told") (849 : Nat)), (.str (.ofString "_law_told") (850 : Nat)), (.str (.ofString "/claim/cut.py") (851 : Nat)), (.int 297 (0 : Nat)), (.int 1 (0 : Nat)), (.int 0 (0 : Nat)), (.int 0 (0 : Nat)), (.int 3 (0 : Nat)), (.ref (507 : Nat)), (.bool true), (.int 181 (0 : Nat)), (.ref (508 : Nat)), .none, (.ref (509 : Nat)), (.ref (510 : Nat)), (.ref (511 : Nat)), (.int 854 (0 : Nat)), (.int 297 (0 : Nat)), (.str (.ofString "/claim/cut.py") (855 : Nat))]), #[]⟩) <|
    @List.cons (Nat × Obj) (@Prod.mk Nat Obj (nat_lit 513) ⟨(.type "function"), (none : Option Nat), (.func ⟨(.ofString "_law_told"), (.ofString "_law_told"), p57, (.stmts b57), s57, (3 : Nat), ([] : List (Str × Nat)), .none, .none, .none, (.str (.ofString "law_np0064_01") (832 : Nat)), (none : Option Nat), (.ref (512 : Nat)), .none, (0 : Nat)⟩), #[]⟩) <|
    @List.cons (Nat × Obj) (@Prod.mk Nat Obj (nat_lit 514) ⟨(.type "tuple"), (none : Option Nat), (.seq #[] (0 : Nat)), #[]⟩) <|
    @List.cons (Nat × Obj) (@Prod.mk Nat Obj (nat_lit 517) ⟨(.type "code"), (none : Option Nat), (.fields #[(.str (.ofString "_law_fresh") (857 : Nat)), (.str (.ofString "_law_fresh") (858 : Nat)), (.str (.ofString "/claim/cut.py") (859 : Nat)), (.int 302 (0 : Nat)), (.int 3 (0 : Nat)), (.int 0 (0 : Nat)), (.int 0 (0 : Nat)), (.int 3 (0 : Nat)), (.ref (514 : Nat)), (.bool true), (.int 181 (0 : Nat)), (.ref (515 : Nat)), .none, .none, .none, (.ref (516 : Nat)), (.int 860 (0 : Nat)), (.int 302 (0 : Nat)), (.str (.ofString "/claim/cut.py") (861 : Nat))]), #[]⟩) <|
    @List.cons (Nat × Obj) (@Prod.mk Nat Obj (nat_lit 518) ⟨(.type "function"), (none : Option Nat), (.func ⟨(.ofString "_law_fresh"), (.ofString "_law_fresh"), p58, (.stmts b58), s58, (3 : Nat), ([] : List (Str × Nat)), .none, .none, .none, (.str (.ofString "law_np0064_01") (832 : Nat)), (none : Option Nat), (.ref (517 : Nat)), .none, (0 : Nat)⟩), #[]⟩) <|
    @List.cons (Nat × Obj) (@Prod.mk Nat Obj (nat_lit 519) ⟨(.type "tuple"), (none : Option Nat), (.seq #[] (0 : Nat)), #[]⟩) <|
    @List.cons (Nat × Obj) (@Prod.mk Nat Obj (nat_lit 522) ⟨(.type "code"), (none : Option Nat), (.fields #[(.str (.ofString "_law_is_so") (863 : Nat)), (.str (.ofString "_law_is_so") (864 : Nat)), (.str (.ofString "/claim/cut.py") (865 : Nat)), (.int 305 (0 : Nat)), (.int 4 (0 : Nat)), (.int 0 (0 : Nat)), (.int 0 (0 : Nat)), (.int 3 (0 : Nat)), (.ref (519 : Nat)), (.bool true), (.int 181 (0 : Nat)), (.ref (520 : Nat)), .none, .none, .none, (.ref (521 : Nat)), (.int 866 (0 : Nat)), (.int 305 (0 : Nat)), (.str (.ofString "/claim/cut.py") (867 : Nat))]), #[]⟩) <|
    @List.cons (Nat × Obj) (@Prod.mk Nat Obj (nat_lit 523) ⟨(.type "function"), (none : Option Nat), (.func ⟨(.ofString "_law_is_so"), (.ofString "_law_is_so"), p59, (.stmts b59), s59, (3 : Nat), ([] : List (Str × Nat)), .none, .none, .none, (.str (.ofString "law_np0064_01") (832 : Nat)), (none : Option Nat), (.ref (522 : Nat)), .none, (0 : Nat)⟩), #[]⟩) <|
    @List.cons (Nat × Obj) (@Prod.mk Nat Obj (nat_lit 524) ⟨(.type "tuple"), (none : Option Nat), (.seq #[] (0 : Nat)), #[]⟩) <|
    @List.cons (Nat × Obj) (@Prod.mk Nat Obj (nat_lit 527) ⟨(.type "code"), (none : Option Nat), (.fields #[(.str (.ofString "law") (869 : Nat)), (.str (.ofString "law") (870 : Nat)), (.str (.ofString "/claim/cut.py") (871 : Nat)), (.int 320 (0 : Nat)), (.int 1 (0 : Nat)), (.int 0 (0 : Nat)), (.int 0 (0 : Nat)), (.int 3 (0 : Nat)), (.ref (524 : Nat)), (.bool true), (.int 181 (0 : Nat)), (.ref (525 : Nat)), .none, .none, .none, (.ref (526 : Nat)), (.int 872 (0 : Nat)), (.int 320 (0 : Nat)), (.str (.ofString "/claim/cut.py") (873 : Nat))]), #[]⟩) <|
    @List.cons (Nat × Obj) (@Prod.mk Nat Obj (nat_lit 528) ⟨(.type "function"), (none : Option Nat), (.func ⟨(.ofString "law"), (.ofString "law"), p60, (.stmts b60), s60, (3 : Nat), ([] : List (Str × Nat)), .none, .none, .none, (.str (.ofString "law_np0064_01") (832 : Nat)), (none : Option Nat), (.ref (527 : Nat)), .none, (0 : Nat)⟩), #[]⟩) <|
    @List.nil (Nat × Obj)
def heapAs : List Nat :=
  List.cons (nat_lit 2) <| List.cons (nat_lit 3) <| List.cons (nat_lit 15) <| List.cons (nat_lit 17) <| List.cons (nat_lit 18) <| List.cons (nat_lit 20) <|
  List.cons (nat_lit 21) <| List.cons (nat_lit 29) <| List.cons (nat_lit 31) <| List.cons (nat_lit 32) <| List.cons (nat_lit 34) <| List.cons (nat_lit 35) <|
  List.cons (nat_lit 36) <| List.cons (nat_lit 38) <| List.cons (nat_lit 39) <| List.cons (nat_lit 41) <| List.cons (nat_lit 42) <| List.cons (nat_lit 43) <|
  List.cons (nat_lit 45) <| List.cons (nat_lit 46) <| List.cons (nat_lit 48) <| List.cons (nat_lit 49) <| List.cons (nat_lit 50) <| List.cons (nat_lit 52) <|
  List.cons (nat_lit 53) <| List.cons (nat_lit 55) <| List.cons (nat_lit 56) <| List.cons (nat_lit 57) <| List.cons (nat_lit 59) <| List.cons (nat_lit 60) <|
  List.cons (nat_lit 62) <| List.cons (nat_lit 63) <| List.cons (nat_lit 64) <| List.cons (nat_lit 66) <| List.cons (nat_lit 67) <| List.cons (nat_lit 69) <|
  List.cons (nat_lit 70) <| List.cons (nat_lit 71) <| List.cons (nat_lit 73) <| List.cons (nat_lit 74) <| List.cons (nat_lit 76) <| List.cons (nat_lit 77) <|
  List.cons (nat_lit 78) <| List.cons (nat_lit 80) <| List.cons (nat_lit 81) <| List.cons (nat_lit 83) <| List.cons (nat_lit 84) <| List.cons (nat_lit 85) <|
  List.cons (nat_lit 87) <| List.cons (nat_lit 88) <| List.cons (nat_lit 90) <| List.cons (nat_lit 91) <| List.cons (nat_lit 92) <| List.cons (nat_lit 94) <|
  List.cons (nat_lit 95) <| List.cons (nat_lit 97) <| List.cons (nat_lit 98) <| List.cons (nat_lit 99) <| List.cons (nat_lit 101) <| List.cons (nat_lit 102) <|
  List.cons (nat_lit 104) <| List.cons (nat_lit 105) <| List.cons (nat_lit 106) <| List.cons (nat_lit 107) <| List.cons (nat_lit 108) <| List.cons (nat_lit 109) <|
  List.cons (nat_lit 110) <| List.cons (nat_lit 120) <| List.cons (nat_lit 122) <| List.cons (nat_lit 123) <| List.cons (nat_lit 125) <| List.cons (nat_lit 126) <|
  List.cons (nat_lit 127) <| List.cons (nat_lit 129) <| List.cons (nat_lit 130) <| List.cons (nat_lit 132) <| List.cons (nat_lit 133) <| List.cons (nat_lit 134) <|
  List.cons (nat_lit 136) <| List.cons (nat_lit 137) <| List.cons (nat_lit 139) <| List.cons (nat_lit 140) <| List.cons (nat_lit 141) <| List.cons (nat_lit 142) <|
  List.cons (nat_lit 143) <| List.cons (nat_lit 144) <| List.cons (nat_lit 145) <| List.cons (nat_lit 148) <| List.cons (nat_lit 155) <| List.cons (nat_lit 157) <|
  List.cons (nat_lit 158) <| List.cons (nat_lit 160) <| List.cons (nat_lit 161) <| List.cons (nat_lit 162) <| List.cons (nat_lit 164) <| List.cons (nat_lit 165) <|
  List.cons (nat_lit 167) <| List.cons (nat_lit 168) <| List.cons (nat_lit 169) <| List.cons (nat_lit 171) <| List.cons (nat_lit 172) <| List.cons (nat_lit 174) <|
  List.cons (nat_lit 175) <| List.cons (nat_lit 176) <| List.cons (nat_lit 178) <| List.cons (nat_lit 179) <| List.cons (nat_lit 181) <| List.cons (nat_lit 182) <|
  List.cons (nat_lit 183) <| List.cons (nat_lit 184) <| List.cons (nat_lit 185) <| List.cons (nat_lit 195) <| List.cons (nat_lit 197) <| List.cons (nat_lit 198) <|
  List.cons (nat_lit 200) <| List.cons (nat_lit 201) <| List.cons (nat_lit 202) <| List.cons (nat_lit 204) <| List.cons (nat_lit 205) <| List.cons (nat_lit 207) <|
  List.cons (nat_lit 208) <| List.cons (nat_lit 209) <| List.cons (nat_lit 211) <| List.cons (nat_lit 212) <| List.cons (nat_lit 214) <| List.cons (nat_lit 215) <|
  List.cons (nat_lit 216) <| List.cons (nat_lit 218) <| List.cons (nat_lit 219) <| List.cons (nat_lit 221) <| List.cons (nat_lit 222) <| List.cons (nat_lit 223) <|
  List.cons (nat_lit 225) <| List.cons (nat_lit 226) <| List.cons (nat_lit 228) <| List.cons (nat_lit 229) <| List.cons (nat_lit 230) <| List.cons (nat_lit 232) <|
  List.cons (nat_lit 233) <| List.cons (nat_lit 235) <| List.cons (nat_lit 236) <| List.cons (nat_lit 237) <| List.cons (nat_lit 239) <| List.cons (nat_lit 240) <|
  List.cons (nat_lit 242) <| List.cons (nat_lit 243) <| List.cons (nat_lit 244) <| List.cons (nat_lit 246) <| List.cons (nat_lit 247) <| List.cons (nat_lit 249) <|
  List.cons (nat_lit 250) <| List.cons (nat_lit 251) <| List.cons (nat_lit 252) <| List.cons (nat_lit 253) <| List.cons (nat_lit 254) <| List.cons (nat_lit 255) <|
  List.cons (nat_lit 258) <| List.cons (nat_lit 265) <| List.cons (nat_lit 266) <| List.cons (nat_lit 268) <| List.cons (nat_lit 269) <| List.cons (nat_lit 271) <|
  List.cons (nat_lit 272) <| List.cons (nat_lit 273) <| List.cons (nat_lit 275) <| List.cons (nat_lit 276) <| List.cons (nat_lit 278) <| List.cons (nat_lit 279) <|
  List.cons (nat_lit 280) <| List.cons (nat_lit 282) <| List.cons (nat_lit 283) <| List.cons (nat_lit 285) <| List.cons (nat_lit 286) <| List.cons (nat_lit 287) <|
  List.cons (nat_lit 289) <| List.cons (nat_lit 290) <| List.cons (nat_lit 292) <| List.cons (nat_lit 293) <| List.cons (nat_lit 294) <| List.cons (nat_lit 296) <|
  List.cons (nat_lit 297) <| List.cons (nat_lit 299) <| List.cons (nat_lit 300) <| List.cons (nat_lit 301) <| List.cons (nat_lit 303) <| List.cons (nat_lit 304) <|
  List.cons (nat_lit 306) <| List.cons (nat_lit 307) <| List.cons (nat_lit 308) <| List.cons (nat_lit 310) <| List.cons (nat_lit 311) <| List.cons (nat_lit 313) <|
  List.cons (nat_lit 314) <| List.cons (nat_lit 315) <| List.cons (nat_lit 317) <| List.cons (nat_lit 318) <| List.cons (nat_lit 320) <| List.cons (nat_lit 321) <|
  List.cons (nat_lit 322) <| List.cons (nat_lit 324) <| List.cons (nat_lit 325) <| List.cons (nat_lit 327) <| List.cons (nat_lit 328) <| List.cons (nat_lit 329) <|
  List.cons (nat_lit 331) <| List.cons (nat_lit 332) <| List.cons (nat_lit 334) <| List.cons (nat_lit 335) <| List.cons (nat_lit 336) <| List.cons (nat_lit 338) <|
  List.cons (nat_lit 339) <| List.cons (nat_lit 341) <| List.cons (nat_lit 342) <| List.cons (nat_lit 343) <| List.cons (nat_lit 345) <| List.cons (nat_lit 346) <|
  List.cons (nat_lit 348) <| List.cons (nat_lit 349) <| List.cons (nat_lit 350) <| List.cons (nat_lit 352) <| List.cons (nat_lit 353) <| List.cons (nat_lit 355) <|
  List.cons (nat_lit 356) <| List.cons (nat_lit 357) <| List.cons (nat_lit 358) <| List.cons (nat_lit 359) <| List.cons (nat_lit 362) <| List.cons (nat_lit 369) <|
  List.cons (nat_lit 371) <| List.cons (nat_lit 372) <| List.cons (nat_lit 374) <| List.cons (nat_lit 375) <| List.cons (nat_lit 376) <| List.cons (nat_lit 377) <|
  List.cons (nat_lit 378) <| List.cons (nat_lit 379) <| List.cons (nat_lit 382) <| List.cons (nat_lit 384) <| List.cons (nat_lit 385) <| List.cons (nat_lit 387) <|
  List.cons (nat_lit 388) <| List.cons (nat_lit 396) <| List.cons (nat_lit 398) <| List.cons (nat_lit 399) <| List.cons (nat_lit 401) <| List.cons (nat_lit 402) <|
  List.cons (nat_lit 403) <| List.cons (nat_lit 405) <| List.cons (nat_lit 406) <| List.cons (nat_lit 408) <| List.cons (nat_lit 409) <| List.cons (nat_lit 410) <|
  List.cons (nat_lit 412) <| List.cons (nat_lit 413) <| List.cons (nat_lit 415) <| List.cons (nat_lit 416) <| List.cons (nat_lit 417) <| List.cons (nat_lit 419) <|
  List.cons (nat_lit 420) <| List.cons (nat_lit 422) <| List.cons (nat_lit 423) <| List.cons (nat_lit 424) <| List.cons (nat_lit 425) <| List.cons (nat_lit 427) <|
  List.cons (nat_lit 428) <| List.cons (nat_lit 430) <| List.cons (nat_lit 431) <| List.cons (nat_lit 432) <| List.cons (nat_lit 434) <| List.cons (nat_lit 435) <|
  List.cons (nat_lit 437) <| List.cons (nat_lit 438) <| List.cons (nat_lit 439) <| List.cons (nat_lit 441) <| List.cons (nat_lit 442) <| List.cons (nat_lit 444) <|
  List.cons (nat_lit 445) <| List.cons (nat_lit 446) <| List.cons (nat_lit 448) <| List.cons (nat_lit 449) <| List.cons (nat_lit 451) <| List.cons (nat_lit 452) <|
  List.cons (nat_lit 453) <| List.cons (nat_lit 455) <| List.cons (nat_lit 456) <| List.cons (nat_lit 458) <| List.cons (nat_lit 459) <| List.cons (nat_lit 460) <|
  List.cons (nat_lit 462) <| List.cons (nat_lit 463) <| List.cons (nat_lit 465) <| List.cons (nat_lit 466) <| List.cons (nat_lit 467) <| List.cons (nat_lit 469) <|
  List.cons (nat_lit 470) <| List.cons (nat_lit 472) <| List.cons (nat_lit 473) <| List.cons (nat_lit 474) <| List.cons (nat_lit 476) <| List.cons (nat_lit 477) <|
  List.cons (nat_lit 479) <| List.cons (nat_lit 480) <| List.cons (nat_lit 481) <| List.cons (nat_lit 483) <| List.cons (nat_lit 484) <| List.cons (nat_lit 486) <|
  List.cons (nat_lit 487) <| List.cons (nat_lit 488) <| List.cons (nat_lit 489) <| List.cons (nat_lit 490) <| List.cons (nat_lit 491) <| List.cons (nat_lit 492) <|
  List.cons (nat_lit 495) <| List.cons (nat_lit 498) <| List.cons (nat_lit 499) <| List.cons (nat_lit 500) <| List.cons (nat_lit 502) <| List.cons (nat_lit 503) <|
  List.cons (nat_lit 505) <| List.cons (nat_lit 506) <| List.cons (nat_lit 507) <| List.cons (nat_lit 509) <| List.cons (nat_lit 510) <| List.cons (nat_lit 512) <|
  List.cons (nat_lit 513) <| List.cons (nat_lit 514) <| List.cons (nat_lit 517) <| List.cons (nat_lit 518) <| List.cons (nat_lit 519) <| List.cons (nat_lit 522) <|
  List.cons (nat_lit 523) <| List.cons (nat_lit 524) <| List.cons (nat_lit 527) <| List.cons (nat_lit 528) <|
  List.nil
theorem filled : PySem.Challenge.rw_np0064_01 = PySem.Challenge.rw_np0064_01 ∧ heapK = heapK := by k_fill; exact ⟨rfl, rfl⟩
-- the ledger as a map
def put (news : List (Addr × Obj)) (d : Addr) (o : Obj) : List (Addr × Obj) := (d, o) :: news.filter fun p => p.1 != d
theorem mem_put_self (news : List (Addr × Obj)) (d : Addr) (o : Obj) : (d, o) ∈ put news d o := .head _
theorem mem_put_ne {news : List (Addr × Obj)} {d a : Addr} {o x : Obj} (h : (a, x) ∈ news) (n : a ≠ d) : (a, x) ∈ put news d o :=
  .tail _ (List.mem_filter.mpr ⟨h, by simpa using n⟩)
theorem front_ne {news : List (Addr × Obj)} {d : Addr} : ∀ p ∈ news.filter (fun p => p.1 != d), p.1 ≠ d := fun p hp => by simpa using (List.mem_filter.mp hp).2
theorem front {h₀ h : Heap} {L d : Addr} {o : Obj} {news : List (Addr × Obj)} (N : News h₀ L h news) (hm : (d, o) ∈ news) : News h₀ L h ((d, o) :: news.filter fun p => p.1 != d) := fun p hp => by
  rcases List.mem_cons.mp hp with rfl | hp
  · exact N _ hm
  · exact N p (List.mem_filter.mp hp).1
theorem put_upd {news : List (Addr × Obj)} {d : Addr} {o o' : Obj} : Upd d o o' ((d, o) :: news.filter fun p => p.1 != d) (put news d o') := .head front_ne
theorem put_updF {news : List (Addr × Obj)} {d : Addr} {o : Obj} : UpdF d o ((d, o) :: news.filter fun p => p.1 != d) (put news d) := .head front_ne
theorem nsub {h₀ h : Heap} {L : Addr} {news news' : List (Addr × Obj)} (N : News h₀ L h news) (hs : ∀ p ∈ news', p ∈ news) : News h₀ L h news' := fun p hp => N p (hs p hp)
theorem ntl {h₀ h : Heap} {L : Addr} {news : List (Addr × Obj)} {p : Addr × Obj} (N : News h₀ L h (p :: news)) : News h₀ L h news := nsub N fun _ hp => .tail _ hp
theorem mem_tl {α : Type} {a b : α} {l : List α} (h : a ∈ l) : a ∈ b :: l := .tail _ h
theorem mem_ap {α : Type} {a : α} {k l : List α} (h : a ∈ l) : a ∈ k ++ l := List.mem_append_right _ h
theorem mem_inj {h₀ h : Heap} {L a : Addr} {x y : Obj} {news : List (Addr × Obj)} (N : News h₀ L h news) (h1 : (a, x) ∈ news) (h2 : (a, y) ∈ news) : x = y := by
  have e1 := N.get h1; have e2 := N.get h2
  rw [e1] at e2; exact Option.some.inj e2

-- an attribute put into written entries that are letters
theorem isStr_eq {v : Value} {x y : Str} (h1 : v.isStr x = true) (h2 : v.isStr y = true) : x = y := by
  cases v with
  | str s t =>
    have a : (s == x) = true := h1
    have b : (s == y) = true := h2
    exact (eq_of_beq a).symm.trans (eq_of_beq b)
  | _ => cases h1
theorem getL_putL_eq {x : Str} {hsh : Int} {t : Tok} {v : Value} : ∀ {es : List DictEntry}, getL x (putL x hsh (.str x t) v es) = some (some v)
  | [] => by
    have h : (Value.str x t).isStr x = true := beq_self_eq_true x
    simp [getL, putL, h]
  | e :: r => by
    cases h : e.key.isStr x with
    | true => simp [getL, putL, h]
    | false =>
      have ih := @getL_putL_eq x hsh t v r
      simp only [getL, putL, h, Bool.false_eq_true, if_false, List.find?_cons] at ih ⊢
      generalize hq : List.find? (fun e => e.key.isStr x) (putL x hsh (.str x t) v r) = q at ih
      cases q with
      | some e' => simpa using ih
      | none => simp only at ih; split at ih <;> cases ih
theorem any_ref_putL {x : Str} {hsh : Int} {t : Tok} {v : Value} : ∀ {es : List DictEntry}, (putL x hsh (.str x t) v es).any (·.refKey) = es.any (·.refKey)
  | [] => rfl
  | e :: r => by
    cases h : e.key.isStr x with
    | true => simp only [putL, h, if_true, List.any_cons]; rfl
    | false => simp only [putL, h, Bool.false_eq_true, if_false, List.any_cons]; rw [any_ref_putL]
theorem find_putL_ne {x y : Str} {hsh : Int} {t : Tok} {v : Value} (n : y ≠ x) : ∀ {es : List DictEntry}, ((putL x hsh (.str x t) v es).find? (·.key.isStr y)).map (·.val) = (es.find? (·.key.isStr y)).map (·.val)
  | [] => by
    have h : (Value.str x t).isStr y = false := by
      cases q : (Value.str x t).isStr y with
      | false => rfl
      | true => exact absurd (isStr_eq q (beq_self_eq_true x : (Value.str x t).isStr x = true)) n
    simp [putL, h]
  | e :: r => by
    cases h : e.key.isStr x with
    | true =>
      have h2 : e.key.isStr y = false := by
        cases q : e.key.isStr y with
        | false => rfl
        | true => exact absurd (isStr_eq q h) n
      simp [putL, h, List.find?_cons, h2]
    | false =>
      have ih := @find_putL_ne x y hsh t v n r
      simp only [putL, h, Bool.false_eq_true, if_false, List.find?_cons]
      cases e.key.isStr y with
      | true => rfl
      | false => exact ih
theorem getL_is (y : Str) (es : List DictEntry) : getL y es = match (es.find? (·.key.isStr y)).map (·.val) with | some v => some (some v) | none => if es.any (·.refKey) then none else some none := by
  unfold getL
  cases List.find? (fun e => e.key.isStr y) es <;> rfl
theorem getL_putL_ne {x y : Str} {hsh : Int} {t : Tok} {v : Value} {es : List DictEntry} (n : y ≠ x) : getL y (putL x hsh (.str x t) v es) = getL y es := by
  rw [getL_is, getL_is, find_putL_ne n, any_ref_putL]
theorem putL_length {x : Str} {hsh : Int} {t : Tok} {v u : Value} : ∀ {es : List DictEntry}, getL x es = some (some u) → (putL x hsh (.str x t) v es).length = es.length
  | [], h => by simp [getL] at h
  | e :: r, h => by
    cases q : e.key.isStr x with
    | true => simp [putL, q]
    | false =>
      have h' : getL x r = some (some u) := by
        unfold getL at h ⊢
        rw [List.find?_cons, q] at h
        cases f : List.find? (fun e => e.key.isStr x) r with
        | some e' => rw [f] at h; exact h
        | none => rw [f] at h; simp only at h; split at h <;> cases h
      simp [putL, q, putL_length h']

-- lists of ints, dicts by ints
abbrev IK (w : World) : KeyKind PySem.Challenge.pw_np0064_01 w Int := PySem.intKind PySem.Challenge.pw_np0064_01 w
structure TabD (es : List DictEntry) (R O : Addr) (c l k : Int) : Prop where
  rows : getL "rows" es = some (some (.ref R))
  order : getL "order" es = some (some (.ref O))
  current : ∃ t, getL "current" es = some (some (.int c t))
  last : ∃ t, getL "last_number" es = some (some (.int l t))
  mark : ∃ t, getL "last_marker" es = some (some (.int k t))
  other : ∀ x : Str, x ∉ (["rows", "order", "current", "last_number", "last_marker"] : List Str) → getL x es = some none
  len : es.length = 5
structure LiveD (es : List DictEntry) (num : Int) (nm : Str) : Prop where
  number : ∃ t, getL "number" es = some (some (.int num t))
  name : ∃ t, getL "name" es = some (some (.str nm t))
  live : getL "is_live" es = some (some (.bool true))
def LiveBuf (news : List (Addr × Obj)) (b : Addr) (num : Int) (nm : Str) : Prop := ∃ db es n, (b, instObj 359 db) ∈ news ∧ (db, dictOf es n) ∈ news ∧ LiveD es num nm
theorem LiveBuf.mono {news news' : List (Addr × Obj)} {b : Addr} {num : Int} {nm : Str} (h : LiveBuf news b num nm) (hs : ∀ p ∈ news, p ∈ news') : LiveBuf news' b num nm :=
  let ⟨db, es, n, a, c, d⟩ := h; ⟨db, es, n, hs _ a, hs _ c, d⟩
structure Tbl (w : World) (news : List (Addr × Obj)) (t0 dT R O : Addr) (es : List DictEntry) (nT : Nat) (oR : Obj) (vs : List Value) (nO : Nat) (c l k : Int) (kvs : List (Int × Value)) (ns : List Int) : Prop where
  hT : (t0, instObj 490 dT) ∈ news
  hdT : (dT, dictOf es nT) ∈ news
  D : TabD es R O c l k
  hR : (R, oR) ∈ news
  lo : (R == sysModules) = false
  hRd : oR.IsDictOf (IK w) kvs
  hO : (O, listOf vs.toArray nO) ∈ news
  hI : IntsAre vs ns
  ap : R ≠ dT
theorem Tbl.mono {w : World} {news news' : List (Addr × Obj)} {t0 dT R O : Addr} {es : List DictEntry} {nT : Nat} {oR : Obj} {vs : List Value} {nO : Nat} {c l k : Int} {kvs : List (Int × Value)} {ns : List Int}
    (S : Tbl w news t0 dT R O es nT oR vs nO c l k kvs ns) (hs : ∀ p ∈ news, p ∈ news') : Tbl w news' t0 dT R O es nT oR vs nO c l k kvs ns :=
  ⟨hs _ S.hT, hs _ S.hdT, S.D, hs _ S.hR, S.lo, S.hRd, hs _ S.hO, S.hI, S.ap⟩
def Bufs (news : List (Addr × Obj)) (kvs : List (Int × Value)) (ns : List Int) (bf : Int → Addr) (nm : Int → Str) : Prop :=
  ∀ n ∈ ns, valueAt kvs n = some (.ref (bf n)) ∧ LiveBuf news (bf n) n (nm n)
theorem Bufs.mono {news news' : List (Addr × Obj)} {kvs : List (Int × Value)} {ns : List Int} {bf : Int → Addr} {nm : Int → Str} (h : Bufs news kvs ns bf nm) (hs : ∀ p ∈ news, p ∈ news') : Bufs news' kvs ns bf nm :=
  fun n hn => ⟨(h n hn).1, (h n hn).2.mono hs⟩
def findV (bf : Int → Addr) : Option Int → Value
  | none => .none
  | some n => .ref (bf n)
section
variable {prog : Program} {w : World} {A : Around} {E : Value → Shared → Prop} {s : Shared} {env : Env} {h₀ : Heap} {x : Str} {body : List Stmt} {Q : Flow → Shared → Prop}
/-- a turn of a loop that leaves the ledger as it is -/
def RoEnd (h₀ : Heap) (L : Addr) (x : Str) (st : List Str) (m₀ : Str → Option Value) (nx : List (Addr × Obj)) (P : Prop) (s₁ s₂ : Shared) : Prop :=
  ∃ h' tk m', s₂ = { s₁ with heap := h', toks := tk } ∧ Fr h₀ L h' m' ∧ News h₀ L h' nx ∧ (∀ z, z ≠ x → st.contains z = false → m' z = m₀ z) ∧ P
def RoPost (h₀ : Heap) (L : Addr) (x : Str) (st : List Str) (m₀ : Str → Option Value) (nx : List (Addr × Obj)) (P : Prop) (s₁ : Shared) (Q : Flow → Shared → Prop) (f : Flow) (s₂ : Shared) : Prop :=
  match f with
  | .ret v => Q (.ret v) s₂
  | .brk => Q .next s₂
  | _ => RoEnd h₀ L x st m₀ nx P s₁ s₂
theorem RoEnd.intro {L : Addr} {st : List Str} {m₀ m' : Str → Option Value} {nx : List (Addr × Obj)} {P : Prop} {s₁ : Shared} {h' : Heap} {tk : Nat} (F : Fr h₀ L h' m') (N : News h₀ L h' nx) (hm : ∀ z, z ≠ x → st.contains z = false → m' z = m₀ z) (p : P) :
    RoEnd h₀ L x st m₀ nx P s₁ { s₁ with heap := h', toks := tk } := ⟨h', tk, m', rfl, F, N, hm, p⟩
theorem ro_map {st : List Str} {m₁ m₀ : Str → Option Value} {v : Value} (hm : ∀ z, z ≠ x → st.contains z = false → m₁ z = m₀ z) :
    (fun y => if y = x then some v else m₁ y) = fun y => if y = x then some v else if st.contains y = true then m₁ y else m₀ y := by
  funext y
  by_cases h1 : y = x
  · simp [h1]
  · simp only [if_neg h1]
    cases h2 : st.contains y with
    | true => simp
    | false => simp only [Bool.false_eq_true, if_false]; exact hm y h1 h2
theorem ro_mapU {st : List Str} {m₁ m₀ : Str → Option Value} (hm : ∀ z, z ≠ x → st.contains z = false → m₁ z = m₀ z) :
    m₁ = fun y => if y = x then m₁ y else if st.contains y = true then m₁ y else m₀ y := by
  funext y
  by_cases h1 : y = x
  · simp [h1]
  · simp only [if_neg h1]
    cases h2 : st.contains y with
    | true => simp
    | false => simp only [Bool.false_eq_true, if_false]; exact hm y h1 h2
theorem iter_ro {l : Addr} {vs : List Value} {nn : Nat} {m₀ : Str → Option Value} {news : List (Addr × Obj)} (st : List Str) (P : Nat → Prop)
    (hh : A.handled = none) (hl : (l, listOf vs.toArray nn) ∈ news) (F : Fr h₀ env.locals s.heap m₀) (N : News h₀ env.locals s.heap news) (hp : P 0)
    (turn : ∀ i v own (u : Str → Option Value) h tk, vs[i]? = some v → P i → Fr h₀ env.locals h (fun y => if y = x then some v else if st.contains y = true then u y else m₀ y) → News h₀ env.locals h (own ++ news) →
      wpAny (model prog w) A (execs body env) (RoPost h₀ env.locals x st m₀ (own ++ news) (P (i + 1)) { s with heap := h, toks := tk } Q) E { s with heap := h, toks := tk })
    (done : ∀ (u u' : Str → Option Value) h tk, P vs.length → Fr h₀ env.locals h (fun y => if y = x then u y else if st.contains y = true then u' y else m₀ y) → News h₀ env.locals h news → Q .next { s with heap := h, toks := tk }) :
    wpAny (model prog w) A (pyIter (.ref l)) (fun it s₂ => LoopAtV prog w A h₀ env x body Q E it s₂) E s := by
  have hol : s.heap.get? l = some (listOf vs.toArray nn) := (N _ hl).1
  have hls : s.heap.IsList l vs.toArray := ⟨_, hol, rfl, nn, rfl⟩
  have hne : l ≠ s.heap.objs.size := Nat.ne_of_lt (Heap.lt_size hol)
  refine wpAny_pyIter_list hls ?_
  have W := Walks.list (prog := prog) (w := w) hh s.heap.objs.size l hne vs.toArray
  refine ⟨_, _, _, _, _, _, m₀, news, (fun i m nx => nx = news ∧ (∀ z, z ≠ x → st.contains z = false → m z = m₀ z) ∧ P i), rfl, W, ?_, ?_, ?_, ⟨⟨_, Heap.get?_push_size _ rfl, rfl, rfl⟩, hls.at fun o e => Heap.get?_push_of_some _ e⟩, F.push _, (fun p hp => ⟨Heap.get?_push_of_some _ (N p hp).1, (N p hp).2⟩), ⟨rfl, fun _ _ _ => rfl, hp⟩, ?_, ?_⟩
  · intro hm
    rcases List.mem_cons.mp hm with e | hm
    · exact absurd F.ns.lt (e ▸ Nat.lt_irrefl _)
    · exact (N _ hl).2.1 ((List.mem_singleton.mp hm).symm)
  · intro b hb
    rw [List.mem_singleton.mp hb]
    exact next_is_new F
  · intro p hp hI
    exact absurd (Heap.lt_size (N p hp).1) ((List.mem_singleton.mp hI) ▸ Nat.lt_irrefl _)
  · rintro i v m₁ news₁ s₁ own ⟨hh', tk', rfl⟩ hin hP ⟨rfl, hm, hJ⟩ hoff hown hget hfp _ F₁ N₁
    have hx : vs[i]? = some v := by simpa using hP
    have F₂ := F₁
    rw [ro_map hm] at F₂
    refine wpAny_mono (turn i v own m₁ hh' tk' hx hJ F₂ N₁) (fun f s₂ p => ?_) fun _ _ e => e
    have fin : RoEnd h₀ env.locals x st m₀ (own ++ news₁) (P (i + 1)) { s with heap := hh', toks := tk' } s₂ →
        LoopStepU h₀ env.locals [s.heap.objs.size] own (fun m nx => nx = news₁ ∧ (∀ z, z ≠ x → st.contains z = false → m z = m₀ z) ∧ P (i + 1)) { s with heap := hh', toks := tk' } .next s₂ := by
      rintro ⟨h', tk, m', e, F', N', hm', hp'⟩
      exact ⟨rfl, h', tk, m', news₁, e, F', N', hoff, rfl, hm', hp'⟩
    cases f with
    | ret v => exact .ret p
    | brk => exact .brk p
    | next => exact .next (fin p)
    | cont => exact .cont (fin p)
  · rintro h' tk m' news' F' N' _ ⟨rfl, hm, hJ⟩
    rw [ro_mapU hm] at F'
    exact done m' m' h' tk (by simpa using hJ) F' N'
end
theorem find_at {ns : List Int} {p : Int → Bool} : ∀ {i : Nat} {n : Int}, ns[i]? = some n → p n = true → (∀ j, j < i → ∀ n, ns[j]? = some n → p n = false) → ns.find? p = some n := by
  induction ns with
  | nil => intro i n h; simp at h
  | cons x r ih =>
    intro i n h hn hP
    cases i with
    | zero =>
      have e : x = n := by simpa using h
      subst e
      rw [List.find?_cons, hn]
    | succ i =>
      have hx : p x = false := hP 0 (Nat.succ_pos i) x rfl
      rw [List.find?_cons, hx]
      exact ih (by simpa using h) hn fun j hj n' h' => hP (j + 1) (Nat.succ_lt_succ hj) n' (by simpa using h')
theorem find_no {ns : List Int} {p : Int → Bool} (hP : ∀ j, j < ns.length → ∀ n, ns[j]? = some n → p n = false) : ns.find? p = none := by
  rw [List.find?_eq_none]
  intro x hx
  obtain ⟨j, hj, e⟩ := List.getElem_of_mem hx
  rw [hP j hj x (by rw [List.getElem?_eq_getElem hj, e])]
  decide
theorem upto {P : Nat → Prop} {i : Nat} (h : ∀ j, j < i → P j) (h' : P i) : ∀ j, j < i + 1 → P j := fun j hj => by
  rcases Nat.lt_or_eq_of_le (Nat.le_of_lt_succ hj) with q | q
  · exact h j q
  · rw [q]; exact h'
section
variable {prog : Program} {w : World} {A : Around} {E : Value → Shared → Prop} {s : Shared} {K : Frag} {x C dx L D : Addr} {h₀ : Heap} {m : Str → Option Value} {news : List (Addr × Obj)} {es : List DictEntry} {n : Nat} {name : Str} {v old : Value} {vs : List Value} {ns : List Int} {k : Int} {t : Tok}
theorem getL_some_any (h : getL name es = some (some v)) : (getL name es).isSome = true := by rw [h]; rfl
theorem setA {Q : Unit → Shared → Prop} (F : Fr h₀ L s.heap m) (X₀ : K.In h₀) (N : News h₀ L s.heap news) (hx : (x, instObj C dx) ∈ news) (hd : (dx, dictOf es n) ∈ news)
    (hs : findIn K (.ref C) "__setattr__" = some (some (.builtin "object.__setattr__"))) (hp : plainOver K C = true) (ht : takerIn K C name = some none) (hh : hasDictIn K C = true) (hl : getL name es = some (some old)) (hz : es.length ≤ 1000)
    (h : ∀ h' es' n', getL name es' = some (some v) → (∀ y, y ≠ name → getL y es' = getL y es) → es'.length = es.length → Fr h₀ L h' m → News h₀ L h' (put news dx (dictOf es' n')) → Q () { s with heap := h', toks := s.toks + 2 }) :
    wpAny (model prog w) A (setAttr (.ref x) name v) Q E s :=
  set_dict F X₀ (front N hd) ⟨N.get hx, rfl, rfl, N.get hd⟩ rfl hs hp ht hh (getL_some_any hl) rfl put_upd (by rw [putL_length hl]; exact hz)
    fun h' F' N' => h h' _ _ getL_putL_eq (fun y hy => getL_putL_ne hy) (putL_length hl) F' N'
theorem remove_facts (hi : IntsAre vs ns) : k ∈ ns → ∃ j q, kf_at k vs = some j ∧ ki_delL vs j = some q ∧ IntsAre q (ns.erase k) := by
  induction hi with
  | nil => intro h; cases h
  | cons i t hi ih =>
    rename_i vs ns
    intro h
    by_cases e : i = k
    · subst e
      refine ⟨0, vs, ?_, rfl, by rw [List.erase_cons_head]; exact hi⟩
      simp [kf_at, isInt]
    · have h' : k ∈ ns := by
        rcases List.mem_cons.mp h with h | h
        · exact absurd h.symm e
        · exact h
      obtain ⟨j, q, a, b, c⟩ := ih h'
      refine ⟨j + 1, .int i t :: q, ?_, ?_, ?_⟩
      · have e' : (i == k) = false := by simpa using e
        simp [kf_at, isInt, e', a]
      · simp [ki_delL, b]
      · rw [List.erase_cons_tail (by simpa using e)]; exact .cons i t c
theorem ints_all (hi : IntsAre vs ns) : kf_ints vs = true := by
  induction hi with
  | nil => rfl
  | cons i t _ ih => exact ih
theorem list_removeA {Q : Value → Shared → Prop} (F : Fr h₀ L s.heap m) (N : News h₀ L s.heap news) (hm : (D, listOf vs.toArray n) ∈ news) (hi : IntsAre vs ns) (hk : k ∈ ns) (hz : ns.length ≤ 1000)
    (h : ∀ h' vs' n', IntsAre vs' (ns.erase k) → Fr h₀ L h' m → News h₀ L h' (put news D (listOf vs'.toArray n')) → Q .none { s with heap := h' }) :
    wpAny (model prog w) A (call (.builtin "list.remove") [.ref D, .int k t]) Q E s := by
  obtain ⟨j, q, a, b, c⟩ := remove_facts hi hk
  exact kf_remove F (front N hm) (by simpa using ints_all hi) (by simpa using a) (by simpa using b) put_upd (by rw [List.toList_toArray, hi.length, sizeLine_eq]; omega) fun h' F' N' => h h' _ _ c F' N'
theorem list_insertA {Q : Value → Shared → Prop} (F : Fr h₀ L s.heap m) (N : News h₀ L s.heap news) (hm : (D, listOf vs.toArray n) ∈ news) (hi : IntsAre vs ns) (hz : ns.length ≤ 1000) {u : Tok}
    (h : ∀ h' vs' n', IntsAre vs' (k :: ns) → Fr h₀ L h' m → News h₀ L h' (put news D (listOf vs'.toArray n')) → Q .none { s with heap := h' }) :
    wpAny (model prog w) A (call (.builtin "list.insert") [.ref D, .int 0 u, .int k t]) Q E s :=
  kl_insert (l := .int k t :: vs) F (front N hm) rfl (by simp [kl_ins]) put_upd (by rw [List.toList_toArray, hi.length, sizeLine_eq]; omega) fun h' F' N' => h h' _ _ (.cons k t hi) F' N'
theorem list_appendA {Q : Value → Shared → Prop} (F : Fr h₀ L s.heap m) (N : News h₀ L s.heap news) (hm : (D, listOf vs.toArray n) ∈ news) (hz : vs.length ≤ 1000)
    (h : ∀ h' n', Fr h₀ L h' m → News h₀ L h' (put news D (listOf (vs ++ [v]).toArray n')) → Q .none { s with heap := h' }) :
    wpAny (model prog w) A (call (.builtin "list.append") [.ref D, v]) Q E s :=
  append_K (hsz := by rw [List.size_toArray, sizeLine_eq]; omega) F (front N hm) put_upd fun h' F' N' => h h' (n + 1) F' (by rw [List.push_toArray] at N'; exact N')
theorem dict_setA {Kt : Type} [DecidableEq Kt] {knd : KeyKind prog w Kt} {o : Obj} {kvs : List (Kt × Value)} {kk : Kt} {key : Value} {Q : Unit → Shared → Prop} (F : Fr h₀ L s.heap m) (N : News h₀ L s.heap news) (hm : (D, o) ∈ news) (hd : o.IsDictOf knd kvs) (hkey : knd.is kk key = true) (hz : kvs.length ≤ 1000)
    (h : ∀ h' o', o'.IsDictOf knd (stored kvs kk v) → Fr h₀ L h' m → News h₀ L h' (put news D o') → Q () { s with heap := h', toks := s.toks + 1 }) : wpAny (model prog w) A (setItem (.ref D) key v) Q E s :=
  kda_set F (front N hm) put_updF hd hkey (by rw [sizeLine_eq]; omega) fun h' o' F' N' hd' => h h' o' hd' F' N'
theorem dict_popA {Kt : Type} [DecidableEq Kt] {knd : KeyKind prog w Kt} {o : Obj} {kvs : List (Kt × Value)} {kk : Kt} {key : Value} {Q : Value → Shared → Prop} (F : Fr h₀ L s.heap m) (N : News h₀ L s.heap news) (hm : (D, o) ∈ news) (hd : o.IsDictOf knd kvs) (hkey : knd.is kk key = true)
    (hpart : (keyPart key).isSome = true) (hl : valueAt kvs kk = some v) (hz : kvs.length ≤ 1000)
    (h : ∀ h' o', o'.IsDictOf knd (without kvs kk) → Fr h₀ L h' m → News h₀ L h' (put news D o') → Q v { s with heap := h', toks := s.toks + 1 }) : wpAny (model prog w) A (call (.builtin "dict.pop") [.ref D, key]) Q E s :=
  kob_pop (more := []) F (front N hm) put_updF hd hkey (.inl rfl) hpart (PySem.F.args_dict_pop_2 _ _) hl (by rw [sizeLine_eq]; omega) fun h' o' F' N' hd' => h h' o' hd' F' N'
end
theorem ne_obj {h₀ h : Heap} {L a b : Addr} {o p : Obj} {news : List (Addr × Obj)} (N : News h₀ L h news) (h1 : (a, o) ∈ news) (h2 : (b, p) ∈ news) (hne : o.cls ≠ p.cls) : a ≠ b := fun e => by
  subst e
  exact hne (congrArg Obj.cls (mem_inj N h1 h2))
theorem all_cons {p : Addr × Obj} {l : List (Addr × Obj)} {d : Addr} (h : ∀ q ∈ p :: l, q.1 < d) : @LT.lt Nat _ p.1 d ∧ ∀ q ∈ l, q.1 < d := ⟨h p (.head _), fun q hq => h q (.tail _ hq)⟩
theorem all_ne_of_lt {l : List (Addr × Obj)} {d : Addr} (h : ∀ q ∈ l, q.1 < d) : ∀ q ∈ l, q.1 ≠ d := fun q hq => Nat.ne_of_lt (h q hq)
section
variable {es es' : List DictEntry} {R O : Addr} {c l k c' : Int} {t : Tok}
theorem TabD.current_of (D : TabD es R O c l k) (gs : getL "current" es' = some (some (.int c' t))) (go : ∀ y, y ≠ (Str.ofString "current") → getL y es' = getL y es) (gl : es'.length = es.length) : TabD es' R O c' l k :=
  ⟨(go _ (by decide)).trans D.rows, (go _ (by decide)).trans D.order, ⟨t, gs⟩, let ⟨u, h⟩ := D.last; ⟨u, (go _ (by decide)).trans h⟩, let ⟨u, h⟩ := D.mark; ⟨u, (go _ (by decide)).trans h⟩,
    fun x hx => (go x (fun e => hx (by rw [e]; decide))).trans (D.other x hx), gl.trans D.len⟩
theorem TabD.last_of (D : TabD es R O c l k) (gs : getL "last_number" es' = some (some (.int c' t))) (go : ∀ y, y ≠ (Str.ofString "last_number") → getL y es' = getL y es) (gl : es'.length = es.length) : TabD es' R O c c' k :=
  ⟨(go _ (by decide)).trans D.rows, (go _ (by decide)).trans D.order, let ⟨u, h⟩ := D.current; ⟨u, (go _ (by decide)).trans h⟩, ⟨t, gs⟩, let ⟨u, h⟩ := D.mark; ⟨u, (go _ (by decide)).trans h⟩,
    fun x hx => (go x (fun e => hx (by rw [e]; decide))).trans (D.other x hx), gl.trans D.len⟩
theorem TabD.mark_of (D : TabD es R O c l k) (gs : getL "last_marker" es' = some (some (.int c' t))) (go : ∀ y, y ≠ (Str.ofString "last_marker") → getL y es' = getL y es) (gl : es'.length = es.length) : TabD es' R O c l c' :=
  ⟨(go _ (by decide)).trans D.rows, (go _ (by decide)).trans D.order, let ⟨u, h⟩ := D.current; ⟨u, (go _ (by decide)).trans h⟩, let ⟨u, h⟩ := D.last; ⟨u, (go _ (by decide)).trans h⟩, ⟨t, gs⟩,
    fun x hx => (go x (fun e => hx (by rw [e]; decide))).trans (D.other x hx), gl.trans D.len⟩
end
theorem dictOf_cls {prog : Program} {w : World} {Kt : Type} [DecidableEq Kt] {knd : KeyKind prog w Kt} {o : Obj} {kvs : List (Kt × Value)} (h : o.IsDictOf knd kvs) : o.cls = .type "dict" :=
  let ⟨_, _, e, _⟩ := h; e.1
theorem Tbl.apart {w : World} {news : List (Addr × Obj)} {t0 dT R O : Addr} {es : List DictEntry} {nT : Nat} {oR : Obj} {vs : List Value} {nO : Nat} {c l k : Int} {kvs : List (Int × Value)} {ns : List Int} {h₀ h : Heap} {L : Addr}
    (S : Tbl w news t0 dT R O es nT oR vs nO c l k kvs ns) (N : News h₀ L h news) : t0 ≠ dT ∧ t0 ≠ R ∧ t0 ≠ O ∧ dT ≠ O ∧ R ≠ O :=
  ⟨ne_obj N S.hT S.hdT (by simp), ne_obj N S.hT S.hR (by rw [dictOf_cls S.hRd]; simp), ne_obj N S.hT S.hO (by simp), ne_obj N S.hdT S.hO (by simp), ne_obj N S.hR S.hO (by rw [dictOf_cls S.hRd]; simp)⟩
theorem put_put {news : List (Addr × Obj)} {d : Addr} {o o' : Obj} : put (put news d o) d o' = put news d o' := by
  unfold put
  rw [List.filter_cons]
  simp [List.filter_filter]
theorem all_consE {p : Addr × Obj} {l : List (Addr × Obj)} {d : Addr} {C : Prop} (h : ∀ q ∈ p :: l, q.1 < d) (k : @LT.lt Nat _ p.1 d → (∀ q ∈ l, q.1 < d) → C) : C := k (all_cons h).1 (all_cons h).2
theorem all_putE {l : List (Addr × Obj)} {x d : Addr} {o : Obj} {C : Prop} (h : ∀ q ∈ put l x o, q.1 < d) (k : @LT.lt Nat _ x d → (∀ q ∈ l, q.1 < d) → C) : C :=
  k (h _ (mem_put_self l x o)) fun q hq => if e : q.1 = x then e ▸ h _ (mem_put_self l x o) else h q (mem_put_ne (a := q.1) (x := q.2) hq e)
theorem all_ne_put {l : List (Addr × Obj)} {x d : Addr} {o : Obj} (n : d ≠ x) (h : ∀ q ∈ l, q.1 ≠ x) : ∀ q ∈ put l d o, q.1 ≠ x := fun q hq => by
  rcases List.mem_cons.mp hq with rfl | hq
  · exact n
  · exact h q (List.mem_filter.mp hq).1
theorem dlt {a i j m : Nat} (h : a + i < m) (hj : j ≤ i) : a + j < m := Nat.lt_of_le_of_lt (Nat.add_le_add_left hj a) h
theorem room_ok {A : Around} {a i j m : Nat} (h : a + i < m) (e : A.depth = a + j) (hj : j ≤ i) : A.depth < m := e ▸ dlt h hj
theorem dlt2 {a b i j k m : Nat} (h : a + i < m) (hb : b ≤ a + k) (hj : k + j ≤ i) : b + j < m :=
  Nat.lt_of_le_of_lt (Nat.le_trans (Nat.add_le_add_right hb j) (Nat.add_assoc a k j ▸ Nat.add_le_add_left hj a)) h
def Stop (P : Prop) : Prop := P
theorem stopI {P : Prop} (h : Stop P) : P := h
theorem stopE {P : Prop} (h : P) : Stop P := h
theorem stopC {M : Model} {A : Around} {a : Nat} {xs : List Value} {Q E : Value → Shared → Prop} {s : Shared} {l : List Nat} (_ : l.elem a = true) (h : Stop (wpAny M A (call (.ref a) xs) Q E s)) : wpAny M A (call (.ref a) xs) Q E s := h
-- a buffer of the table
structure BA where
  db : Addr
  b : Addr
  dtx : Addr
  tx : Addr
  ce : Addr
  dms : Addr
  ms : Addr
  mr : Addr
structure BufD (es : List DictEntry) (num : Int) (nm : Str) (tx ms : Addr) (lv : Bool) : Prop where
  number : ∃ t, getL "number" es = some (some (.int num t))
  name : ∃ t, getL "name" es = some (some (.str nm t))
  live : getL "is_live" es = some (some (.bool lv))
  text : getL "text" es = some (some (.ref tx))
  markers : getL "markers" es = some (some (.ref ms))
  size : getL "size" es = some none
  len : es.length = 20
structure TxD (es : List DictEntry) (ce : Addr) : Prop where
  cells : getL "cells" es = some (some (.ref ce))
  gs : ∃ t, getL "gap_start" es = some (some (.int 0 t))
  ge : ∃ t, getL "gap_end" es = some (some (.int 8 t))
  size : getL "size" es = some none
structure MsD (es : List DictEntry) (mr : Addr) : Prop where
  rows : getL "rows" es = some (some (.ref mr))
  other : ∀ x : Str, x ≠ (Str.ofString "rows") → getL x es = some none
structure BufO (w : World) (news : List (Addr × Obj)) (A : BA) (num : Int) (nm : Str) (lv : Bool) (mks : List (Int × Value)) : Prop where
  hb : (A.b, instObj 359 A.db) ∈ news
  hdb : ∃ es n, (A.db, dictOf es n) ∈ news ∧ BufD es num nm A.tx A.ms lv
  htx : (A.tx, instObj 108 A.dtx) ∈ news
  hdtx : ∃ es n, (A.dtx, dictOf es n) ∈ news ∧ TxD es A.ce
  hce : ∃ (vs : Array Value) (n : Nat), (A.ce, listOf vs n) ∈ news ∧ vs.size = 8
  hms : (A.ms, instObj 253 A.dms) ∈ news
  hdms : ∃ es n, (A.dms, dictOf es n) ∈ news ∧ MsD es A.mr
  hmr : ∃ o, (A.mr, o) ∈ news ∧ o.IsDictOf (IK w) mks
  lo : (A.mr == sysModules) = false
  ord : @LT.lt Nat _ A.db A.b ∧ @LT.lt Nat _ A.b A.dtx ∧ @LT.lt Nat _ A.dtx A.tx ∧ @LT.lt Nat _ A.tx A.ce ∧ @LT.lt Nat _ A.ce A.dms ∧ @LT.lt Nat _ A.dms A.ms ∧ @LT.lt Nat _ A.ms A.mr
theorem getL_one {x y : Str} {hsh : Int} {t : Tok} {v : Value} (n : x ≠ y) : getL x [⟨hsh, .str y t, v⟩] = some none := by
  have h : (Value.str y t).isStr x = false := by
    cases q : (Value.str y t).isStr x with
    | false => rfl
    | true => exact absurd (isStr_eq q (beq_self_eq_true y : (Value.str y t).isStr y = true)) n
  simp [getL, h]; rfl
abbrev Stx := Lean.Syntax
abbrev Tac := Lean.MacroM Stx
-- the rules' words: each rule below is a lemma's name and a letter a side; these print the tactic that they stand for
def nodY (k : Lean.Name) (l : List Stx) : Stx := .node .none k l.toArray
def wdY (s : String) : Stx := .atom .none s
def nulY (l : List Stx) : Stx := nodY `null l
def tcY (k : String) (l : List Stx) : Stx := nodY ((`Lean.Parser.Tactic).str k) l
def tmY (k : String) (l : List Stx) : Stx := nodY ((`Lean.Parser.Term).str k) l
def idY (n : Lean.Name) : Stx := Lean.mkIdent n
def appY (f : Stx) (l : List Stx) : Stx := if l.isEmpty then f else tmY "app" [f, nulY l]
def kwY (s : String) (l : List Stx := []) : Stx := nodY ((`PySem.W).str ("tactic" ++ s.capitalize ++ String.join (l.map fun _ => "_"))) (wdY s :: l)
def seqY (l : List Stx) : Stx := tcY "tacticSeq" [tcY "tacticSeq1Indented" [nulY (l.intersperse (wdY ";"))]]
def parY (l : List Stx) : Stx := tcY "paren" [wdY "(", seqY l, wdY ")"]
def holY : Stx := tmY "hole" [wdY "_"]
def lftY (x : Stx := wdY "_") : Stx := tmY "syntheticHole" [wdY "?", x]
def argY (x : Lean.Name) (t : Stx) : Stx := tmY "namedArgument" [wdY "(", idY x, wdY ":=", t, wdY ")"]
def byY (t : Stx) : Stx := tmY "byTactic" [wdY "by", seqY [t]]
def withY (k w : String) (l : List Stx) : Stx := tcY k [wdY w, seqY l]
def redY (l : List Stx) : Stx := withY "withReducible" "with_reducible" l
def tryY (t : Stx) : Stx := withY "tacticTry_" "try" [t]
def refY (t : Stx) : Stx := tcY "refine'" [wdY "refine'", t]
def refN (f : Lean.Name) (l : List Stx) : Stx := tcY "refine" [wdY "refine", appY (idY f) l]
def caseY (x : Lean.Name) (t : Stx) : Stx := tcY "case" [wdY "case", nulY [tcY "caseArg" [nodY `Lean.binderIdent [idY x], nulY []]], wdY "=>", seqY [t]]
def firstY (l : List Stx) : Stx := tcY "first" [wdY "first", nulY (l.map fun t => nodY `group [wdY "|", seqY [t]])]
def walkY (s : String) : Stx := nodY `PyProof.Rows.tacticWalk_at_ [wdY "walk_at", Lean.Syntax.mkStrLit s]
def cfgY (l : List Stx := []) : Stx := tcY "optConfig" [nulY l]
def asmY : Stx := tcY "assumption" [wdY "assumption"]
def rflY : Stx := tcY "tacticRfl" [wdY "rfl"]
def decY (c : Stx) : Stx := tcY "decide" [wdY "decide", c]
def extY (t : Stx) : Stx := tcY "exact" [wdY "exact", t]
def introsY : Stx := tcY "intros" [wdY "intros", nulY []]
def introY (l : List Stx) : Stx := tcY "intro" [wdY "intro", nulY l]
def lemsY (l : List Lean.Name) : Stx := if l.isEmpty then nulY [] else nulY [wdY "[", nulY ((l.map fun n => tcY "simpLemma" [nulY [], nulY [], idY n]).intersperse (wdY ",")), wdY "]"]
def atY (h : Option Stx) : Stx := nulY (match h with | some h => [tcY "location" [wdY "at", tcY "locationHyp" [nulY [h]]]] | none => [])
def dsY (l : List Lean.Name) (h : Option Stx := none) : Stx := tcY "dsimp" [wdY "dsimp", cfgY, nulY [], nulY [wdY "only"], lemsY l, atY h]
-- a term by its words: '(' and ')' stand apart, '#' ahead of a string
def atomY (t : String) : Stx := match t.toList with
  | ['_'] => holY
  | '#' :: l => Lean.Syntax.mkStrLit (String.ofList l)
  | c :: _ => if c.isDigit then Lean.Syntax.mkNumLit t else idY t.toName
  | [] => holY
def mkY (x : List Stx) : Stx := match x.reverse with | f :: l => appY f l | [] => holY
def stepY (st : List (List Stx)) (t : String) : List (List Stx) := match st with
  | x :: st => if t == "(" then [] :: x :: st else if t == ")" then (match st with | y :: st => (mkY x :: y) :: st | [] => []) else (atomY t :: x) :: st
  | [] => []
def trm (s : String) : Stx := mkY (((s.splitOn " ").foldl stepY [[]]).headD [])
def patY (s : String) : Stx := redY [tcY "show" [wdY "show", appY (idY `wpAny) [holY, holY, trm s, holY, holY, holY]]]
-- a term that is given at once
def givenY (xs : List Lean.Name) (c : Char) : Option Stx := match c with
  | '_' => some holY
  | '?' => some (lftY)
  | 'R' => some (idY `rfl)
  | 'T' => some (idY `true)
  | 'K' => some (trm "intKind_is _ _ _ _")
  | 'Y' => some (trm "sigK _")
  | 'S' => some (appY (idY `sigK) [worldY])
  | 'C' => some (appY (idY `sigC) [worldY])
  | '<' => some (idY (xs.getD 0 .anonymous))
  | '>' => some (idY (xs.getD 1 .anonymous))
  | _ => none
where worldY : Stx := nodY `«term‹_›» [wdY "‹", idY `World, wdY "›"]
-- how a side is closed
def side0 (c : Char) : Stx := match c with
  | 'A' => kwY "k_asm"
  | 'a' => redY [asmY]
  | 'm' => kwY "k_mem"
  | 'i' => kwY "k_is"
  | 'I' => kwY "k_in"
  | 'L' => kwY "k_all"
  | 'o' => tcY "omega" [wdY "omega", cfgY]
  | 's' => tcY "simp" [wdY "simp", cfgY, nulY [], nulY [], nulY [], nulY []]
  | 'r' => extY (idY `rfl)
  | 'q' => rflY
  | 'W' => withY "withUnfoldingAll" "with_unfolding_all" [rflY]
  | 'd' => decY cfgY
  | 'D' => decY (cfgY [tcY "configItem" [tcY "posConfigItem" [wdY "+", idY `kernel]]])
  | 'u' => kwY "ktr_units"
  | 'v' => kwY "ktr_room"
  | 'p' => asmY
  | 'g' => walkY "mget"
  | 'N' => walkY "ne"
  | _ => asmY
def sub (f : Lean.Name) (s : String) : Stx := extY (appY (idY f) (s.toList.map fun c => (givenY [] c).getD (byY (side0 c))))
def tailIf (c : Char) (l : List Char) : Bool × List Char := match l with
  | x :: l => if x == c then (true, l) else (false, x :: l)
  | [] => (false, [])
-- a lemma and its sides, one letter a side; where no '?' stands, what goes on is the last argument ('.' ahead: nothing goes on); '!' ahead: the goal stays as it is; '@' ahead: a dict by ints; '%' ahead: the lemma itself with_reducible; 'order': the order in which the sides are closed
def fillBy (side : Char → Stx) (f : Lean.Name) (s : String) (order : String := "") (xs : List Lean.Name := []) : List Stx :=
  let (byI, l) := tailIf '@' s.toList
  let (plain, l) := tailIf '!' l
  let (ends, l) := tailIf '.' l
  let (red, l) := tailIf '%' l
  let l := if ends || l.contains '?' then l else l ++ ['?']
  let ps : List (Stx × List Stx) := l.zipIdx.map fun (c, i) => match givenY xs c with
    | some t => (t, [])
    | _ => let x := Lean.Name.mkSimple s!"x{i}"; (lftY (idY x), [caseY x (side c)])
  let as := ps.map (·.1)
  let as := if byI then argY `knd (trm "PySem.intKind _ _") :: as else as
  let ts := if order == "" then ps.flatMap (·.2) else order.toList.flatMap fun o => (ps.getD (o.toNat - 97) (holY, [])).2
  let r := refY (appY (idY f) as)
  (if red then redY [r] else r) :: (ts ++ if plain || ends then [] else [kwY "k_whole"])
-- (a side that comes back to the same rule stands last: the names of the sides are the same there)
def sub' (f : Lean.Name) (s : String) (order : String := "") : Stx := parY (fillBy side0 f ("." ++ s) order)
def side (c : Char) : Stx := match c with
  | 'z' => firstY [side0 'o', side0 's']
  | 'l' => firstY [side0 'a', side0 'r']
  | 'b' => firstY [side0 'p', side0 'r']
  | 'h' => sub `locs "R"
  | 'e' => sub `BindsTo.of_eq "R"
  | 'f' => firstY [sub `BindsTo.of_eq "R", sub `binds_K "IRiRRR"]
  | 'c' => sub `codeRec_news "Appp"
  | 'n' => sub' `mem_put_ne "%mN" "ba"
  | 't' => firstY [side0 'a', sub `ntl "a"]
  | 'j' => sub `sig_apart "ppp"
  | 'k' => sub `in_keeps "pp"
  | 'F' => sub `FnAt.of "Am"
  | 'w' => parY [tcY "rwSeq" [wdY "rw", cfgY, tcY "rwRuleSeq" [wdY "[", nulY [tcY "rwRule" [nulY [], idY `sizeLine_eq]], wdY "]"], nulY []], side0 'o']
  | c => side0 c
def fill (f : Lean.Name) (s : String) (order : String := "") (xs : List Lean.Name := []) : Stx := parY (fillBy side f s order xs)
def dfltY (t : Stx) : Stx := kwY "k_dflt" [t]
def hereY (l : List Stx) : Tac := pure (parY (kwY "k_here" :: l))
def ln (f : Lean.Name) (s : String) : Tac := hereY [dfltY (fill f s)]
def lnI (f : Lean.Name) (s : String) : Tac := hereY [dfltY (fill f s), introsY]
def lnP (p : String) (t : Stx) : Tac := hereY [patY p, dfltY t]
def metL (s : String) : Tac := lnP ("getMethod ( Value.ref _ ) ( Str.ofString #" ++ s ++ " ) _") (fill `kl_method "!am<>" "" [(`PySem.F).str ("slot_list_" ++ s), (`PySem.F).str ("type_list_" ++ s)])
def stopT : Stx := refN `stopI [lftY]
def stopR : Tac := hereY [stopT]
def stopP (p : String) : Tac := hereY [patY p, stopT]
def numsY (l : List Nat) : Stx := l.foldr (fun n t => appY (idY `List.cons) [Lean.Syntax.mkNumLit (toString n), t]) (idY `List.nil)
def stops (l : List Nat) : Tac := hereY [redY [refY (appY (idY `stopC) [argY `l (numsY l), lftY (idY `c), lftY])], caseY `c (dfltY (parY [side0 'r']))]
def dsT (n : Lean.Name) : Tac := pure (dsY [n])
def foldsY : List Stx := [tryY (dsY []), tryY (kwY "k_fold")]
def enterT (f : Lean.Name) (s o : String) : Tac := pure (parY (fillBy side f s o ++ introsY :: foldsY))
def scopedY (n : Lean.Name) : Lean.MacroM Stx := return idY (← Lean.Macro.addMacroScope n)
def alts (l : List Stx) : Tac := pure (firstY l)
def roomY (n : Nat) : Stx := extY (appY (idY `room_ok) [argY `j (Lean.Syntax.mkNumLit (toString n)), byY (side0 'a'), idY `rfl, byY (side0 'd')])
def ltY (h : Stx) : Tac := do
  let n ← scopedY `hlt9
  let one (f : Lean.Name) (l : List Stx) := redY (refN f [h, lftY] :: tcY "clear" [wdY "clear", nulY [h]] :: introY [n, h] :: l)
  return withY "tacticRepeat_" "repeat" [firstY [one `all_putE [], one `all_consE [tryY (dsY [] (some n))]]]
-- what follows a rule that makes an object: its bound is the name at place 'i' of 'n'
def lnLt (p : String) (t : Stx) (n i : Nat) : Tac := do
  let x ← scopedY `l1
  hereY [patY p, dfltY t, introY ((List.range n).map fun j => if j == i then x else holY), tryY (kwY "k_lt" [x])]
def enterC (f : Lean.Name) (s o : String) : Tac := do
  let x ← scopedY `l1; let y ← scopedY `y; let z ← scopedY `z
  let simp := tcY "simp" [wdY "simp", cfgY, nulY [], nulY [wdY "only"], lemsY [`List.cons_append, `List.nil_append], atY (some z)]
  return parY (fillBy side f s o ++ introY (List.replicate 7 holY ++ [z, y] ++ List.replicate 3 holY ++ [x]) :: tryY (kwY "k_lt" [x]) :: kwY "k_cells" [y] :: tryY simp :: foldsY)
-- what leaves class and dict of every object as they were
section
variable {α β : Type}
noncomputable def Quiet : Sem α → Prop
  | .pure _ => True
  | .raise _ => True
  | .unsupported _ => True
  | .finish _ => True
  | .rule _ k => Quiet (k ())
  | .at _ k => Quiet (k ())
  | .load _ _ k => ∀ o, Quiet (k o)
  | .update _ _ f k => (∀ o, (f o).cls = o.cls ∧ (f o).dict = o.dict) ∧ Quiet (k ())
  | .alloc _ k => ∀ a, Quiet (k a)
  | .stack k => ∀ l, Quiet (k l)
  | _ => False
def Shape (h h' : Heap) : Prop := ∀ (a : Nat) o, h.objs[a]? = some o → ∃ o', h'.objs[a]? = some o' ∧ o'.cls = o.cls ∧ o'.dict = o.dict
theorem Shape.refl (h : Heap) : Shape h h := fun _ o e => ⟨o, e, rfl, rfl⟩
theorem Shape.trans {h h₁ h₂ : Heap} (x : Shape h h₁) (y : Shape h₁ h₂) : Shape h h₂ := fun a o e =>
  let ⟨o1, e1, c1, d1⟩ := x a o e; let ⟨o2, e2, c2, d2⟩ := y a o1 e1; ⟨o2, e2, c2.trans c1, d2.trans d1⟩
theorem Shape.push (h : Heap) (o : Obj) : Shape h (h.push o) := fun a x e => by
  refine ⟨x, ?_, rfl, rfl⟩
  have lt : a < h.objs.size := by
    rcases Nat.lt_or_ge a h.objs.size with q | q
    · exact q
    · rw [Array.getElem?_eq_none q] at e; cases e
  obtain ⟨objs, l⟩ := h
  show (objs.push o)[a]? = some x
  rw [Array.getElem?_push_lt lt]
  rw [Array.getElem?_eq_getElem lt] at e
  exact e
theorem Shape.update (h : Heap) (a : Addr) (f : Obj → Obj) (hf : ∀ o, (f o).cls = o.cls ∧ (f o).dict = o.dict) : Shape h (h.update a f) := fun b x e => by
  obtain ⟨objs, l⟩ := h
  have e' : objs[b]? = some x := e
  by_cases q : a = b
  · subst q
    refine ⟨f x, ?_, (hf x).1, (hf x).2⟩
    show (objs.modify a f)[a]? = _
    rw [Array.getElem?_modify]; simp [e']
  · refine ⟨x, ?_, rfl, rfl⟩
    show (objs.modify a f)[b]? = _
    rw [Array.getElem?_modify]; simp [e', q]
theorem Quiet.bind {t : Sem α} {f : α → Sem β} (h : Quiet t) (k : ∀ a, Quiet (f a)) : Quiet (t >>= f) := by
  show Quiet (Sem.bind t f)
  induction t with
  | pure a => exact k a
  | rule _ g ih => exact ih () h
  | «at» _ g ih => exact ih () h
  | load _ _ g ih => exact fun o => ih o (h o)
  | update _ _ _ g ih => exact ⟨h.1, ih () h.2⟩
  | alloc _ g ih => exact fun o => ih o (h o)
  | stack g ih => exact fun o => ih o (h o)
  | raise => trivial
  | unsupported => trivial
  | finish => trivial
  | _ => exact h.elim
theorem Quiet.wp {M : Model} {Γ : PySem.Ctx} {t : Sem α} (h : Quiet t) {Q : α → Pos → Shared → Prop} {E : Value → Pos → Shared → Prop} {H : Heap} : ∀ {p : Pos} {s : Shared}, Shape H s.heap → Sem.wp M Γ t Q E p s → Sem.wp M Γ t (fun a p' s' => Q a p' s' ∧ Shape H s'.heap) E p s := by
  induction t with
  | pure a => intro p s x y; exact ⟨y, x⟩
  | raise e => intro p s x y; exact y
  | unsupported _ => intro p s x y; exact y
  | finish _ => intro p s x y; exact y
  | rule _ k ih => intro p s x y; rw [Sem.wp] at y ⊢; exact ih () h x y
  | «at» _ k ih => intro p s x y; rw [Sem.wp] at y ⊢; exact ih () h x y
  | load _ _ k ih =>
    intro p s x y
    rw [Sem.wp] at y ⊢
    obtain ⟨o, e, y⟩ := y
    exact ⟨o, e, ih o (h o) x y⟩
  | update _ _ f k ih =>
    intro p s x y
    rw [Sem.wp] at y ⊢
    exact ⟨y.1, ih () h.2 (x.trans (Shape.update _ _ _ h.1)) y.2⟩
  | alloc o k ih =>
    intro p s x y
    rw [Sem.wp] at y ⊢
    exact ih _ (h _) (x.trans (Shape.push _ _)) y
  | stack k ih =>
    intro p s x y
    rw [Sem.wp] at y ⊢
    exact ih _ (h _) x y
  | _ => exact h.elim
theorem wpAny_quiet {M : Model} {A : Around} {t : Sem α} {Q : α → Shared → Prop} {E : Value → Shared → Prop} {s : Shared} (hq : Quiet t) (h : wpAny M A t (fun a s' => Shape s.heap s'.heap → Q a s') E s) : wpAny M A t Q E s :=
  fun Γ p hΓ => Sem.wp_mono M Γ t (fun _ _ _ y => y.1 y.2) (fun _ _ _ y => y) p s (hq.wp (Shape.refl _) (h Γ p hΓ))
end
theorem Shape.dict {h h' : Heap} (x : Shape h h') {e : Addr} {oe o' : Obj} {d : Option Addr} (y : h.get? e = some oe) (hd : oe.dict = d) (y' : h'.get? e = some o') : o'.dict = d := by
  have get : ∀ {h : Heap} {o : Obj}, h.get? e = some o → h.objs[e]? = some o := fun {h o} q => by
    unfold Heap.get? at q
    split at q
    · cases q
    · exact q
  obtain ⟨o2, e2, _, d2⟩ := x e oe (get y)
  rw [get y'] at e2
  cases e2
  rw [d2, hd]
theorem quiet_pure {α : Type} (a : α) : Quiet (pure a : Sem α) := trivial
theorem quiet_unsupported {α : Type} (w : String) : Quiet (unsupported w : Sem α) := trivial
theorem quiet_load (a : Addr) : Quiet (load a) := fun _ => trivial
theorem quiet_loadPart (a : Addr) (v : Option Value) : Quiet (loadPart a v) := fun _ => trivial
theorem quiet_stack : Quiet stack := fun _ => trivial
theorem quiet_fieldsOf (v : Value) : Quiet (fieldsOf v) := by
  unfold fieldsOf
  split
  · exact Quiet.bind (quiet_load _) fun o => by split <;> trivial
  · trivial
theorem quiet_field (v : Value) (i : Nat) : Quiet (field v i) := Quiet.bind (quiet_fieldsOf v) fun o => by
  split <;> trivial
theorem mapFields_same (f : Array Value → Array Value) (o : Obj) : (Obj.mapFields f o).cls = o.cls ∧ (Obj.mapFields f o).dict = o.dict := by
  obtain ⟨c, d, da, sl⟩ := o
  cases da <;> exact ⟨rfl, rfl⟩
theorem quiet_update {a : Addr} {f : Obj → Obj} (h : ∀ o, (f o).cls = o.cls ∧ (f o).dict = o.dict) : Quiet (update a f) := ⟨h, trivial⟩
theorem quiet_updateField (a : Addr) (i : Nat) (v : Value) : Quiet (updateField a i v) := Quiet.bind (quiet_load _) fun o => by
  split
  · split
    · exact quiet_update (mapFields_same _)
    · trivial
  · trivial
theorem quiet_setField (v : Value) (i : Nat) (x : Value) : Quiet (setField v i x) := by
  unfold setField
  split
  · exact quiet_updateField _ _ _
  · trivial
theorem quiet_setFlight (e : Value) (f : Option Addr) : Quiet (setFlight e f) := Quiet.bind (quiet_field _ _) fun tb => by
  split
  · exact quiet_setField _ _ _
  · trivial
theorem quiet_newFields (n : String) (vs : List Value) : Quiet (newFields n vs) := by
  have go : Quiet (newObjAsIs (.type n) (.fields vs.toArray) none) := Quiet.bind (show Quiet (alloc _) from fun _ => trivial) fun a => trivial
  unfold newFields newObj
  show Quiet (if _ then (unsupported _ >>= fun (_ : PUnit) => newObjAsIs (.type n) (.fields vs.toArray) none) else newObjAsIs (.type n) (.fields vs.toArray) none)
  split
  · trivial
  · exact go
theorem quiet_readyFrames : ∀ l : List Env, Quiet (readyFrames l)
  | [] => trivial
  | env :: outer => by
    unfold readyFrames
    split
    · refine Quiet.bind (quiet_load _) fun o => ?_
      split
      · trivial
      · refine Quiet.bind ?_ fun i => ?_
        · unfold behindIsImport
          split
          · trivial
          · split
            · trivial
            · exact Quiet.bind (quiet_field _ _) fun _ => trivial
        · refine Quiet.bind ?_ fun b => ?_
          · unfold keptBack
            split
            · split
              · trivial
              · refine Quiet.bind ?_ fun _ => trivial
                unfold underTheClaimsCaller
                exact Quiet.bind quiet_stack fun _ => trivial
            · trivial
          · exact Quiet.bind (quiet_update fun o => ⟨rfl, rfl⟩) fun _ => quiet_readyFrames outer
    · trivial
theorem quiet_frameObject (l : List Env) : Quiet (frameObject l) := by
  cases l with
  | nil => trivial
  | cons env outer => exact Quiet.bind (quiet_readyFrames _) fun _ => trivial
theorem quiet_frameOf (env : Env) : Quiet (PySem.frameOf env) := by
  unfold PySem.frameOf
  refine Quiet.bind (Quiet.bind quiet_stack fun _ => trivial) fun l => ?_
  refine Quiet.bind (quiet_frameObject _) fun o => ?_
  split <;> trivial
theorem quiet_entryPlaceOf (f : Addr) (b : Bool) : Quiet (entryPlaceOf f b) := by
  unfold entryPlaceOf
  refine Quiet.bind quiet_stack fun l => ?_
  split <;> trivial
theorem quiet_noteFrame (e : Value) (env : Env) : Quiet (noteFrame e env) := by
  have go : ∀ head f, Quiet (do setField e 1 (← EntryCells.newEntry head (← frameOf env) .none (rawInt f) .none (← entryPlaceOf f (head != .none)))) := fun head f =>
    Quiet.bind (quiet_frameOf _) fun a => Quiet.bind (quiet_entryPlaceOf _ _) fun b => Quiet.bind (quiet_newFields _ _) fun c => quiet_setField _ _ _
  unfold noteFrame
  split
  · refine Quiet.bind (quiet_field _ _) fun head => ?_
    split
    · refine Quiet.bind (quiet_field _ _) fun q => ?_
      split
      · trivial
      · exact Quiet.bind (quiet_setField _ _ _) fun _ => go _ _
    · exact go _ _
  · trivial
theorem quiet_leaving (e : Value) (env : Env) : Quiet (leaving env e) := Quiet.bind (quiet_noteFrame _ _) fun _ => quiet_setFlight _ _
section
open PySem.Builtin PySem.Builtin.ObjectAttr
abbrev sigMro : List Value := [.ref 378, .type "Exception", .type "BaseException", .type "object"]
theorem sig_refuse (self : Value) : refuseLoop self "__setattr__" sigMro = pure () := by
  rw [refuseLoop_ref]
  kernel_rfl
section
variable {prog : Program} {w : World} {A : Around} {E : Value → Shared → Prop} {s : Shared} {K : Frag} {x L dx : Addr} {h₀ : Heap} {m : Str → Option Value} {news : List (Addr × Obj)} {R : Result → Shared → Prop} {name : Str} {v : Value} {es : List DictEntry} {n : Nat} {tk : Tok}
structure SigK (K : Frag) : Prop where
  mro : (clsIn K 378).map (·.mro) = some sigMro
  dict : (clsIn K 378).any (·.hasDict) = true
  set : findIn K (.ref 378) "__setattr__" = some (some (.builtin "object.__setattr__"))
  get : findIn K (.ref 378) "__getattribute__" = some (some (.builtin "BaseException.__getattribute__"))
  miss : findIn K (.ref 378) "__getattr__" = some none
  init : findIn K (.ref 378) "__init__" = some (some (.ref 375))
  exc : ktsIn K 378 "BaseException" = true
theorem sig_open {ox : Obj} {od : Option Obj} (hK : SigK K) (X : K.In s.heap) (I : InstAt s.heap x ox 378 od) (ht : takerIn K 378 name = some none)
    (h : ∀ b, wpAny (model prog w) A.in1 (storeInOwnDict (.ref x) (.ref 378) (.str name tk) name v b)
      (fun fin s' => match fin with | .done f => R (.ok f) s' | .again c' => c'.quiet = true ∧ codeAny (model prog w) A c' R s') (fun e s' => R (.error e) s') s) :
    codeAny (model prog w) A (.call (.builtin "object.__setattr__") ⟨[.ref x, .str name tk, v], []⟩) R s := by
  have SF := PySem.F.store_object
  obtain ⟨cd, hc, ho⟩ := Option.map_eq_some_iff.mp hK.mro
  have sub : Looks (model prog w) s.heap (isInstance (.ref x) (.type "object")) true := I.type.andThen (looks_mroIn X (by unfold mroIn; rw [hc, Option.bind_some, if_neg (by rw [ho]; decide), ho]; decide))
  refine codeAny_call_builtin SF.slot.plain SF.entry (@check_slot (model prog w) _ _ s "object.__setattr__" "object" "__setattr__" (.ref x) [.str name tk, v] [] _ SF.kind SF.split sub (SF.args (.ref x) (.str name tk) v) ?_)
  obtain ⟨attr, ha, hr⟩ := Option.bind_eq_some_iff.mp ht
  have hm : Looks (model prog w) s.heap (mroOf (.ref 378)) cd.mro := (looks_clsIn X hc).andThen .now
  have L3 : Looks (model prog w) s.heap (storeTaker? attr) none := by
    cases attr with
    | none => exact .now
    | some a =>
      obtain ⟨b, hb, hz⟩ := Option.map_eq_some_iff.mp hr
      refine (looks_takesIn X hb).andThen ?_
      cases b <;> first | exact .now | cases hz
  rw [osa_eq, refuse_eq]
  refine wpAny_bind (wpAny_bind (I.type.here (wpAny_bind (hm.here ?_))))
  rw [ho, sig_refuse]
  refine wpAny_pure (wpAny_bind (I.type.here (wpAny_bind ((looks_findIn X ha).here (wpAny_bind (L3.here ?_))))))
  exact h _
theorem store_tail {Q : Fin → Shared → Prop} (F : Fr h₀ L s.heap m) (N : News h₀ L s.heap ((dx, dictOf es n) :: news)) (h2 : ∀ p ∈ news, p.1 ≠ dx) (hl : (getL name es).isSome = true) (hz : es.length ≤ 900)
    (h : ∀ h', Fr h₀ L h' m → News h₀ L h' ((dx, dictOf (putL name (PyData.keyHash w.params name) (.str name s.toks) v es) (putN name es n)) :: news) → Q (.done (.ret .none)) { s with heap := h', toks := s.toks + 1 }) :
    wpAny (model prog w) A (storeInDict dx (.str name tk) name v) Q E s := by
  have e := putName_dict name (PyData.keyHash w.params name) (.str name s.toks) v es n
  obtain ⟨U1, U2⟩ := news_upd (pre := []) (f := Obj.putName name (PyData.keyHash w.params name) (.str name s.toks) v) F N (fun _ h => nomatch h) h2 e rfl
  have D := (N _ (.head _)).1
  have D' := (U2 _ (.head _)).1
  refine wpAny_bind (wpAny_pure (wpAny_bind ?_))
  unfold nsSet
  refine wpAny_bind (wpAny_bind (wpAny_askSetting (wpAny_pure (wpAny_bind (wpAny_mkText (wpAny_bind (wpAny_loadPart D ?_)))))))
  dsimp only
  have c : (!es.toArray.any (·.key.isStr name) && es.toArray.any (·.refKey)) = false := by
    simp only [List.any_toArray]
    unfold getL at hl
    split at hl
    · rename_i en he
      rw [List.any_eq_true.mpr ⟨en, List.mem_of_find?_eq_some he, List.find?_some he⟩]; rfl
    · split at hl
      · cases hl
      · rename_i z; rw [Bool.not_eq_true] at z; rw [z, Bool.and_false]
  rw [aRefKeyMayBeTheName_at, c]
  refine wpAny_updatePart D ?_
  have hlen : ∀ (es : List DictEntry), (putL name (PyData.keyHash w.params name) (.str name s.toks) v es).length ≤ es.length + 1 := by
    intro es
    induction es with
    | nil => exact Nat.le_refl _
    | cons a r ih => unfold putL; split <;> simp only [List.length_cons] <;> omega
  have := hlen es
  refine wpAny_bind (wpAny_lookBehind D' (pastItsLine_dict (by rw [List.size_toArray, sizeLine_eq]; omega)) ?_)
  exact wpAny_pure (h _ U1 U2)
end
theorem sigK (w : World) : SigK (heapK w.params) := ⟨rfl, rfl, rfl, rfl, rfl, rfl, rfl⟩
end
section
open PySem.Builtin PySem.Builtin.ObjectAttr
abbrev sigObj (t : Addr) : Obj := { cls := .ref 378, data := .fields #[.ref t, .none, .none, .none, .bool false, .none] }
abbrev sigTup (rest : List Value) : Obj := { cls := .type "tuple", data := .seq rest.toArray }
def SigC (K : Frag) : Prop := ∃ nm q N bs hdct sn sub ab col dd k0 k1 k2 k3 k5, K.lookup 378 = some (excClassObj nm q 378 N bs [.type "Exception", .type "BaseException", .type "object"] hdct sn sub ab col dd k0 k1 k2 k3 k5 "Exception.__new__")
theorem sigC (w : World) : SigC (heapK w.params) := ⟨_, _, _, _, _, _, _, _, _, _, _, _, _, _, _, rfl⟩
section
variable {prog : Program} {w : World} {A : Around} {E : Value → Shared → Prop} {K : Frag} {L : Addr} {h₀ : Heap} {m : Str → Option Value} {news : List (Addr × Obj)} {R : Result → Shared → Prop}
theorem sig_type_call {h : Heap} {g : Array GenState} {d : Drawn} {t : Nat} {os : OsState} {rest : List Value} (hK : SigK K) (hC : SigC K) (X : K.In h) (hf : typeIn K (.ref 375) = some (.type "function")) (hrest : rest.length ≤ sizeLine)
    (hq : codeAny (model prog w) (A.under (.builtin "type.__call__" ⟨.ref 378 :: rest, []⟩)) (.call (.ref 375) ⟨.ref (h.objs.size + 1) :: rest, []⟩) (InitBack (h.objs.size + 1) R) ⟨(h.push (sigTup rest)).push (sigObj h.objs.size), g, d, t, os⟩) :
    codeAny (model prog w) A (.call (.ref 378) ⟨rest, []⟩) R ⟨h, g, d, t, os⟩ := by
  obtain ⟨nm, q, N, bs, hdct, sn, sub, ab, col, dd, k0, k1, k2, k3, k5, hl⟩ := hC
  have hC := X _ _ hl
  have F := PySem.F.excBase_Exception
  have f1 := tc_lookup
  have f2 := tc_bind (.ref 378)
  have hT : (⟨h, g, d, t, os⟩ : Shared).TypeIs (.ref 378) "type" := ⟨_, hC, rfl⟩
  refine codeAny_of_tree ?_
  show wpAny _ _ (callAny (.ref 378) _) _ _ _
  repeat (any_goals (first | assumption | with_reducible refine wpAny_loadPart_at hC ?_ | wp_step))
  refine ⟨rfl, ?_⟩
  refine codeAny_call_builtin_at (Code.quiet_builtin _ (by decide +kernel)) entry_typeCall (wpAny_check_type_call_sub hC ?_)
  repeat (first | with_reducible refine wpAny_loadPart_at hC ?_ | with_reducible refine wpAny_madeBy_exc hC ?_ | wp_step)
  refine codeAny_call_builtin_code (Code.quiet_builtin _ F.quiet) (wpAny_check_new_sub F hC ?_)
  refine codeAny_exc_new_sub F hC ?_ hrest
  show wpAny _ _ _ _ _ _
  have hC₁ := Heap.get?_push_of_some (sigObj h.objs.size) (Heap.get?_push_of_some (sigTup rest) hC)
  have hget : ((h.push (sigTup rest)).push (sigObj h.objs.size)).get? (h.objs.size + 1) = some (sigObj h.objs.size) := by heap_get
  have hcC : (Value.ref 378 :: [.type "Exception", .type "BaseException", .type "object"]).contains (.ref 378) = true := by simp
  have X₁ : K.In ((h.push (sigTup rest)).push (sigObj h.objs.size)) := fun a o e => Heap.get?_push_of_some _ (Heap.get?_push_of_some _ (X a o e))
  unfold isInstance
  repeat (first | with_reducible refine wpAny_loadPart_at hget ?_ | wp_step)
  show wpAny _ _ (isSubtype (.ref 378) (.ref 378)) _ _ _
  refine wpAny_isSubtype_exc hC₁ ?_
  rw [hcC]
  repeat wp_step
  show wpAny _ _ (typeLookup (.ref 378) _) _ _ _
  refine (looks_findIn X₁ hK.init).here ?_
  refine wpAny_holding (wpAny_bind ((bind_fn X₁ _ hf).here ?_))
  refine wpAny_bind (wpAny_call (codeAny_mono hq fun r s' z => ?_))
  rcases r with e | (v | _ | _ | _) <;> first | exact z | exact z.elim | skip
  obtain ⟨rfl, z⟩ := z
  repeat (any_goals (first | exact z | wp_step))
theorem sig_make {s : Shared} {Q : Value → Shared → Prop} {rest : List Value} (F : Fr h₀ L s.heap m) (X₀ : K.In h₀) (N : News h₀ L s.heap news) (hK : SigK K) (hC : SigC K) (hf : typeIn K (.ref 375) = some (.type "function")) (hrest : rest.length ≤ sizeLine)
    (h : ∀ x t h', Fr h₀ L h' m → News h₀ L h' ((x, sigObj t) :: (t, sigTup rest) :: news) → (∀ p ∈ news, @LT.lt Nat _ p.1 t) → @LT.lt Nat _ t x →
      codeAny (model prog w) (A.under (.builtin "type.__call__" ⟨.ref 378 :: rest, []⟩)) (.call (.ref 375) ⟨.ref x :: rest, []⟩) (InitBack x fun r s' => match r with | .ok (.ret v) => Q v s' | .ok _ => False | .error e => E e s') { s with heap := h' }) :
    wpAny (model prog w) A (call (.ref 378) rest) Q E s := by
  obtain ⟨hh, g, d, t, os⟩ := s
  refine wpAny_call (sig_type_call hK hC (X₀.keeps F.keep) hf hrest (h _ hh.objs.size _ ((F.push _).push _) ?_ (fun p hp => Heap.lt_size (N p hp).1) (Nat.lt_succ_self _)))
  have := (N.push F (sigTup rest)).push (F.push _) (sigObj hh.objs.size)
  rwa [Heap.size_push] at this
end
end
section
open PySem.Builtin PySem.Builtin.ObjectAttr
abbrev sigIn (t dx : Addr) : Obj := { cls := .ref 378, dict := some dx, data := .fields #[.ref t, .none, .none, .none, .bool false, .none] }
section
variable {prog : Program} {w : World} {A : Around} {E : Value → Shared → Prop} {s : Shared} {K : Frag} {x t L dx : Addr} {h₀ : Heap} {m : Str → Option Value} {news : List (Addr × Obj)} {R : Result → Shared → Prop} {name : Str} {v : Value} {es : List DictEntry} {n : Nat} {Q : Unit → Shared → Prop}
theorem sig_first (F : Fr h₀ L s.heap m) (X₀ : K.In h₀) (hK : SigK K) (N : News h₀ L s.heap ((x, sigObj t) :: news)) (hx : ∀ p ∈ news, p.1 ≠ x) (ht : takerIn K 378 name = some none)
    (h : ∀ dx h' u, Fr h₀ L h' m → News h₀ L h' ((dx, dictOf [⟨PyData.keyHash w.params name, .str name u, v⟩] 1) :: (x, sigIn t dx) :: news) → (∀ p ∈ news, @LT.lt Nat _ p.1 dx) → @LT.lt Nat _ x dx → Q () { s with heap := h', toks := s.toks + 2 }) :
    wpAny (model prog w) A (setAttr (.ref x) name v) Q E s := by
  obtain ⟨hh, g, d, tk, os⟩ := s
  have X := X₀.keeps F.keep
  have I : InstAt hh x (sigObj t) 378 none := ⟨(N _ (.head _)).1, rfl, rfl, trivial⟩
  obtain ⟨cd, hc, hd'⟩ := any_some hK.dict
  refine set_plain X I hK.set (sig_open (s := ⟨hh, g, d, tk + 1, os⟩) hK X I ht fun b => ?_)
  unfold storeInOwnDict
  refine wpAny_bind (wpAny_pure ?_)
  have lt : @LT.lt Nat _ x hh.objs.size := Heap.lt_size (N _ (.head _)).1
  have go : wpAny (model prog w) A.in1 (ownDictForStores (.ref x)) (fun r s' => r = some hh.objs.size ∧ s' = { (⟨hh, g, d, tk, os⟩ : Shared) with heap := (hh.push { cls := .type "dict", data := .dict #[] }).update x fun o => { o with dict := some hh.objs.size }, toks := tk + 1 }) (fun _ _ => False) ⟨hh, g, d, tk + 1, os⟩ := by
    show wpAny _ _ (instanceDict x true) _ _ _
    unfold instanceDict
    refine wpAny_bind (wpAny_loadPart (N _ (.head _)).1 ?_)
    dsimp only
    refine wpAny_bind ((looks_clsIn (h := hh) X hc).at ?_)
    rw [hd']
    refine wpAny_bind (wpAny_alloc ?_)
    refine wpAny_bind (wpAny_update (o := sigObj t) (Heap.get?_push_of_some _ (N _ (.head _)).1) ?_)
    exact wpAny_pure ⟨rfl, rfl⟩
  refine wpAny_bind (wpAny_mono go (fun r s' z => ?_) fun _ _ z => z.elim)
  obtain ⟨rfl, rfl⟩ := z
  have F1 := F.push (o := { cls := .type "dict", data := .dict #[] })
  have N1 := N.push F { cls := .type "dict", data := .dict #[] }
  obtain ⟨U1, U2⟩ := news_upd (pre := [(hh.objs.size, ({ cls := .type "dict", data := .dict #[] } : Obj))]) (f := fun o => { o with dict := some hh.objs.size }) F1 N1 (fun p hp => by
    rw [List.mem_singleton.mp hp]; exact Nat.ne_of_gt lt) hx rfl rfl
  refine store_tail (dx := hh.objs.size) (es := []) (n := 0) (news := (x, sigIn t hh.objs.size) :: news) U1 U2 (fun p hp => ?_) rfl (by decide) fun h' F' N' => ?_
  · rcases List.mem_cons.mp hp with rfl | hp
    · exact Nat.ne_of_lt lt
    · exact Nat.ne_of_lt (Heap.lt_size (N p (.tail _ hp)).1)
  · exact h hh.objs.size h' _ F' N' (fun p hp => Heap.lt_size (N p (.tail _ hp)).1) lt
theorem sig_next (F : Fr h₀ L s.heap m) (X₀ : K.In h₀) (hK : SigK K) (N : News h₀ L s.heap ((dx, dictOf es n) :: (x, sigIn t dx) :: news)) (hx : ∀ p ∈ (x, sigIn t dx) :: news, p.1 ≠ dx) (ht : takerIn K 378 name = some none) (hl : (getL name es).isSome = true) (hz : es.length ≤ 900)
    (h : ∀ h' u, Fr h₀ L h' m → News h₀ L h' ((dx, dictOf (putL name (PyData.keyHash w.params name) (.str name u) v es) (putN name es n)) :: (x, sigIn t dx) :: news) → Q () { s with heap := h', toks := s.toks + 2 }) :
    wpAny (model prog w) A (setAttr (.ref x) name v) Q E s := by
  obtain ⟨hh, g, d, tk, os⟩ := s
  have X := X₀.keeps F.keep
  have I : InstAt hh x (sigIn t dx) 378 (some (dictOf es n)) := ⟨(N _ (.tail _ (.head _))).1, rfl, rfl, (N _ (.head _)).1⟩
  obtain ⟨cd, hc, hd'⟩ := any_some hK.dict
  refine set_plain X I hK.set (sig_open (s := ⟨hh, g, d, tk + 1, os⟩) hK X I ht fun b => ?_)
  unfold storeInOwnDict
  refine wpAny_bind (wpAny_pure (wpAny_bind ?_))
  show wpAny _ _ (instanceDict x true) _ _ _
  unfold instanceDict
  refine wpAny_bind (wpAny_loadPart (N _ (.tail _ (.head _))).1 ?_)
  dsimp only
  refine wpAny_bind ((looks_clsIn (h := hh) X hc).at ?_)
  rw [hd']
  refine wpAny_pure (a := some dx) ?_
  exact store_tail F N hx hl hz fun h' F' N' => h h' _ F' N'
theorem sig_get {expr : Bool} {oe od : Obj} {Q : Value → Shared → Prop} (X : K.In s.heap) (hK : SigK K) (I : InstAt s.heap x oe 378 (some od)) (hf : findObj K 378 (some od) name = some (.value v)) (hh : handedIn v = true)
    (h : Q v { s with toks := s.toks + 1 }) : wpAny (model prog w) A (getAttr (.ref x) name expr) Q E s := by
  obtain ⟨hh', g, d, tk, os⟩ := s
  have L0 := I.type (M := model prog w)
  have L1 := looks_findIn (M := model prog w) X hK.get
  have L2 := looks_find (M := model prog w) X I hf
  have L3 := looks_findIn (M := model prog w) X hK.miss
  obtain ⟨cd, hc, ho⟩ := Option.map_eq_some_iff.mp hK.mro
  have sub : Looks (model prog w) hh' (isInstance (.ref x) (.type "BaseException")) true := I.type.andThen (looks_mroIn X (by unfold mroIn; rw [hc, Option.bind_some, if_neg (by rw [ho]; decide), ho]; decide))
  unfold getAttr getAttrBy
  refine wpAny_bind (wpAny_mkText (wpAny_holding (wpAny_bind (L0.at (wpAny_bind (L1.at ?_))))))
  show wpAny _ _ (getAttrByItsOwn _ _ _ _ _ _) _ _ _
  refine wpAny_bind ((L3.at ?_ : wpAny _ _ (hookBefore (.ref 378)) _ _ _))
  have hx0 : (expr && onTheHeap (Value.builtin "BaseException.__getattribute__")) = false := by cases expr <;> rfl
  refine wpAny_bind (wpAny_attempt (wpAny_holding ?_))
  unfold callGetattribute
  rw [hx0]
  have FB := PySem.F.attr_Exception
  simp only [Bool.false_eq_true, if_false]
  unfold boundAndCalled
  rw [FB.ga.bind]
  refine wpAny_bind (wpAny_pure ?_)
  have hk : builtinKind "BaseException.__getattribute__" = some .slot := by decide +kernel
  have hsplit : splitId "BaseException.__getattribute__" = some ("BaseException", "__getattribute__") := by decide +kernel
  refine wpAny_call (codeAny_call_builtin FB.ga.plain PySem.F.entry_bexc_ga (@check_slot (model prog w) _ _ _ "BaseException.__getattribute__" "BaseException" "__getattribute__" (.ref x) [.str name tk] [] _ hk hsplit sub (PySem.F.args_bexc_ga (.ref x) (.str name tk)) ?_))
  refine wpAny_bind (wpAny_pure ?_)
  refine wpAny_bind (wpAny_pure (wpAny_bind (L0.at (wpAny_bind (L2.at ?_)))))
  refine wpAny_pure ?_
  show wpAny _ _ (handedOut v) _ _ _
  rw [handedOut_of hh]; exact wpAny_pure h
end
end
section
variable {M : Model} {A : Around} {E : Value → Shared → Prop} {s s' : Shared} {K : Frag} {env : Env} {base g g₂ : Heap} {outer : List Env} {L e de t : Addr} {m : Str → Option Value} {od : Obj} {news : List (Addr × Obj)}
def SigUp (K : Frag) (E : Value → Shared → Prop) (v : Value) (s₁ : Shared) : Prop :=
  ∃ a t dx, v = .ref a ∧ K.In s₁.heap ∧ s₁.heap.get? a = some (sigIn t dx) ∧ E (.ref a) s₁
theorem Raise_sig {e : Expr} {pos : Pos} {Q : Flow → Shared → Prop} (hC : SigC K) (hh : A.handled = none)
    (h : wpAny M A (eval e env) (SigUp K E) E s) : wpAny M A (exec (.Raise (some e) none pos) env) Q E s := by
  obtain ⟨nm, q, N, bs, hdct, sn, sub, ab, col, dd, k0, k1, k2, k3, k5, hl⟩ := hC
  have hcB : (Value.ref 378 :: [.type "Exception", .type "BaseException", .type "object"]).contains (.type "BaseException") = true := by decide
  show wpAny M A (do standAt pos; raiseStmt env (some (do let v ← eval e env; standAt pos; pure v)) none) Q E s
  refine wpAny_bind (wpAny_standAt ?_)
  unfold raiseStmt
  dsimp only
  refine wpAny_bind (wpAny_bind (wpAny_mono h (fun v s₁ h₁ => wpAny_bind (wpAny_standAt (wpAny_pure ?_))) fun _ _ x => x))
  obtain ⟨a, t, dx, rfl, X, ha, hE⟩ := h₁
  have hC := X _ _ hl
  obtain ⟨hp, g, d, tk, os⟩ := s₁
  repeat (first | with_reducible refine wpAny_loadPart_at ha ?_ | with_reducible refine wpAny_loadPart_at hC ?_ | (with_reducible refine wpAny_isSubtype_exc hC ?_; rw [hcB]) | wp_step)
  exact wpAny_raiseNew_none hh hE
/-- the exception e, an own one with dict de, flies through the frames l -/
def FlyX (base G : Heap) (l : List Env) (e de : Addr) (news : List (Addr × Obj)) (h : Heap) : Prop :=
  RaisedSN base G l e (.ref 378) news h ∧ G.UpToSlots h ∧ ∃ oe, h.get? e = some oe ∧ oe.dict = some de
theorem fly_first {Q : Unit → Shared → Prop} (B : Below A base outer g) (F : Fr g L s'.heap m) (hf : env.frame = some L) (hk : env.scope.kind = .function) (he : s'.heap.get? e = some (sigIn t de)) (ge : g.get? e = none) (N : News g L s'.heap news) (hne : ∀ q ∈ news, q.1 ≠ e) (hL : e ≠ L)
    (hQ : ∀ h', FlyX base g outer e de news h' → Q () { s' with heap := h' }) : wpAny M (A.deeper env) (leaving env (.ref e)) Q E s' := by
  have K' := pushX B F hf hk
  have hin : ∀ env' ∈ (env :: outer), ∀ b, env'.frame = some b → b ∈ e :: (env :: outer).filterMap (·.frame) := fun env' he b hb => .tail _ (List.mem_filterMap.mpr ⟨env', he, hb⟩)
  have be : base.get? e = none := fresh_of_stays B.stays ge
  have hmem : ∀ {b}, b ∈ (env :: outer).filterMap (·.frame) → b = L ∨ b ∈ outer.filterMap (·.frame) := fun {b} hm => by
    obtain ⟨env', he', hf'⟩ := List.mem_filterMap.mp hm
    rcases List.mem_cons.mp he' with rfl | he'
    · exact .inl (Option.some.inj (hf.symm.trans hf')).symm
    · exact .inr (List.mem_filterMap.mpr ⟨env', he', hf'⟩)
  have st : base.StaysIn (hideAll s'.heap (e :: (env :: outer).filterMap (·.frame))) := fun b o q => hideAll_get _ (K'.stays b o q) fun hm => by
    rcases List.mem_cons.mp hm with rfl | hm
    · rw [be] at q; cases q
    · rw [(K'.frames.mem hm).1] at q; cases q
  have sg : ∀ b o, g.get? b = some o → b ∉ outer.filterMap (·.frame) → (hideAll s'.heap (e :: (env :: outer).filterMap (·.frame))).get? b = some o := fun b o q nm => hideAll_get _ (F.keep b o q) fun hm => by
    rcases List.mem_cons.mp hm with rfl | hm
    · rw [ge] at q; cases q
    · rcases hmem hm with z | z
      · rw [z, kts_self F] at q; cases q
      · exact nm z
  have hl : ∀ q ∈ news, (hideAll s'.heap (e :: (env :: outer).filterMap (·.frame))).get? q.1 = some q.2 ∧ g.get? q.1 = none ∧ base.get? q.1 = none := fun q hq => by
    refine ⟨hideAll_get _ (N q hq).1 fun hm => ?_, (N q hq).2.2, fresh_of_stays B.stays (N q hq).2.2⟩
    rcases List.mem_cons.mp hm with z | hm
    · exact hne q hq z
    · rcases hmem hm with z | z
      · exact (N q hq).2.1 z
      · obtain ⟨o, ho, _⟩ := (B.frames.mem z).2
        rw [(N q hq).2.2] at ho; cases ho
  refine wpAny_quiet (quiet_leaving _ _) ?_
  refine wpAny_leaving_firstW (a0 := .ref t) K'.stack (funFrames_hide K'.frames hin) hf he (fun b o hb => of_hideAll _ hb) (hideAll_none _ (.head _)) rfl rfl rfl fun h' hL' sh => ?_
  obtain ⟨k1, ⟨_, _, k2⟩, k3, k4⟩ := hL'
  have z : ∃ oe, h'.get? e = some oe := let ⟨oe, _, _, _, _, q, _⟩ := k3; ⟨oe, q⟩
  obtain ⟨oe, hoe⟩ := z
  exact hQ h' ⟨⟨_, .ref t, st, sg, hl, k1, hideAll_none _ (.head _), k2, k3⟩, (Heap.UpToSlots.of_keeps F.keep).trans k4, oe, hoe, Shape.dict sh he rfl hoe⟩
theorem fly_on {Q : Unit → Shared → Prop} (B : Below A base outer g) (F : Fr g L g₂ m) (hf : env.frame = some L) (R : FlyX base g₂ (env :: outer) e de news s'.heap)
    (hQ : ∀ h', FlyX base g outer e de news h' → Q () { s' with heap := h' }) : wpAny M (A.deeper env) (leaving env (.ref e)) Q E s' := by
  obtain ⟨⟨Bh, a0, hB, hBG, hl, hfl⟩, hsm, oe, hoe, hde⟩ := R
  have hmem : ∀ {b}, b ∈ (env :: outer).filterMap (·.frame) → b = L ∨ b ∈ outer.filterMap (·.frame) := fun {b} hm => by
    obtain ⟨env', he', hf'⟩ := List.mem_filterMap.mp hm
    rcases List.mem_cons.mp he' with rfl | he'
    · exact .inl (Option.some.inj (hf.symm.trans hf')).symm
    · exact .inr (List.mem_filterMap.mpr ⟨env', he', hf'⟩)
  refine wpAny_quiet (quiet_leaving _ _) ?_
  refine wpAny_leaves_onW (Around.frames_deeper B.stack) hf hfl fun h' x1 x2 sh => ?_
  obtain ⟨o', ho', _⟩ := x1.there
  exact hQ h' ⟨⟨Bh, a0, hB, fun b o q nm => hBG b o (F.keep b o q) (fun hm => by
      rcases hmem hm with z | z
      · rw [z, kts_self F] at q; cases q
      · exact nm z), fun q hq => ⟨(hl q hq).1, kts_none F.keep (hl q hq).2.1, (hl q hq).2.2⟩, x1⟩, (Heap.UpToSlots.of_keeps F.keep).trans (hsm.trans x2), o', ho', Shape.dict sh hoe hde ho'⟩
end
section
variable {prog : Program} {w : World} {A₀ : Around} {E : Value → Shared → Prop} {s' : Shared} {base g G : Heap} {outer : List Env} {L a e de : Addr} {m : Str → Option Value} {name : Str} {scope : Scope} {cd : Value}
  {n : Str} {b₀ : Stmt} {suite : List Stmt} {pos np : Pos} {rest : List ExceptHandler} {Q : Flow → Shared → Prop} {news : List (Addr × Obj)} {KF : Frag}
  {p : Program} {loose : List Str} {mean : ExcName → Option Value} {mg mb : Str → Option Value} {x : Str}
theorem fly_caught (R : FlyX base G (envOf name scope L a cd :: outer) e de news s'.heap) (F : Fr g L G m) (K : Below A₀ base outer g) (XB : KF.In base) (TB : Top p loose mean mg mb base)
    (ex : nsIn KF mainGlobals x = some (some (.ref 378))) (q : ktsIn KF 378 "BaseException" = true)
    (k : ∀ h' g' tk oe ws, KtsTurn (outer.filterMap (·.frame)) g g' → Fr g' L h' (fun y => if y = n then some (.ref e) else m y) → News g' L h' ((e, oe) :: news) → oe.cls = .ref 378 → oe.dict = some de → oe.data = .fields ws → Below A₀ base outer g' → KF.In g' → Top p loose mean mg mb g' →
      wpAny (model prog w) ((A₀.deeper (envOf name scope L a cd)).mark (some (.ref e))) (execs (b₀ :: suite) (envOf name scope L a cd))
        (fun f s₄ => wpAny (model prog w) (A₀.deeper (envOf name scope L a cd)) (do bindName (envOf name scope L a cd) n .none; unbindBehindTheSuite (envOf name scope L a cd) n pos) (fun _ s₅ => Q f s₅) E s₄)
        (AsSuiteRaised (model prog w) ((A₀.deeper (envOf name scope L a cd)).mark (some (.ref e))) (envOf name scope L a cd) n pos (notedBy (model prog w) ((A₀.deeper (envOf name scope L a cd)).mark (some (.ref e))) (envOf name scope L a cd) (cameBackBy (model prog w) (A₀.deeper (envOf name scope L a cd)) (envOf name scope L a cd) E)))
        { s' with heap := h', toks := tk })
    (hk : scope.kind = .function := by rfl) (hlo : (envOf name scope L a cd).kindOf n = some .local := by rfl) (hx : (envOf name scope L a cd).kindOf x = some .globalImplicit := by rfl) (hd : (x == ("__debug__" : Str)) = false := by decide) :
    wpAny (model prog w) (A₀.deeper (envOf name scope L a cd)) (noteFrame (.ref e) (envOf name scope L a cd))
      (fun _ s₂ => wpAny (model prog w) (A₀.deeper (envOf name scope L a cd)) (setFlight (.ref e) none) (fun _ s₃ =>
        wpAny (model prog w) (A₀.deeper (envOf name scope L a cd)) (handleBy (.ref e) (envOf name scope L a cd) (.ExceptHandler (some (.Name x np)) (some n) (b₀ :: suite) pos :: rest)) Q E s₃) E s₂) E s' := by
  obtain ⟨⟨B, a0, hB, hBG, hl, hfl⟩, hsm, oe0, hoe0, hde0⟩ := R
  have hL : B.get? L = none := by
    obtain ⟨_, ⟨L', _, hf, hn', _⟩, _⟩ := hfl.2.2.1
    obtain rfl : L = L' := Option.some.inj hf
    exact hn'
  refine wpAny_quiet (quiet_noteFrame _ _) ?_
  refine wpAny_looks_onW (Around.frames_deeper K.stack) rfl hfl fun h₄ hheld₄ hsm₄ sh₄ => ?_
  refine wpAny_quiet (quiet_setFlight _ _) ?_
  refine wpAny_landsW hheld₄ fun h₅ hheld hsm₅' sh₅ => ?_
  have hsm₅ := hsm₄.trans hsm₅'
  obtain ⟨g₅, T₅, F₅, K₅⟩ := kts_ground K F hBG hheld.1 (hsm.trans hsm₅)
  have X₅ : KF.In g₅ := XB.keeps K₅.stays
  have P₅ : TopRead p loose mg mb g₅ := topRead_of (TB.keeps K₅.stays)
  obtain ⟨ob, hob, hobc⟩ := hheld.there
  obtain ⟨nm, q', N, bs, bm, hdct, sn, sub, ab, col, dd, k0, k1, k2, k3, k5, newId, hC, hbase, hbT⟩ := kts_cls X₅ q
  have hC₅ := F₅.keep _ _ hC
  refine wpAny_handleBy_cons (codeAny_handlers_test (name_K F₅ X₅ P₅ ex ?_ hk hx hd)) (by intro q; cases q)
  refine wpAny_excMatches_sub_self hC₅ hob hobc hbase (codeAny_handlers_suite_as ?_)
  refine wpAny_quiet (quiet_setFlight _ _) ?_
  refine lands_againW hheld fun h₆ hfl₆ hsm₆ sh₆ => ?_
  obtain ⟨g₆, T₆, F₆, K₆⟩ := kts_ground K F hBG hfl₆.1 ((hsm.trans hsm₅).trans hsm₆)
  obtain ⟨oe, ws, hoe, hoec, hoed, _⟩ := hfl₆.first
  have hde : oe.dict = some de := Shape.dict (sh₄.trans (sh₅.trans sh₆)) hoe0 hde0 hoe
  have ne₆ : g₆.get? e = none := T₆.none_ _ (kts_fresh F hBG hfl₆.2.1 fun o ho m => by
    obtain ⟨_, o', ho', hd⟩ := K.frames.mem m
    rw [ho] at ho'
    cases ho'
    obtain ⟨sl, hs⟩ := ((hsm.trans hsm₅).trans hsm₆) _ _ (F.keep _ _ ho) hd
    rw [hoe] at hs
    cases hs
    exact hd _ hoed)
  have N₆ := News.more F₆ News.nil hoe (fun es n q => by rw [hoed] at q; cases q) ne₆
  have Nl : News g₆ L h₆ news := fun q hq => ⟨hfl₆.1 _ _ (hl q hq).1, (fun z => by have := (hl q hq).1; rw [z, hL] at this; cases this), T₆.none_ _ (kts_none F.keep (hl q hq).2.1)⟩
  have X₆ : KF.In g₆ := XB.keeps K₆.stays
  have P₆ : Top p loose mean mg mb g₆ := TB.keeps K₆.stays
  refine stN F₆ (news := _ ++ news) (fun q hq => (List.mem_append.mp hq).elim (N₆ q) (Nl q)) (fun h₇ F₇ N₇ => ?_) hk hlo
  exact k h₇ g₆ _ oe ws T₆ F₇ N₇ hoec hde hoed K₆ X₆ P₆
end
section
variable {prog : Program} {w : World} {A₀ A : Around} {s : Shared} {base h₀ : Heap} {L : Addr} {m : Str → Option Value} {env : Env} {news : List (Addr × Obj)} {K : Frag} {p : Program} {loose : List Str} {mean : ExcName → Option Value} {mg mb : Str → Option Value}
  {R : Result → Shared → Prop} {name qual : Str} {params : Arguments} {body : List Stmt} {scope : Scope} {dV kV doc pm cdv ct oc : Value} {an od : Option Addr} {osl : Array (Option Value)} {f : Addr} {args : Args} {binds : List (Str × Value)}
theorem code_defT (B : Below A₀ base [] h₀) (F : Fr h₀ L s.heap m) (X₀ : K.In h₀) (N : News h₀ L s.heap news) (T : Top p loose mean mg mb h₀) (hA : A.frames = some [env]) (hf : env.frame = some L) (hke : env.scope.kind = .function)
    (ho : K.lookup f = some ⟨oc, od, .func (fnOf name qual params body scope dV kV doc pm an cdv ct), osl⟩) (hcd : codeIn K cdv qual = true) (hroom : A.depth < recursionLimit)
    (hbind : BindsTo s (fnOf name qual params body scope dV kV doc pm an cdv ct) args binds) (hloc : ∀ y ∈ binds, scope.names.lookup y.1 = some .local)
    (h : ∀ g L' h₁, Fr h₀ L g m → Fr g L' h₁ (fun y => binds.reverse.lookup y) → News g L' h₁ news → Below A base [env] g → K.In g → Top p loose mean mg mb g →
      wpAny (model prog w) (A.deeper (envOf qual scope L' f cdv)) (execs body (envOf qual scope L' f cdv))
        (fun fl s' => LeaveS0 ([env].filterMap (·.frame)) h₀ L m g R (match fl with | .ret v => v | _ => .none) s')
        (fun e s' => wpAny (model prog w) (A.deeper (envOf qual scope L' f cdv)) (leaving (envOf qual scope L' f cdv) e) (fun _ s'' => R (.error e) s'') (fun e' s'' => R (.error e') s'') s')
        { s with heap := h₁, toks := s.toks + binds.length })
    (hco : scope.isCoroutine = false) (hgen : scope.isGenerator = false) (hk : scope.kind = .function)
    (hcell : ∀ x ∈ scope.names, x.2 ≠ .cell) : codeAny (model prog w) A (.call (.ref f) args) R s := by
  have X := X₀.keeps F.keep
  refine codeAny_call_def (fd := fnOf name qual params body scope dV kV doc pm an cdv ct) (body := body) (binds := binds) hroom (X _ _ ho) rfl (T.nolimit.keeps F.keep) (codeRec_of X hcd) rfl hbind hcell hloc (fun h₁ hns hk₁ => ?_) hco hgen hk
  obtain ⟨FG, BG, st, _⟩ := groundX (R := R) B F N hA hf hke
  have hmem : ∀ {b}, b ∈ [env].filterMap (·.frame) → b = L := fun {b} hm => by
    obtain ⟨env', he', hf'⟩ := List.mem_filterMap.mp hm
    rw [List.mem_singleton.mp he', hf] at hf'
    exact (Option.some.inj hf').symm
  obtain ⟨oL, es, ep, hLg, hLd, hLk, hLf⟩ := FG.ns
  refine wpAny_mono (h _ s.heap.objs.size h₁ FG ⟨hns, fun b o e => hk₁ b o (of_hideAll _ e), Nat.le_of_eq (hideAll_size _ _)⟩
    (fun p hp => ⟨hk₁ _ _ (N p hp).1, Nat.ne_of_lt (Heap.lt_size (N p hp).1), hideAll_none _ (List.mem_map_of_mem hp)⟩) BG (X₀.keeps st) (T.keeps st)) (fun fl s' hl => ?_) fun _ _ y => y
  obtain ⟨g', L', m', news', T', F', N', k⟩ := hl
  have nL₀ : h₀.get? L = none := kts_self F
  obtain ⟨sl, hs⟩ := T'.up hLg
  refine k ⟨⟨_, es, ep, F'.keep _ _ hs, hLd, hLk, hLf⟩, fun b o e => F'.keep b o (T'.other b o (st b o e) (fun q => by
    rw [hmem q, nL₀] at e
    cases e)), F.above⟩ fun p hp => ⟨(N' p hp).1, fun q => ?_, ?_⟩
  · have := (N' p hp).2.2; rw [q, hs] at this; cases this
  · cases q : h₀.get? p.1 with
    | none => rfl
    | some o =>
      obtain ⟨sl', hs'⟩ := T'.up (st _ _ q)
      have := (N' p hp).2.2
      rw [hs'] at this
      cases this
end
theorem sig_inst {h₀ h : Heap} {L e de : Addr} {oe d : Obj} {ws : Array Value} {news : List (Addr × Obj)} (N : News h₀ L h news) (h1 : (e, oe) ∈ news) (oc : oe.cls = .ref 378) (od : oe.dict = some de) (ow : oe.data = .fields ws) (h2 : (de, d) ∈ news) : PySem.W.InstAt h e oe 378 (some d) :=
  ⟨(N _ h1).1, oc, by unfold notCls; rw [ow], by rw [od]; exact (N _ h2).1⟩
theorem sig_find (w : World) {es : List DictEntry} {n : Nat} {v : Value} (h : getL "symbol" es = some (some v)) : findObj (heapK w.params) 378 (some (dictOf es n)) "symbol" = some (.value v) :=
  findObj_own (attr := none) rfl rfl rfl h
theorem putL_new {x : Str} {hsh : Int} {key v : Value} : ∀ {es : List DictEntry}, es.find? (·.key.isStr x) = none → (putL x hsh key v es).length = es.length + 1
  | [], _ => rfl
  | e :: r, h => by
    rw [List.find?_cons] at h
    cases q : e.key.isStr x with
    | true => rw [q] at h; cases h
    | false =>
      rw [q] at h
      simp [putL, q, putL_new h]
theorem find_none {x : Str} {es : List DictEntry} (h : getL x es = some none) : es.find? (·.key.isStr x) = none := by
  unfold getL at h
  split at h
  · cases h
  · assumption
-- a buffer's attributes while they are set
structure BufP (es : List DictEntry) (num : Int) (nm : Str) (tx ms : Addr) (lv : Bool) (ns : List Str) (k : Nat) : Prop where
  number : ∃ t, getL "number" es = some (some (.int num t))
  name : ∃ t, getL "name" es = some (some (.str nm t))
  text : getL "text" es = some (some (.ref tx))
  markers : getL "markers" es = some (some (.ref ms))
  live : lv = true → getL "is_live" es = some (some (.bool true))
  other : ∀ y, ns.contains y = false → getL y es = some none
  len : es.length = k
theorem not_first {x a : Str} {l : List Str} (h : (x :: l).contains a = false) : a ≠ x ∧ l.contains a = false := by
  rw [List.contains_cons, Bool.or_eq_false_iff] at h
  exact ⟨fun e => by rw [e] at h; simp at h, h.2⟩
section
variable {prog : Program} {w : World} {A : Around} {E : Value → Shared → Prop} {s : Shared} {K : Frag} {x C dx L : Addr} {h₀ : Heap} {m : Str → Option Value} {news : List (Addr × Obj)} {es es' : List DictEntry} {n : Nat} {name : Str} {v : Value} {ns : List Str} {k : Nat} {num : Int} {nm : Str} {tx ms : Addr} {lv : Bool}
theorem BufP.set (P : BufP es num nm tx ms lv ns k) (hn : (["number", "name", "text", "markers", "is_live"] : List Str).contains name = false)
    (go : ∀ y, y ≠ name → getL y es' = getL y es) (l : es'.length = es.length + 1) : BufP es' num nm tx ms lv (name :: ns) (k + 1) := by
  obtain ⟨n1, hn⟩ := not_first hn
  obtain ⟨n2, hn⟩ := not_first hn
  obtain ⟨n3, hn⟩ := not_first hn
  obtain ⟨n4, hn⟩ := not_first hn
  obtain ⟨n5, _⟩ := not_first hn
  exact ⟨(go _ n1.symm).symm ▸ P.number, (go _ n2.symm).symm ▸ P.name, (go _ n3.symm).trans P.text, (go _ n4.symm).trans P.markers, fun e => (go _ n5.symm).trans (P.live e),
    fun y hy => (go y (not_first hy).1).trans (P.other y (not_first hy).2), l.trans (by rw [P.len])⟩
theorem BufP.setLive (P : BufP es num nm tx ms lv ns k) (g : getL "is_live" es' = some (some (.bool true)))
    (go : ∀ y, y ≠ (Str.ofString "is_live") → getL y es' = getL y es) (l : es'.length = es.length + 1) : BufP es' num nm tx ms true ("is_live" :: ns) (k + 1) :=
  ⟨(go (Str.ofString "number") (by decide)).symm ▸ P.number, (go (Str.ofString "name") (by decide)).symm ▸ P.name, (go (Str.ofString "text") (by decide)).trans P.text, (go (Str.ofString "markers") (by decide)).trans P.markers, fun _ => g,
    fun y hy => (go y (not_first hy).1).trans (P.other y (not_first hy).2), l.trans (by rw [P.len])⟩
theorem setP {Q : Unit → Shared → Prop} (F : Fr h₀ L s.heap m) (X₀ : K.In h₀) (N : News h₀ L s.heap (put news dx (dictOf es n))) (hx : (x, instObj C dx) ∈ put news dx (dictOf es n)) (P : BufP es num nm tx ms lv ns k) (hc : ns.contains name = false) (hn : (["number", "name", "text", "markers", "is_live"] : List Str).contains name = false)
    (hs : findIn K (.ref C) "__setattr__" = some (some (.builtin "object.__setattr__"))) (hp : plainOver K C = true) (ht : takerIn K C name = some none) (hh : hasDictIn K C = true) (hz : k < 900)
    (h : ∀ h' es' n', BufP es' num nm tx ms lv (name :: ns) (k + 1) → Fr h₀ L h' m → News h₀ L h' (put news dx (dictOf es' n')) → Q () { s with heap := h', toks := s.toks + 2 }) :
    wpAny (model prog w) A (setAttr (.ref x) name v) Q E s :=
  set_dict F X₀ N ⟨N.get hx, rfl, rfl, N.get (mem_put_self _ _ _)⟩ rfl hs hp ht hh (by rw [P.other _ hc]; rfl) rfl (.head front_ne) (by rw [putL_new (find_none (P.other _ hc)), P.len]; omega)
    fun h' F' N' => h h' _ _ (P.set hn (fun y hy => getL_putL_ne hy) (putL_new (find_none (P.other _ hc)))) F' N'
theorem setPL {Q : Unit → Shared → Prop} (F : Fr h₀ L s.heap m) (X₀ : K.In h₀) (N : News h₀ L s.heap (put news dx (dictOf es n))) (hx : (x, instObj C dx) ∈ put news dx (dictOf es n)) (P : BufP es num nm tx ms lv ns k) (hc : ns.contains "is_live" = false)
    (hs : findIn K (.ref C) "__setattr__" = some (some (.builtin "object.__setattr__"))) (hp : plainOver K C = true) (ht : takerIn K C "is_live" = some none) (hh : hasDictIn K C = true) (hz : k < 900)
    (h : ∀ h' es' n', BufP es' num nm tx ms true ("is_live" :: ns) (k + 1) → Fr h₀ L h' m → News h₀ L h' (put news dx (dictOf es' n')) → Q () { s with heap := h', toks := s.toks + 2 }) :
    wpAny (model prog w) A (setAttr (.ref x) (Str.ofString "is_live") (.bool true)) Q E s :=
  set_dict F X₀ N ⟨N.get hx, rfl, rfl, N.get (mem_put_self _ _ _)⟩ rfl hs hp ht hh (by rw [P.other _ hc]; rfl) rfl (.head front_ne) (by rw [putL_new (find_none (P.other _ hc)), P.len]; omega)
    fun h' F' N' => h h' _ _ (P.setLive getL_putL_eq (fun y hy => getL_putL_ne hy) (putL_new (find_none (P.other _ hc)))) F' N'
end
theorem getL_cons_ne {x y : Str} {hsh : Int} {t : Tok} {v : Value} {r : List DictEntry} (n : x ≠ y) : getL x (⟨hsh, .str y t, v⟩ :: r) = getL x r := by
  have h : (Value.str y t).isStr x = false := by
    cases q : (Value.str y t).isStr x with
    | false => rfl
    | true => exact absurd (isStr_eq q (beq_self_eq_true y : (Value.str y t).isStr y = true)) n
  unfold getL
  rw [List.find?_cons_of_neg (by simp [h]), List.any_cons]
  rfl
theorem BufP.four {h1 h2 h3 h4 : Int} {t1 t2 t3 t4 tn tq : Tok} {num : Int} {nm : Str} {tx ms : Addr} :
    BufP [⟨h1, .str "number" t1, .int num tn⟩, ⟨h2, .str "name" t2, .str nm tq⟩, ⟨h3, .str "text" t3, .ref tx⟩, ⟨h4, .str "markers" t4, .ref ms⟩] num nm tx ms false ["number", "name", "text", "markers"] 4 :=
  ⟨⟨_, rfl⟩, ⟨_, rfl⟩, rfl, rfl, fun e => (nomatch e), fun y hy => by
    obtain ⟨n1, hy⟩ := not_first hy
    obtain ⟨n2, hy⟩ := not_first hy
    obtain ⟨n3, hy⟩ := not_first hy
    obtain ⟨n4, _⟩ := not_first hy
    rw [getL_cons_ne n1, getL_cons_ne n2, getL_cons_ne n3, getL_cons_ne n4]
    rfl, rfl⟩
theorem at_ {α : Type} {l : List α} {a : α} (i : Nat) (h : l[i]? = some a) : a ∈ l := List.mem_of_getElem? h
structure BufM (w : World) (news : List (Addr × Obj)) (A : BA) : Prop where
  hb : (A.b, instObj 359 A.db) ∈ news
  htx : (A.tx, instObj 108 A.dtx) ∈ news
  hdtx : ∃ es n, (A.dtx, dictOf es n) ∈ news ∧ TxD es A.ce
  hce : ∃ (vs : Array Value) (n : Nat), (A.ce, listOf vs n) ∈ news ∧ vs.size = 8
  hms : (A.ms, instObj 253 A.dms) ∈ news
  hdms : ∃ es n, (A.dms, dictOf es n) ∈ news ∧ MsD es A.mr
  hmr : ∃ o, (A.mr, o) ∈ news ∧ o.IsDictOf (IK w) []
  lo : (A.mr == sysModules) = false
  ord : @LT.lt Nat _ A.db A.b ∧ @LT.lt Nat _ A.b A.dtx ∧ @LT.lt Nat _ A.dtx A.tx ∧ @LT.lt Nat _ A.tx A.ce ∧ @LT.lt Nat _ A.ce A.dms ∧ @LT.lt Nat _ A.dms A.ms ∧ @LT.lt Nat _ A.ms A.mr
theorem buf_done {w : World} {news : List (Addr × Obj)} {A : BA} {num : Int} {q : Str} {es : List DictEntry} {n k : Nat} {ns : List Str} (M : BufM w news A) (P : BufP es num q A.tx A.ms true ns k) (hs : ns.contains "size" = false) (hk : k = 20) :
    BufO w (put news A.db (dictOf es n)) A num q true [] := by
  obtain ⟨m1, m2, ⟨e1, n1, m3, d1⟩, ⟨vs, n2, m4, d2⟩, m5, ⟨e2, n3, m6, d3⟩, ⟨o, m7, d4⟩, lo, o1, o2, o3, o4, o5, o6, o7⟩ := M
  have u2 := Nat.lt_trans o1 o2
  have u3 := Nat.lt_trans u2 o3
  have u4 := Nat.lt_trans u3 o4
  have u5 := Nat.lt_trans u4 o5
  have u6 := Nat.lt_trans u5 o6
  have u7 := Nat.lt_trans u6 o7
  exact ⟨mem_put_ne m1 (Nat.ne_of_gt o1), ⟨es, n, mem_put_self _ _ _, P.number, P.name, P.live rfl, P.text, P.markers, P.other _ hs, P.len.trans hk⟩, mem_put_ne m2 (Nat.ne_of_gt u3), ⟨e1, n1, mem_put_ne m3 (Nat.ne_of_gt u2), d1⟩,
    ⟨vs, n2, mem_put_ne m4 (Nat.ne_of_gt u4), d2⟩, mem_put_ne m5 (Nat.ne_of_gt u6), ⟨e2, n3, mem_put_ne m6 (Nat.ne_of_gt u5), d3⟩, ⟨o, mem_put_ne m7 (Nat.ne_of_gt u7), d4⟩, lo, o1, o2, o3, o4, o5, o6, o7⟩
theorem buf_mid {w : World} {h₀ h' : Heap} {L : Addr} {news : List (Addr × Obj)} {mr ms dms ce j1 j2 j3 tx dtx j4 b db : Addr} {omr oj1 oj2 oj3 oj4 : Obj} {e1 e2 e3 : List DictEntry} {n1 n2 n3 n4 kk : Nat} {vs : Array Value} {C : Prop} {num : Int} {q : Str} {ks : List Str}
    (N : News h₀ L h' ((mr, omr) :: (ms, instObj 253 dms) :: (dms, dictOf e1 n1) :: (ce, listOf vs n2) :: (j1, oj1) :: (j2, oj2) :: (j3, oj3) :: (tx, instObj 108 dtx) :: (dtx, dictOf e2 n3) :: (j4, oj4) :: (b, instObj 359 db) :: (db, dictOf e3 n4) :: news))
    (h1 : MsD e1 mr) (h2 : vs.size = 8) (h3 : TxD e2 ce) (h4 : BufP e3 num q tx ms false ks kk) (h5 : omr.IsDictOf (IK w) []) (lo : (mr == sysModules) = false)
    (o1 : @LT.lt Nat _ db b) (o2 : @LT.lt Nat _ b dtx) (o3 : @LT.lt Nat _ dtx tx) (o4 : @LT.lt Nat _ tx ce) (o6 : @LT.lt Nat _ ce dms) (o7 : @LT.lt Nat _ dms ms) (o8 : @LT.lt Nat _ ms mr)
    (k : ∀ news' es n, News h₀ L h' (put news' db (dictOf es n)) → BufP es num q tx ms false ks kk → (∀ p ∈ news, p ∈ news') → (b, instObj 359 db) ∈ news' → BufM w news' ⟨db, b, dtx, tx, ce, dms, ms, mr⟩ → C) : C :=
  k _ _ _ (front N (at_ 11 rfl)) h4 (fun p hp => (List.mem_append_right [(mr, omr), (ms, instObj 253 dms), (dms, dictOf e1 n1), (ce, listOf vs n2), (j1, oj1), (j2, oj2), (j3, oj3), (tx, instObj 108 dtx), (dtx, dictOf e2 n3), (j4, oj4), (b, instObj 359 db), (db, dictOf e3 n4)] hp :)) (at_ 10 rfl)
    ⟨at_ 10 rfl, at_ 7 rfl, ⟨e2, n3, at_ 8 rfl, h3⟩, ⟨vs, n2, at_ 3 rfl, h2⟩, at_ 1 rfl, ⟨e1, n1, at_ 2 rfl, h1⟩, ⟨omr, at_ 0 rfl, h5⟩, lo, o1, o2, o3, o4, o6, o7, o8⟩
theorem up_put {news news' : List (Addr × Obj)} {d : Addr} {o : Obj} (h : ∀ p ∈ news, p ∈ news') (l : ∀ p ∈ news, @LT.lt Nat _ p.1 d) : ∀ p ∈ news, p ∈ put news' d o := fun p hp => mem_put_ne (h p hp) (Nat.ne_of_lt (l p hp))
def TurnEnd (Rst : Shared → Prop) (Q : Flow → Shared → Prop) (f : Flow) (s : Shared) : Prop :=
  match f with
  | .next => Rst s
  | .cont => Rst s
  | .brk => Q .next s
  | .ret v => Q (.ret v) s
theorem while_ind {prog : Program} {w : World} {A : Around} {E : Value → Shared → Prop} {s : Shared} {env : Env} {test : PySem.Expr} {body orelse : List Stmt} {pos : Pos} {Q : Flow → Shared → Prop} {α : Type} (μ : α → Nat) (I : α → Shared → Prop) (hE : PassesOwn (model prog w) A env E)
    (turn : ∀ (Rst : Shared → Prop) a s, I a s → (∀ a' s', μ a' < μ a → I a' s' → Rst s') →
      wpAny (model prog w) A (isTrue test env (eval test env)) (fun b s₂ => WhlIf b (wpAny (model prog w) A (execs body env) (TurnEnd Rst Q) E s₂) (wpAny (model prog w) A (execs orelse env) Q E s₂)) E s)
    (a : α) (h : I a s) : wpAny (model prog w) A (exec (.While test body orelse pos) env) Q E s := by
  refine whl_start 0 ?_
  have conv : ∀ {s}, wpAny (model prog w) A (isTrue test env (eval test env)) (fun b s₂ => WhlIf b (wpAny (model prog w) A (execs body env) (TurnEnd (WhlRest prog w A E env test body orelse Q 0) Q) E s₂) (wpAny (model prog w) A (execs orelse env) Q E s₂)) E s → WhlRest prog w A E env test body orelse Q 1 s := fun {s} h => whl_turn (k := 0) hE (wpAny_mono h (fun b s₂ h₂ => by
    cases b with
    | false => exact h₂
    | true => exact wpAny_mono (show wpAny _ _ _ (TurnEnd _ Q) _ _ from h₂) (fun f s₃ h₃ => by cases f <;> exact h₃) fun _ _ z => z) fun _ _ z => z)
  have go : ∀ n a s, μ a ≤ n → I a s → WhlRest prog w A E env test body orelse Q 0 s := by
    intro n
    induction n with
    | zero => exact fun a s l i => conv (turn _ a s i fun a' s' l' _ => absurd (Nat.lt_of_lt_of_le l' l) (Nat.not_lt_zero _))
    | succ n ih => exact fun a s l i => conv (turn _ a s i fun a' s' l' i' => ih a' s' (Nat.le_of_lt_succ (Nat.lt_of_lt_of_le l' l)) i')
  exact go (μ a) a s (Nat.le_refl _) h
theorem while_cnt {prog : Program} {w : World} {A : Around} {E : Value → Shared → Prop} {s : Shared} {env : Env} {test : PySem.Expr} {body orelse : List Stmt} {pos : Pos} {Q : Flow → Shared → Prop} {h₀ : Heap} {news : List (Addr × Obj)} {m₀ : Str → Option Value} {x : Str} (y : Str) {c₀ : Int} {t₀ : Tok}
    (P : Nat → Prop) (K : Nat) (hE : PassesOwn (model prog w) A env E) (F : Fr h₀ env.locals s.heap (fun z => if z = x then some (.int c₀ t₀) else m₀ z)) (N : News h₀ env.locals s.heap news) (hp : P 0) (hK : ∀ i, P i → i ≤ K)
    (turn : ∀ (Rst : Shared → Prop) (i : Nat) t u h tk, P i → Fr h₀ env.locals h (fun z => if z = x then some (.int (c₀ + i) t) else if z = y then u else m₀ z) → News h₀ env.locals h news →
      (∀ h' tk' t' m', P (i + 1) → Fr h₀ env.locals h' m' → m' x = some (.int (c₀ + i + 1) t') → (∀ z, z ≠ x → z ≠ y → m' z = m₀ z) → News h₀ env.locals h' news → Rst { s with heap := h', toks := tk' }) →
      wpAny (model prog w) A (isTrue test env (eval test env)) (fun b s₂ => WhlIf b (wpAny (model prog w) A (execs body env) (TurnEnd Rst Q) E s₂) (wpAny (model prog w) A (execs orelse env) Q E s₂)) E { s with heap := h, toks := tk }) :
    wpAny (model prog w) A (exec (.While test body orelse pos) env) Q E s := by
  refine while_ind (α := Nat) (fun i => K + 1 - i) (fun i s₁ => ∃ h tk t u, s₁ = { s with heap := h, toks := tk } ∧ P i ∧ Fr h₀ env.locals h (fun z => if z = x then some (.int (c₀ + i) t) else if z = y then u else m₀ z) ∧ News h₀ env.locals h news) hE ?_ 0 ?_
  · rintro Rst i s₁ ⟨h, tk, t, u, rfl, p, F', N'⟩ rest
    refine turn Rst i t u h tk p F' N' fun h' tk' t' m' p' F2 e1 e2 N2 => rest (i + 1) _ ?_ ⟨h', tk', t', m' y, rfl, p', ?_, N2⟩
    · have := hK i p; have := hK (i + 1) p'; omega
    · have e : m' = fun z => if z = x then some (.int (c₀ + (i + 1 : Nat)) t') else if z = y then m' y else m₀ z := by
        funext z
        by_cases h1 : z = x
        · subst h1; simp only [if_true]; rw [e1]; congr 2; omega
        · by_cases h2 : z = y
          · subst h2; simp [h1]
          · simp only [if_neg h1, if_neg h2]; exact e2 z h1 h2
      rw [e] at F2
      exact F2
  · refine ⟨s.heap, s.toks, t₀, m₀ y, rfl, hp, ?_, N⟩
    have e : (fun z => if z = x then some (.int c₀ t₀) else m₀ z) = fun z => if z = x then some (Value.int (c₀ + (0 : Nat)) t₀) else if z = y then m₀ y else m₀ z := by
      funext z
      by_cases h1 : z = x
      · simp [h1]
      · by_cases h2 : z = y
        · subst h2; simp [h1]
        · simp [h1, h2]
    rw [e] at F
    exact F
def candS (q : Str) (n : Int) : Str := Str.empty ++ q ++ Str.ofString "<" ++ Str.ofString (toString n) ++ Str.ofString ">"
def okB (ns : List Int) (nm : Int → Str) (g x : Str) : Bool := x == g || (ns.find? fun n => nm n == x).isNone
def FreshIs (ns : List Int) (nm : Int → Str) (q g r : Str) : Prop :=
  (okB ns nm g q = true ∧ r = q) ∨ (okB ns nm g q = false ∧ ∃ i : Nat, r = candS q (2 + i) ∧ okB ns nm g (candS q (2 + i)) = true ∧ ∀ j : Nat, j < i → okB ns nm g (candS q (2 + j)) = false)
theorem isnot_news {M : Model} {A : Around} {E : Value → Shared → Prop} {s : Shared} {Q : Value → Shared → Prop} {h₀ : Heap} {L x y : Addr} {ox oy : Obj} {news : List (Addr × Obj)} (N : News h₀ L s.heap news) (hx : (x, ox) ∈ news) (hy : (y, oy) ∈ news) (n : x ≠ y) (c : ox.cls ≠ .type "tuple") (h : Q (.bool true) s) : wpAny M A (compareOp .IsNot (.ref x) (.ref y)) Q E s :=
  wpAny_isNot_ref_other n (N _ hx).1 (N _ hy).1 c h
theorem ne_lt {l : List (Addr × Obj)} {a d : Addr} {o : Obj} (h : ∀ q ∈ l, @LT.lt Nat _ q.1 d) (hm : (a, o) ∈ l) : a ≠ d := Nat.ne_of_lt (h _ hm)
theorem ne_gt {l : List (Addr × Obj)} {a d : Addr} {o : Obj} (h : ∀ q ∈ l, @LT.lt Nat _ q.1 d) (hm : (a, o) ∈ l) : d ≠ a := Nat.ne_of_gt (h _ hm)
theorem ne_lt2 {l : List (Addr × Obj)} {a d x : Addr} {o : Obj} (h : ∀ q ∈ l, @LT.lt Nat _ q.1 d) (h2 : @LT.lt Nat _ d x) (hm : (a, o) ∈ l) : a ≠ x := Nat.ne_of_lt (Nat.lt_trans (h _ hm) h2)
theorem ne_gt2 {l : List (Addr × Obj)} {a d x : Addr} {o : Obj} (h : ∀ q ∈ l, @LT.lt Nat _ q.1 d) (h2 : @LT.lt Nat _ d x) (hm : (a, o) ∈ l) : x ≠ a := Nat.ne_of_gt (Nat.lt_trans (h _ hm) h2)
abbrev LtA (a b : Addr) : Prop := @LT.lt Nat _ a b
def Ext (mods : List Addr) (news news' : List (Addr × Obj)) : Prop := ∀ p ∈ news, p.1 ∉ mods → p ∈ news'
def Frame (O tt : Addr) (news news' : List (Addr × Obj)) : Prop := ∀ p ∈ news, (p.2.cls ≠ .type "dict" ∧ p.1 ≠ O ∨ p.1 = tt) → p ∈ news'
theorem Frame.refl (O tt : Addr) (news : List (Addr × Obj)) : Frame O tt news news := fun _ h _ => h
theorem Frame.trans {O tt : Addr} {a b c : List (Addr × Obj)} (x : Frame O tt a b) (y : Frame O tt b c) : Frame O tt a c := fun p h k => y p (x p h k) k
theorem Frame.of_sub {O tt : Addr} {a b : List (Addr × Obj)} (x : ∀ p ∈ a, p ∈ b) : Frame O tt a b := fun p h _ => x p h
theorem Ext.refl (news : List (Addr × Obj)) : Ext [] news news := fun _ h _ => h
theorem Ext.put {mods : List Addr} {news news' : List (Addr × Obj)} {d : Addr} {o : Obj} (x : Ext mods news news') : Ext (d :: mods) news (put news' d o) := fun p h k =>
  mem_put_ne (x p h fun z => k (.tail _ z)) fun z => k (z ▸ .head _)
theorem Ext.sub {mods : List Addr} {a b c : List (Addr × Obj)} (x : Ext mods a b) (y : ∀ p ∈ b, p ∈ c) : Ext mods a c := fun p h k => y p (x p h k)
theorem Ext.frame {mods : List Addr} {news news' : List (Addr × Obj)} {O tt : Addr} {h₀ h : Heap} {L : Addr} (N : News h₀ L h news) (x : Ext mods news news') (h1 : ∀ d ∈ mods, d ≠ tt ∧ (d = O ∨ ∃ o, (d, o) ∈ news ∧ o.cls = .type "dict")) : Frame O tt news news' := fun p hp k => x p hp fun hm => by
  obtain ⟨n1, h2⟩ := h1 _ hm
  rcases k with ⟨k1, k2⟩ | k
  · rcases h2 with h2 | ⟨o, ho, hc⟩
    · exact k2 h2
    · have := mem_inj N hp ho
      exact k1 (this ▸ hc)
  · exact n1 k
structure MA where
  dm : Addr
  mi : Addr
structure MkD (es : List DictEntry) (num : Int) (bv : Value) (ps : Int) : Prop where
  number : ∃ t, getL "number" es = some (some (.int num t))
  buffer : getL "buffer" es = some (some bv)
  pos : ∃ t, getL "position" es = some (some (.int ps t))
  len : es.length = 4
structure MkO (news : List (Addr × Obj)) (A : MA) (num : Int) (bv : Value) (ps : Int) : Prop where
  hi : (A.mi, instObj 185 A.dm) ∈ news
  hd : ∃ es n, (A.dm, dictOf es n) ∈ news ∧ MkD es num bv ps
  ord : LtA A.dm A.mi
theorem BufO.ext {w : World} {news news' : List (Addr × Obj)} {A : BA} {num : Int} {nm : Str} {lv : Bool} {mks : List (Int × Value)} {mods : List Addr} (h : BufO w news A num nm lv mks) (e : Ext mods news news') (hm : ∀ x ∈ mods, LtA x A.db ∨ LtA A.mr x) : BufO w news' A num nm lv mks := by
  obtain ⟨h1, ⟨es1, n1, h2, h2'⟩, h3, ⟨es2, n2, h4, h4'⟩, ⟨vs, n3, h5, h5'⟩, h6, ⟨es3, n4, h7, h7'⟩, ⟨o, h8, h8'⟩, lo, ord⟩ := h
  obtain ⟨o1, o2, o3, o4, o5, o6, o7⟩ := ord
  have no : ∀ {x : Addr}, A.db ≤ x → x ≤ A.mr → x ∉ mods := fun l r z => (hm _ z).elim (fun q => Nat.lt_irrefl _ (Nat.lt_of_lt_of_le q l)) fun q => Nat.lt_irrefl _ (Nat.lt_of_lt_of_le q r)
  have u2 := Nat.lt_trans o1 o2
  have u3 := Nat.lt_trans u2 o3
  have u4 := Nat.lt_trans u3 o4
  have u5 := Nat.lt_trans u4 o5
  have u6 := Nat.lt_trans u5 o6
  have u7 := Nat.lt_trans u6 o7
  have v6 := Nat.lt_trans o6 o7
  have v5 := Nat.lt_trans o5 v6
  have v4 := Nat.lt_trans o4 v5
  have v3 := Nat.lt_trans o3 v4
  have v2 := Nat.lt_trans o2 v3
  exact ⟨e _ h1 (no (Nat.le_of_lt o1) (Nat.le_of_lt v2)), ⟨es1, n1, e _ h2 (no (Nat.le_refl _) (Nat.le_of_lt u7)), h2'⟩, e _ h3 (no (Nat.le_of_lt u3) (Nat.le_of_lt v4)), ⟨es2, n2, e _ h4 (no (Nat.le_of_lt u2) (Nat.le_of_lt v3)), h4'⟩, ⟨vs, n3, e _ h5 (no (Nat.le_of_lt u4) (Nat.le_of_lt v5)), h5'⟩, e _ h6 (no (Nat.le_of_lt u6) (Nat.le_of_lt o7)), ⟨es3, n4, e _ h7 (no (Nat.le_of_lt u5) (Nat.le_of_lt v6)), h7'⟩, ⟨o, e _ h8 (no (Nat.le_of_lt u7) (Nat.le_refl _)), h8'⟩, lo, o1, o2, o3, o4, o5, o6, o7⟩
theorem MkO.ext {news news' : List (Addr × Obj)} {A : MA} {num : Int} {bv : Value} {ps : Int} {mods : List Addr} (h : MkO news A num bv ps) (e : Ext mods news news') (hm : ∀ x ∈ mods, LtA x A.dm ∨ LtA A.mi x) : MkO news' A num bv ps := by
  obtain ⟨h1, ⟨es1, n1, h2, h2'⟩, ord⟩ := h
  refine ⟨e _ h1 fun z => ?_, ⟨es1, n1, e _ h2 fun z => ?_, h2'⟩, ord⟩ <;>
    (have q := hm _ z; simp only [LtA] at *; omega)
structure St (w : World) (news : List (Addr × Obj)) (t0 dT R O tt : Addr) (lb lm : Int) (ns : List Int) (nm : Int → Str) (c : Int) (bf : Int → BA) (mk : Int → MA) : Prop where
  T : ∃ es nT oR vs nO kvs, Tbl w news t0 dT R O es nT oR vs nO c lb lm kvs ns ∧ (∀ n ∈ ns, valueAt kvs n = some (.ref (bf n).b)) ∧ (kvs.map (·.1)).Perm ns
  nd : ns.Nodup
  rng : ∀ n ∈ ns, 1 ≤ n ∧ n ≤ lb
  lms : 0 ≤ lm ∧ lm ≤ lb ∧ lb ≤ 10
  bufs : ∀ n ∈ ns, BufO w news (bf n) n (nm n) true (if n ≤ lm then [(n, .ref (mk n).mi)] else [])
  mks : ∀ n : Int, 1 ≤ n → n ≤ lm → MkO news (mk n) n (if n ∈ ns then .ref (bf n).b else .none) (if n ∈ ns then 1 else 0)
  o1 : LtA t0 tt ∧ LtA dT tt ∧ LtA R tt ∧ LtA O tt
  o2 : ∀ n : Int, 1 ≤ n → n ≤ lb → LtA tt (bf n).db ∧ LtA (bf n).db (bf n).b ∧ LtA (bf n).b (bf n).dtx ∧ LtA (bf n).dtx (bf n).tx ∧ LtA (bf n).tx (bf n).ce ∧ LtA (bf n).ce (bf n).dms ∧ LtA (bf n).dms (bf n).ms ∧ LtA (bf n).ms (bf n).mr
  o3 : ∀ n : Int, 1 ≤ n → n ≤ lm → LtA (bf n).mr (mk n).dm ∧ LtA (mk n).dm (mk n).mi
  o4 : ∀ n n' : Int, 1 ≤ n → n < n' → n ≤ lm → n' ≤ lb → LtA (mk n).mi (bf n').db
  o5 : ∀ n n' : Int, 1 ≤ n → n < n' → n' ≤ lb → LtA (bf n).mr (bf n').db
theorem nodup_len {α : Type} [DecidableEq α] : ∀ {l l' : List α}, l.Nodup → (∀ x ∈ l, x ∈ l') → l.length ≤ l'.length
  | [], _, _, _ => Nat.zero_le _
  | a :: r, l', h, s => by
    have ha := s a (.head _)
    have h' := List.nodup_cons.mp h
    have := nodup_len (l' := l'.erase a) h'.2 fun x hx => (List.mem_erase_of_ne (by rintro rfl; exact h'.1 hx)).mpr (s x (.tail _ hx))
    rw [List.length_erase_of_mem ha] at this
    have : 0 < l'.length := List.length_pos_of_mem ha
    simp only [List.length_cons]; omega
section
variable {w : World} {news news' : List (Addr × Obj)} {t0 dT R O tt : Addr} {lb lm : Int} {ns : List Int} {nm : Int → Str} {c : Int} {bf : Int → BA} {mk : Int → MA} {h₀ h : Heap} {L : Addr}
theorem St.liveBuf (S : St w news t0 dT R O tt lb lm ns nm c bf mk) {n : Int} (hn : n ∈ ns) : LiveBuf news (bf n).b n (nm n) :=
  let B := S.bufs n hn; let ⟨es, k, a, b⟩ := B.hdb; ⟨_, es, k, B.hb, a, b.number, b.name, b.live⟩
theorem St.table (S : St w news t0 dT R O tt lb lm ns nm c bf mk) : ∃ es nT oR vs nO kvs, Tbl w news t0 dT R O es nT oR vs nO c lb lm kvs ns ∧ Bufs news kvs ns (fun n => (bf n).b) nm ∧ (kvs.map (·.1)).Perm ns ∧ kvs.length = ns.length :=
  let ⟨es, nT, oR, vs, nO, kvs, a, b, p⟩ := S.T; ⟨es, nT, oR, vs, nO, kvs, a, fun n hn => ⟨b n hn, S.liveBuf hn⟩, p, by have := p.length_eq; rwa [List.length_map] at this⟩
theorem St.small (S : St w news t0 dT R O tt lb lm ns nm c bf mk) : ns.length ≤ 10 := by
  have h1 : ∀ n ∈ ns, n.toNat ∈ List.range' 1 10 := fun n hn => by
    have := S.rng n hn; have := S.lms
    rw [List.mem_range'_1]; omega
  have h2 : (ns.map Int.toNat).Nodup := by
    rw [List.nodup_iff_pairwise_ne, List.pairwise_map]
    refine List.Pairwise.imp_of_mem (fun {a b} ha hb hab => ?_) (List.nodup_iff_pairwise_ne.mp S.nd)
    have := S.rng a ha; have := S.rng b hb; omega
  have h3 : (ns.map Int.toNat).length ≤ (List.range' 1 10).length := nodup_len h2 (fun x hx => by
    obtain ⟨n, hn, rfl⟩ := List.mem_map.mp hx
    exact h1 n hn)
  simpa using h3
end
theorem mk_end {h₀ h' : Heap} {L dT mr x d : Addr} {news : List (Addr × Obj)} {o : Obj} {es1 e0 e2 : List DictEntry} {n0 n1 n2 : Nat} {C : Prop}
    (N : News h₀ L h' (put (put ((x, instObj 185 d) :: (d, dictOf e0 n0) :: put news dT (dictOf es1 n1)) mr o) d (dictOf e2 n2))) (l1 : ∀ q ∈ news, LtA q.1 d) (l2 : LtA d x) (ldT : LtA dT d) (lmr : LtA mr d) (a8 : mr ≠ dT)
    (k : ∀ news2, News h₀ L h' news2 → Ext [dT, mr] news news2 → (dT, dictOf es1 n1) ∈ news2 → (mr, o) ∈ news2 → (x, instObj 185 d) ∈ news2 → (d, dictOf e2 n2) ∈ news2 → C) : C := by
  refine k _ N (fun p hp hm => ?_) ?_ ?_ ?_ ?_
  · have e1 : p.1 ≠ dT := fun e => hm (e ▸ .head _)
    have e2 : p.1 ≠ mr := fun e => hm (e ▸ .tail _ (.head _))
    exact mem_put_ne (mem_put_ne (.tail _ (.tail _ (mem_put_ne hp e1))) e2) (Nat.ne_of_lt (l1 p hp))
  · exact mem_put_ne (mem_put_ne (.tail _ (.tail _ (mem_put_self _ _ _))) (Ne.symm a8)) (Nat.ne_of_lt ldT)
  · exact mem_put_ne (mem_put_self _ _ _) (Nat.ne_of_lt lmr)
  · exact mem_put_ne (mem_put_ne (.head _) (Nat.ne_of_gt (Nat.lt_trans lmr l2))) (Nat.ne_of_gt l2)
  · exact mem_put_self _ _ _
theorem MkD.of {es0 es : List DictEntry} {num : Int} {bv : Value} {ps : Int} (hn : ∃ t, getL "number" es0 = some (some (.int num t))) (hb : getL "buffer" es0 = some (some bv)) (hl : es0.length = 4) (gs : ∃ t, getL "position" es = some (some (.int ps t))) (go : ∀ y, y ≠ Str.ofString "position" → getL y es = getL y es0) (gl : es.length = es0.length) : MkD es num bv ps :=
  ⟨let ⟨t, h⟩ := hn; ⟨t, (go _ (by decide)).trans h⟩, (go _ (by decide)).trans hb, gs, gl.trans hl⟩
theorem pos_one {es : List DictEntry} {v : Int} {t : Tok} {p : Int} (h : getL "position" es = some (some (.int v t))) (hv : v = p) : ∃ t, getL "position" es = some (some (.int p t)) := ⟨t, hv ▸ h⟩
theorem ints_of_get : ∀ {kvs : List (Int × Value)} {vs : List Value}, vs.length = kvs.length → (∀ (j : Nat) (v : Value), vs[j]? = some v → ∃ k x, kvs[j]? = some (k, x) ∧ Value.isInt k v = true) → IntsAre vs (kvs.map (·.1))
  | [], [], _, _ => .nil
  | [], _ :: _, h, _ => by cases h
  | _ :: _, [], h, _ => by cases h
  | (k, x) :: r, v :: vs, h, g => by
    obtain ⟨k', x', e, hv⟩ := g 0 v rfl
    cases e
    obtain ⟨t, rfl⟩ := Value.isInt_shape hv
    exact .cons k t (ints_of_get (by simpa using h) fun j v' hv' => g (j + 1) v' (by simpa using hv'))
theorem sorted_dictA {prog : Program} {w : World} {A : Around} {E : Value → Shared → Prop} {s : Shared} {h₀ : Heap} {L d : Addr} {m : Str → Option Value} {news : List (Addr × Obj)} {o : Obj} {kvs : List (Int × Value)} {Q : Value → Shared → Prop}
    (hh : A.handled = none) (F : Fr h₀ L s.heap m) (N : News h₀ L s.heap news) (hm : (d, o) ∈ news) (hd : o.IsDictOf (PySem.intKind prog w) kvs) (lo : (d == sysModules) = false) (hz : kvs.length < 64)
    (h : ∀ D vs q e h' tk, Fr h₀ L h' m → News h₀ L h' ((D, PySem.W.listOf (List.toArray vs) e) :: news) → (∀ p ∈ news, LtA p.1 D) → IntsAre vs q → q.Perm (kvs.map (·.1)) → q.Pairwise (· ≤ ·) → Q (.ref D) { s with heap := h', toks := tk }) :
    wpAny (model prog w) A (call (.builtin "sorted") [.ref d]) Q E s := by
  obtain ⟨ep, hat⟩ := (kda_dict N hm hd).dictAt
  refine kdu_sorted (kdl_dict (knd := PySem.intKind prog w) (kvs := kvs) (ep := ep) lo) hh F N hat (by rw [sizeLine_eq]; omega) fun B h' tk vs F' N' l1 hl hv => ?_
  have hI := ints_of_get hl hv
  have ho := (N' _ (.head _)).1
  refine wpAny_call_entry PyProof.Rows.slot_list_sort ⟨_, ho, rfl⟩ PyProof.Rows.entry_list_sort (list_sort_tree (n := 0) (vs := vs) ho hI (by rw [hl]; exact hz) fun out ns' a1 a2 a3 => ⟨.none, rfl, ?_⟩) (PyProof.Rows.args_list_sort _)
  obtain ⟨e, he⟩ := sortedHeap_at (vs := vs) (n := 0) (out := out) ho
  have old : ∀ b o, b ≠ B → h'.get? b = some o → (sortedHeap h' B vs out).get? b = some o := fun b o hb q => (sortedHeap_old hb (Heap.lt_size q)).trans q
  have hB := N' _ (.head _)
  refine h B out.toList ns' e _ tk ?_ ?_ l1 a1 a2 a3
  · obtain ⟨oL, x1, x2, hL, x3⟩ := F'.ns
    exact ⟨⟨oL, x1, x2, old _ _ (Ne.symm hB.2.1) hL, x3⟩, fun b o q => old _ _ (fun z => by rw [z, hB.2.2] at q; cases q) (F'.keep b o q), F'.above⟩
  · intro p hp
    rcases List.mem_cons.mp hp with rfl | hp
    · exact ⟨he, hB.2.1, hB.2.2⟩
    · have := N' p (.tail _ hp)
      exact ⟨old _ _ (Nat.ne_of_lt (l1 p hp)) this.1, this.2⟩
section
variable {prog : Program} {w : World} {A : Around} {E : Value → Shared → Prop} {s : Shared} {env : Env} {h₀ : Heap} {x : Str} {body : List Stmt} {Q : Flow → Shared → Prop}
/-- a turn of a loop that may change the ledger -/
def GenEnd (h₀ : Heap) (L ia : Addr) (own : List (Addr × Obj)) (J : (Str → Option Value) → List (Addr × Obj) → Prop) (s₁ s₂ : Shared) : Prop :=
  ∃ h' tk m' nw nx, s₂ = { s₁ with heap := h', toks := tk } ∧ Fr h₀ L h' m' ∧ News h₀ L h' nw ∧ (∀ p ∈ own, p ∈ nw) ∧ (∀ p ∈ nx, p.1 ≠ ia ∧ p ∈ nw) ∧ J m' nx
def GenPost (h₀ : Heap) (L ia : Addr) (own : List (Addr × Obj)) (J : (Str → Option Value) → List (Addr × Obj) → Prop) (s₁ : Shared) (Q : Flow → Shared → Prop) (f : Flow) (s₂ : Shared) : Prop :=
  match f with
  | .ret v => Q (.ret v) s₂
  | .brk => Q .next s₂
  | _ => GenEnd h₀ L ia own J s₁ s₂
theorem GenEnd.intro {L ia : Addr} {own nw : List (Addr × Obj)} (nx : List (Addr × Obj)) {J : (Str → Option Value) → List (Addr × Obj) → Prop} {s₁ : Shared} {h' : Heap} {tk : Nat} {m' : Str → Option Value} (F : Fr h₀ L h' m') (N : News h₀ L h' nw) (ho : ∀ p ∈ own, p ∈ nw) (hx : ∀ p ∈ nx, p.1 ≠ ia ∧ p ∈ nw) (j : J m' nx) :
    GenEnd h₀ L ia own J s₁ { s₁ with heap := h', toks := tk } := ⟨h', tk, m', nw, nx, rfl, F, N, ho, hx, j⟩
theorem iter_gen {l : Addr} {vs : List Value} {nn : Nat} {m₀ : Str → Option Value} {news : List (Addr × Obj)} (J : Nat → (Str → Option Value) → List (Addr × Obj) → Prop)
    (hh : A.handled = none) (hl : (l, listOf vs.toArray nn) ∈ news) (F : Fr h₀ env.locals s.heap m₀) (N : News h₀ env.locals s.heap news) (hj : J 0 m₀ news)
    (turn : ∀ i v ia own m nx h tk, vs[i]? = some v → J i m nx → (∀ p ∈ news, LtA p.1 ia) → (∀ p ∈ own, p.1 = ia ∨ p.1 = l) → (∃ oi, (ia, oi) ∈ own) → (∀ p ∈ nx, p.1 ≠ ia) → Fr h₀ env.locals h (fun y => if y = x then some v else m y) → News h₀ env.locals h (own ++ nx) →
      wpAny (model prog w) A (execs body env) (GenPost h₀ env.locals ia own (J (i + 1)) { s with heap := h, toks := tk } Q) E { s with heap := h, toks := tk })
    (done : ∀ m nx h tk, J vs.length m nx → Fr h₀ env.locals h m → News h₀ env.locals h nx → Q .next { s with heap := h, toks := tk }) :
    wpAny (model prog w) A (pyIter (.ref l)) (fun it s₂ => LoopAtV prog w A h₀ env x body Q E it s₂) E s := by
  have hol : s.heap.get? l = some (listOf vs.toArray nn) := (N _ hl).1
  have hls : s.heap.IsList l vs.toArray := ⟨_, hol, rfl, nn, rfl⟩
  have hne : l ≠ s.heap.objs.size := Nat.ne_of_lt (Heap.lt_size hol)
  refine wpAny_pyIter_list hls ?_
  have W := Walks.list (prog := prog) (w := w) hh s.heap.objs.size l hne vs.toArray
  refine ⟨_, _, _, _, _, _, m₀, news, (fun i m nx => (∀ p ∈ nx, p.1 ≠ s.heap.objs.size) ∧ J i m nx), rfl, W, ?_, ?_, ?_, ⟨⟨_, Heap.get?_push_size _ rfl, rfl, rfl⟩, hls.at fun o e => Heap.get?_push_of_some _ e⟩, F.push _, (fun p hp => ⟨Heap.get?_push_of_some _ (N p hp).1, (N p hp).2⟩), ⟨fun p hp => Nat.ne_of_lt (Heap.lt_size (N p hp).1), hj⟩, ?_, ?_⟩
  · intro hm
    rcases List.mem_cons.mp hm with e | hm
    · exact absurd F.ns.lt (e ▸ Nat.lt_irrefl _)
    · exact (N _ hl).2.1 ((List.mem_singleton.mp hm).symm)
  · intro b hb
    rw [List.mem_singleton.mp hb]
    exact next_is_new F
  · intro p hp hI
    exact absurd (Heap.lt_size (N p hp).1) ((List.mem_singleton.mp hI) ▸ Nat.lt_irrefl _)
  · rintro i v m₁ news₁ s₁ own ⟨hh', tk', rfl⟩ hin hP ⟨hoff', hJ⟩ hoff hown hget hfp hst F₁ N₁
    have hx : vs[i]? = some v := by simpa using hP
    have hli : ∀ p ∈ own, p.1 = s.heap.objs.size ∨ p.1 = l := fun p hp => by
      rcases List.mem_cons.mp (hown p hp) with e | e
      · exact .inl e
      · exact .inr (List.mem_singleton.mp e)
    have hoi : ∃ oi, (s.heap.objs.size, oi) ∈ own := by
      obtain ⟨⟨o, ho, _⟩, _⟩ := hst
      exact ⟨o, hfp _ (.head _) (next_is_new F) o ho⟩
    refine wpAny_mono (turn i v s.heap.objs.size own m₁ news₁ hh' tk' hx hJ (fun p hp => Heap.lt_size (N p hp).1) hli hoi hoff' F₁ N₁) (fun f s₂ p => ?_) fun _ _ e => e
    have fin : GenEnd h₀ env.locals s.heap.objs.size own (J (i + 1)) { s with heap := hh', toks := tk' } s₂ →
        LoopStepU h₀ env.locals [s.heap.objs.size] own (fun m nx => (∀ p ∈ nx, p.1 ≠ s.heap.objs.size) ∧ J (i + 1) m nx) { s with heap := hh', toks := tk' } .next s₂ := by
      rintro ⟨h', tk, m', nw, nx, e, F', N', ho, hx, hj'⟩
      refine ⟨rfl, h', tk, m', nx, e, F', fun p hp => ?_, fun p hp hm => (hx p hp).1 (List.mem_singleton.mp hm), fun p hp => (hx p hp).1, hj'⟩
      rcases List.mem_append.mp hp with hp | hp
      · exact N' p (ho p hp)
      · exact N' p (hx p hp).2
    cases f with
    | ret v => exact .ret p
    | brk => exact .brk p
    | next => exact .next (fin p)
    | cont => exact .cont (fin p)
  · rintro h' tk m' news' F' N' _ ⟨hoff', hJ⟩
    exact done m' news' h' tk (by simpa using hJ) F' N'
end
theorem iter_one {prog : Program} {w : World} {A : Around} {E : Value → Shared → Prop} {s : Shared} {env : Env} {h₀ : Heap} {x : Str} {body : List Stmt} {Q : Flow → Shared → Prop} {l : Addr} {v : Value} {nn : Nat} {m₀ : Str → Option Value} {news : List (Addr × Obj)}
    (hh : A.handled = none) (hl : (l, listOf #[v] nn) ∈ news) (F : Fr h₀ env.locals s.heap m₀) (N : News h₀ env.locals s.heap news)
    (turn : ∀ ia own h tk, (∀ p ∈ news, LtA p.1 ia) → (∀ p ∈ own, p.1 = ia ∨ p.1 = l) → Fr h₀ env.locals h (fun y => if y = x then some v else m₀ y) → News h₀ env.locals h (own ++ news) →
      wpAny (model prog w) A (execs body env) (GenPost h₀ env.locals ia own (fun m nx => ∀ h' tk', Fr h₀ env.locals h' m → News h₀ env.locals h' nx → Q .next { s with heap := h', toks := tk' }) { s with heap := h, toks := tk } Q) E { s with heap := h, toks := tk }) :
    wpAny (model prog w) A (pyIter (.ref l)) (fun it s₂ => LoopAtV prog w A h₀ env x body Q E it s₂) E s := by
  refine iter_gen (vs := [v]) (fun i m nx => (i = 0 → m = m₀ ∧ nx = news) ∧ (i = 1 → ∀ h' tk', Fr h₀ env.locals h' m → News h₀ env.locals h' nx → Q .next { s with heap := h', toks := tk' })) hh hl F N ⟨fun _ => ⟨rfl, rfl⟩, fun h => nomatch h⟩ ?_ fun m nx h tk j F' N' => j.2 rfl h tk F' N'
  intro i u ia own m nx h tk hv j h1 h2 h3 h4 F' N'
  cases i with
  | succ i => simp at hv
  | zero =>
    obtain ⟨rfl, rfl⟩ := j.1 rfl
    cases Option.some.inj hv
    refine wpAny_mono (turn ia own h tk h1 h2 F' N') (fun f s₂ p => ?_) fun _ _ e => e
    cases f with
    | ret v => exact p
    | brk => exact p
    | next =>
      obtain ⟨h', tk, m', nw, nx, e, F', N', ho, hx, hj'⟩ := p
      exact ⟨h', tk, m', nw, nx, e, F', N', ho, hx, (fun h => nomatch h), fun _ => hj'⟩
    | cont =>
      obtain ⟨h', tk, m', nw, nx, e, F', N', ho, hx, hj'⟩ := p
      exact ⟨h', tk, m', nw, nx, e, F', N', ho, hx, (fun h => nomatch h), fun _ => hj'⟩
theorem put_app {a b : List (Addr × Obj)} {d : Addr} {o : Obj} : ∀ p ∈ put b d o, p ∈ put (a ++ b) d o := fun p hp => by
  rcases List.mem_cons.mp hp with rfl | hp
  · exact .head _
  · obtain ⟨h1, h2⟩ := List.mem_filter.mp hp
    exact .tail _ (List.mem_filter.mpr ⟨List.mem_append_right _ h1, h2⟩)
theorem put_own {own b : List (Addr × Obj)} {d ia l : Addr} {o : Obj} (h : ∀ p ∈ own, p.1 = ia ∨ p.1 = l) (h1 : ia ≠ d) (h2 : l ≠ d) : ∀ p ∈ own, p ∈ put (own ++ b) d o := fun p hp =>
  mem_put_ne (List.mem_append_left _ hp) fun e => (h p hp).elim (fun q => h1 (q.symm.trans e)) fun q => h2 (q.symm.trans e)
theorem list_append0 {prog : Program} {w : World} {A : Around} {E : Value → Shared → Prop} {s : Shared} {h₀ : Heap} {L D : Addr} {m : Str → Option Value} {news : List (Addr × Obj)} {n : Nat} {v : Value} {Q : Value → Shared → Prop} (F : Fr h₀ L s.heap m) (N : News h₀ L s.heap news) (hm : (D, listOf #[] n) ∈ news)
    (h : ∀ h' n', Fr h₀ L h' m → News h₀ L h' (put news D (listOf #[v] n')) → Q .none { s with heap := h' }) :
    wpAny (model prog w) A (call (.builtin "list.append") [.ref D, v]) Q E s :=
  list_appendA (vs := []) F N hm (by simp) h
theorem put_lt {b : List (Addr × Obj)} {d ia : Addr} {o o' : Obj} (h : ∀ p ∈ b, LtA p.1 ia) (hd : (d, o') ∈ b) : ∀ p ∈ put b d o, p.1 ≠ ia := fun p hp => by
  rcases List.mem_cons.mp hp with rfl | hp
  · exact Nat.ne_of_lt (h (d, o') hd)
  · exact Nat.ne_of_lt (h p (List.mem_filter.mp hp).1)
theorem news_within {h₀ h : Heap} {L l' D : Addr} {o lo x : Obj} {news : List (Addr × Obj)} {C : Prop} (N : News h₀ L h (put ((D, o) :: (l', lo) :: news) l' x)) (l : ∀ p ∈ news, LtA p.1 l') (k : News h₀ L h ((l', x) :: news) → C) : C :=
  k (nsub N fun p hp => by
    rcases List.mem_cons.mp hp with rfl | hp
    · exact mem_put_self _ _ _
    · exact mem_put_ne (.tail _ (.tail _ hp)) (Nat.ne_of_lt (l p hp)))
theorem loop_ext {own X news2 : List (Addr × Obj)} {mods : List Addr} {ia l : Addr} {lo : Obj} (hx : Ext mods (own ++ (l, lo) :: X) news2) (hia : ∀ p ∈ (l, lo) :: X, LtA p.1 ia) : Ext mods X (news2.filter fun p => p.1 != ia) := fun p hp hm =>
  List.mem_filter.mpr ⟨hx p (List.mem_append_right _ (.tail _ hp)) hm, by simpa using Nat.ne_of_lt (hia p (.tail _ hp))⟩
theorem mem_off {news : List (Addr × Obj)} {ia a : Addr} {o : Obj} (h : (a, o) ∈ news) (n : a ≠ ia) : (a, o) ∈ news.filter fun p => p.1 != ia := List.mem_filter.mpr ⟨h, by simpa using n⟩
theorem off_ne {news : List (Addr × Obj)} {ia : Addr} : ∀ p ∈ news.filter (fun p => p.1 != ia), p.1 ≠ ia ∧ p ∈ news := fun p hp => ⟨by simpa using (List.mem_filter.mp hp).2, (List.mem_filter.mp hp).1⟩
theorem Ext.weaken {mods : List Addr} {d : Addr} {a b : List (Addr × Obj)} (x : Ext mods a b) : Ext (d :: mods) a b := fun p hp hm => x p hp fun z => hm (.tail _ z)
theorem kill_pos {news news3 : List (Addr × Obj)} {dT O R a b c : Addr} {o lo dd x y : Obj} (hx : Ext [a, b, c] news news3) (n1 : dT ≠ O) (n2 : R ≠ O) (n3 : R ≠ dT) (hc : (c, x) ∈ news3) (ha : (a, y) ∈ news3) (c1 : c ≠ dT) (c2 : c ≠ O) (c3 : c ≠ R) (a1 : a ≠ dT) (a2 : a ≠ O) (a3 : a ≠ R) :
    Ext [dT, O, R, a, b, c] news (put (put (put news3 R o) O lo) dT dd) ∧ (dT, dd) ∈ put (put (put news3 R o) O lo) dT dd ∧ (R, o) ∈ put (put (put news3 R o) O lo) dT dd ∧ (O, lo) ∈ put (put (put news3 R o) O lo) dT dd ∧ (c, x) ∈ put (put (put news3 R o) O lo) dT dd ∧ (a, y) ∈ put (put (put news3 R o) O lo) dT dd :=
  ⟨hx.put.put.put, mem_put_self _ _ _, mem_put_ne (mem_put_ne (mem_put_self _ _ _) n2) n3, mem_put_ne (mem_put_self _ _ _) (Ne.symm n1), mem_put_ne (mem_put_ne (mem_put_ne hc c3) c2) c1, mem_put_ne (mem_put_ne (mem_put_ne ha a3) a2) a1⟩
theorem kill_neg {news news3 : List (Addr × Obj)} {dT O R a b c : Addr} {o lo dd x y : Obj} (hx : Ext [a, b, c] news news3) (n1 : dT ≠ O) (n2 : R ≠ O) (n3 : R ≠ dT) (hd : (dT, dd) ∈ news3) (hc : (c, x) ∈ news3) (ha : (a, y) ∈ news3) (c2 : c ≠ O) (c3 : c ≠ R) (a2 : a ≠ O) (a3 : a ≠ R) :
    Ext [dT, O, R, a, b, c] news (put (put news3 R o) O lo) ∧ (dT, dd) ∈ put (put news3 R o) O lo ∧ (R, o) ∈ put (put news3 R o) O lo ∧ (O, lo) ∈ put (put news3 R o) O lo ∧ (c, x) ∈ put (put news3 R o) O lo ∧ (a, y) ∈ put (put news3 R o) O lo :=
  ⟨hx.put.put.weaken, mem_put_ne (mem_put_ne hd (Ne.symm n3)) n1, mem_put_ne (mem_put_self _ _ _) n2, mem_put_self _ _ _, mem_put_ne (mem_put_ne hc c3) c2, mem_put_ne (mem_put_ne ha a3) a2⟩
def Deck (ds : List Int) : Prop := (∀ d ∈ ds, 0 ≤ d ∧ d < 10 ^ 30) ∧ ds.length ≤ 20
theorem while_deck {prog : Program} {w : World} {A : Around} {E : Value → Shared → Prop} {s : Shared} {env : Env} {test : PySem.Expr} {body orelse : List Stmt} {pos : Pos} {Q : Flow → Shared → Prop} {h₀ : Heap} {news : List (Addr × Obj)} {m₀ : Str → Option Value} {D : Addr} {vs : List Value} {ds : List Int} {n : Nat}
    (hE : PassesOwn (model prog w) A env E) (F : Fr h₀ env.locals s.heap m₀) (N : News h₀ env.locals s.heap (put news D (listOf vs.toArray n))) (hI : IntsAre vs ds) (hp : Deck ds)
    (turn : ∀ (Rst : Shared → Prop) vs ds n h tk, IntsAre vs ds → Deck ds → Fr h₀ env.locals h m₀ → News h₀ env.locals h (put news D (listOf vs.toArray n)) →
      (∀ vs' ds' n' h' tk', ds'.length < ds.length → IntsAre vs' ds' → Deck ds' → Fr h₀ env.locals h' m₀ → News h₀ env.locals h' (put news D (listOf vs'.toArray n')) → Rst { s with heap := h', toks := tk' }) →
      wpAny (model prog w) A (isTrue test env (eval test env)) (fun b s₂ => WhlIf b (wpAny (model prog w) A (execs body env) (TurnEnd Rst Q) E s₂) (wpAny (model prog w) A (execs orelse env) Q E s₂)) E { s with heap := h, toks := tk }) :
    wpAny (model prog w) A (exec (.While test body orelse pos) env) Q E s := by
  refine while_ind (α := List Int) (fun ds => ds.length) (fun ds s₁ => ∃ vs n h tk, s₁ = { s with heap := h, toks := tk } ∧ IntsAre vs ds ∧ Deck ds ∧ Fr h₀ env.locals h m₀ ∧ News h₀ env.locals h (put news D (listOf vs.toArray n))) hE ?_ ds ⟨vs, n, s.heap, s.toks, rfl, hI, hp, F, N⟩
  rintro Rst ds s₁ ⟨vs, n, h, tk, rfl, hI, hp, F', N'⟩ rest
  exact turn Rst vs ds n h tk hI hp F' N' fun vs' ds' n' h' tk' l hI' hp' F2 N2 => rest ds' _ l ⟨vs', n', h', tk', rfl, hI', hp', F2, N2⟩
theorem put_same {news : List (Addr × Obj)} {h₀ h : Heap} {L D : Addr} {o : Obj} (N : News h₀ L h news) (hm : (D, o) ∈ news) : News h₀ L h (put news D o) := fun p hp => by
  rcases List.mem_cons.mp hp with rfl | hp
  · exact N _ hm
  · exact N p (List.mem_filter.mp hp).1
section
variable {prog : Program} {w : World} {A : Around} {E : Value → Shared → Prop} {s : Shared} {h₀ : Heap} {L D : Addr} {m : Str → Option Value} {news : List (Addr × Obj)} {vs : List Value} {ns : List Int} {n : Nat} {v : Value}
theorem list_pop0A {u : Tok} {Q : Value → Shared → Prop} (F : Fr h₀ L s.heap m) (N : News h₀ L s.heap news) (hm : (D, listOf (v :: vs).toArray n) ∈ news) (hz : vs.length ≤ 1000)
    (h : ∀ h' n', Fr h₀ L h' m → News h₀ L h' (put news D (listOf vs.toArray n')) → Q v { s with heap := h' }) :
    wpAny (model prog w) A (call (.builtin "list.pop") [.ref D, .int 0 u]) Q E s :=
  kl_popAt (i := 0) (k := 0) (p := []) (q := vs) (y := v) F (front N hm) (by decide) (by unfold seqIndex?; simp) rfl put_upd (by rw [sizeLine_eq]; simp; omega) fun h' F' N' => h h' _ F' N'
theorem list_set0A {x : Int} {u t : Tok} {Q : Unit → Shared → Prop} (F : Fr h₀ L s.heap m) (N : News h₀ L s.heap news) (hm : (D, listOf vs.toArray n) ∈ news) (hi : IntsAre vs ns) (h1 : 0 < ns.length)
    (h : ∀ h' n', Fr h₀ L h' m → News h₀ L h' (put news D (listOf (vs.set 0 (.int x u)).toArray n')) → Q () { s with heap := h' }) :
    wpAny (model prog w) A (setItem (.ref D) (.int 0 t) (.int x u)) Q E s :=
  ksa_set (k := 0) F (front N hm) put_upd hi (by decide) (by omega) (by decide) fun h' F' N' _ _ _ => h h' _ F' N'
end
theorem put_sub {a b : List (Addr × Obj)} {d : Addr} {o : Obj} (h : ∀ p ∈ a, p.1 ≠ d → p ∈ b) : ∀ p ∈ put a d o, p ∈ put b d o := fun p hp => by
  rcases List.mem_cons.mp hp with rfl | hp
  · exact .head _
  · obtain ⟨h1, h2⟩ := List.mem_filter.mp hp
    have h3 : p.1 ≠ d := by simpa using h2
    exact mem_put_ne (h p h1 h3) h3
theorem Deck.tail {d : Int} {ds : List Int} (h : Deck (d :: ds)) : Deck ds := ⟨fun x hx => h.1 x (.tail _ hx), by have := h.2; simp at this; omega⟩
theorem Deck.div {d many : Int} {ds : List Int} (h : Deck (d :: ds)) (hm : 1 ≤ many) : Deck (d.fdiv many :: ds) := ⟨fun x hx => by
  rcases List.mem_cons.mp hx with rfl | hx
  · have h0 := (h.1 d (.head _)).1
    have h1 := (h.1 d (.head _)).2
    rw [Int.fdiv_eq_ediv_of_nonneg _ (by omega)]
    have := Int.ediv_nonneg h0 (show (0 : Int) ≤ many by omega)
    have := Int.ediv_le_self many h0
    omega
  · exact h.1 x (.tail _ hx), h.2⟩
theorem fmod_in {d many : Int} (_ : 0 ≤ d) (hm : 1 ≤ many) : 0 ≤ d.fmod many ∧ d.fmod many < many := by
  rw [Int.fmod_eq_emod_of_nonneg _ (by omega)]
  exact ⟨Int.emod_nonneg _ (by omega), Int.emod_lt_of_pos _ (by omega)⟩
section
variable {prog : Program} {w : World} {A : Around} {h₀ : Heap} {L : Addr} {m : Str → Option Value} {env : Env} {ct elt : PySem.Expr} {x : Str} {scope : Scope} {cl : List (Str × Addr)} {s : Shared} {S : List (Addr × Obj) → Prop} {P : Nat → Value → Prop} {Fin : List Value → List (Addr × Obj) → Prop} {news : List (Addr × Obj)} {α β : Type}
/-- the values ys are the things bs -/
inductive Are (dec : β → Value → Prop) : List Value → List β → Prop
  | nil : Are dec [] []
  | cons {y b ys bs} : dec b y → Are dec ys bs → Are dec (y :: ys) (b :: bs)
theorem Are.snoc {dec : β → Value → Prop} {y : Value} {b : β} (h : dec b y) : ∀ {ys : List Value} {bs : List β}, Are dec ys bs → Are dec (ys ++ [y]) (bs ++ [b])
  | _, _, .nil => .cons h .nil
  | _, _, .cons z r => .cons z (r.snoc h)
abbrev isI (k : Int) (v : Value) : Prop := ∃ t, v = .int k t
abbrev isS (k : Str) (v : Value) : Prop := ∃ t, v = .str k t
theorem Are.ints : ∀ {ys : List Value} {bs : List Int}, Are isI ys bs → IntsAre ys bs
  | _, _, .nil => .nil
  | _, _, .cons ⟨t, e⟩ r => e ▸ .cons _ t r.ints
theorem Are.strs : ∀ {ys : List Value} {bs : List Str}, Are isS ys bs → StrsAre ys bs
  | _, _, .nil => .nil
  | _, _, .cons ⟨t, e⟩ r => e ▸ .cons _ t r.strs
theorem are_ints : ∀ {ys : List Value} {bs : List Int}, IntsAre ys bs → Are isI ys bs
  | _, _, .nil => .nil
  | _, _, .cons k t r => .cons ⟨t, rfl⟩ (are_ints r)
theorem are_strs : ∀ {ys : List Value} {bs : List Str}, StrsAre ys bs → Are isS ys bs
  | _, _, .nil => .nil
  | _, _, .cons k t r => .cons ⟨t, rfl⟩ (are_strs r)
theorem Are.length {dec : β → Value → Prop} : ∀ {ys : List Value} {bs : List β}, Are dec ys bs → ys.length = bs.length
  | _, _, .nil => rfl
  | _, _, .cons _ r => congrArg (· + 1) r.length
theorem Are.at {dec : β → Value → Prop} : ∀ {ys : List Value} {bs : List β}, Are dec ys bs → ∀ (i : Nat) (y : Value), ys[i]? = some y → ∃ b, bs[i]? = some b ∧ dec b y
  | _, _, .nil, i, y, h => by simp at h
  | _, _, .cons z r, 0, y, h => by cases Option.some.inj h; exact ⟨_, rfl, z⟩
  | _, _, .cons z r, i + 1, y, h => r.at i y (by simpa using h)
def CUEl (news : List (Addr × Obj)) (dec : β → Value → Prop) (b : β) (y : Value) (news' : List (Addr × Obj)) : Prop := news' = news ∧ dec b y
def CTNo (news : List (Addr × Obj)) (b : Bool) (news' : List (Addr × Obj)) : Prop := news' = news ∧ b = false
def CTEl (news : List (Addr × Obj)) (p : Bool) (dec : β → Value → Prop) (b : β) (y : Value) (news' : List (Addr × Obj)) : Prop := news' = news ∧ p = true ∧ dec b y
theorem compU {n : Nat} {as : List α} (enc : α → Value → Prop) (dec : β → Value → Prop) (g : α → β) (hn : as.length = n) (hP : ∀ i v, i < n → P i v → ∃ a, as[i]? = some a ∧ enc a v)
    (turn : ∀ a v I oI C oC D m₂ ys h tk (E' : Value → Shared → Prop), a ∈ as → enc a v → LCg.NsObj oC m₂ → m₂ x = some v → Fr h₀ L h m → News h₀ L h ((I, oI) :: (C, oC) :: (D, LCg.lst ys) :: news) → LCg.Off3 I C D news → ((@Ne Nat I C) ∧ (@Ne Nat I D) ∧ (@Ne Nat C D)) →
      wpAny (model prog w) A (eval elt (compEnvC scope cl C env)) (LCg.CompEnd h₀ L m { s with heap := h, toks := tk } I oI C oC D (LCg.lst ys) S (fun y news' => CUEl news dec (g a) y news')) E' { s with heap := h, toks := tk })
    (fin : ∀ ys, Are dec ys (as.map g) → Fin ys news) : LCg.CompRest prog w A h₀ L m env elt x scope cl s S P Fin n 0 [] news := by
  have key : ∀ (j i : Nat) (ys : List Value), i + j = n → Are dec ys ((as.take i).map g) → LCg.CompRest prog w A h₀ L m env elt x scope cl s S P Fin j i ys news := by
    intro j
    induction j with
    | zero =>
      intro i ys hi hy
      have e : i = as.length := by omega
      subst e
      rw [List.take_length] at hy
      exact LCg.CompRest.zero (fin ys hy)
    | succ j ih =>
      intro i ys hi hy
      refine LCg.CompRest.succ ?_
      intro v I oI C oC D m₂ h tk E' hv hC hx F N off ne
      obtain ⟨a, ha, hav⟩ := hP i v (by omega) hv
      refine wpAny_mono (turn a v I oI C oC D m₂ ys h tk E' (List.mem_of_getElem? ha) hav hC hx F N off ne) (fun y s₂ hq => ?_) fun _ _ e => e
      obtain ⟨h', tk', nw, e, F', N', off', hS, hn', hy'⟩ := hq
      rw [hn'] at N' off' hS
      refine ⟨h', tk', news, e, F', N', off', hS, ih (i + 1) _ (by omega) ?_⟩
      rw [List.take_add_one, ha]
      simpa using hy.snoc hy'
  exact key n 0 [] (by omega) (by simp only [List.take_zero, List.map_nil]; exact .nil)
theorem compT {n : Nat} {as : List α} (enc : α → Value → Prop) (dec : β → Value → Prop) (p : α → Bool) (g : α → β) (hn : as.length = n) (hP : ∀ i v, i < n → P i v → ∃ a, as[i]? = some a ∧ enc a v)
    (turn : ∀ a v I oI C oC D m₂ ys h tk (E' : Value → Shared → Prop), a ∈ as → enc a v → LCg.NsObj oC m₂ → m₂ x = some v → Fr h₀ L h m → News h₀ L h ((I, oI) :: (C, oC) :: (D, LCg.lst ys) :: news) → LCg.Off3 I C D news → ((@Ne Nat I C) ∧ (@Ne Nat I D) ∧ (@Ne Nat C D)) →
      wpAny (model prog w) A (isTrue ct (compEnvC scope cl C env) (eval ct (compEnvC scope cl C env))) (fun b s' => if b = true then wpAny (model prog w) A (eval elt (compEnvC scope cl C env)) (LCg.CompEnd h₀ L m { s with heap := h, toks := tk } I oI C oC D (LCg.lst ys) S (fun y news' => CTEl news (p a) dec (g a) y news')) E' s'
        else LCg.CompEnd h₀ L m { s with heap := h, toks := tk } I oI C oC D (LCg.lst ys) S (fun _ news' => CTNo news (p a) news') Value.none s') E' { s with heap := h, toks := tk })
    (fin : ∀ ys, Are dec ys ((as.filter p).map g) → Fin ys news) : LCt.CompRestT prog w A h₀ L m env ct elt x scope cl s S P Fin n 0 [] news := by
  have key : ∀ (j i : Nat) (ys : List Value), i + j = n → Are dec ys (((as.take i).filter p).map g) → LCt.CompRestT prog w A h₀ L m env ct elt x scope cl s S P Fin j i ys news := by
    intro j
    induction j with
    | zero =>
      intro i ys hi hy
      have e : i = as.length := by omega
      subst e
      rw [List.take_length] at hy
      exact LCt.CompRestT.zero (fin ys hy)
    | succ j ih =>
      intro i ys hi hy
      refine LCt.CompRestT.succ ?_
      intro v I oI C oC D m₂ h tk E' hv hC hx F N off ne
      obtain ⟨a, ha, hav⟩ := hP i v (by omega) hv
      refine wpAny_mono (turn a v I oI C oC D m₂ ys h tk E' (List.mem_of_getElem? ha) hav hC hx F N off ne) (fun b s₂ hq => ?_) fun _ _ e => e
      cases b with
      | true =>
        simp only [if_true] at hq ⊢
        refine wpAny_mono hq (fun y s₃ hr => ?_) fun _ _ e => e
        obtain ⟨h', tk', nw, e, F', N', off', hS, hn', hp, hy'⟩ := hr
        rw [hn'] at N' off' hS
        refine ⟨h', tk', news, e, F', N', off', hS, ih (i + 1) _ (by omega) ?_⟩
        rw [List.take_add_one, ha]
        simpa [List.filter_append, hp] using hy.snoc hy'
      | false =>
        simp only [Bool.false_eq_true, if_false] at hq ⊢
        obtain ⟨h', tk', nw, e, F', N', off', hS, hn', hp⟩ := hq
        rw [hn'] at N' off' hS
        refine ⟨h', tk', news, e, F', N', off', hS, ih (i + 1) _ (by omega) ?_⟩
        rw [List.take_add_one, ha]
        simpa [List.filter_append, hp] using hy
  exact key n 0 [] (by omega) (by simp only [List.take_zero, List.filter_nil, List.map_nil]; exact .nil)
end
theorem len_newsA {prog : Program} {w : World} {A : Around} {E : Value → Shared → Prop} {s : Shared} {h₀ : Heap} {L D : Addr} {news : List (Addr × Obj)} {vs : List Value} {n : Nat} {k : Nat} {Q : Value → Shared → Prop} (N : News h₀ L s.heap news) (hm : (D, listOf vs.toArray n) ∈ news) (hk : vs.length = k) (hz : k ≤ 1000)
    (h : Q (.int (k : Int) (s.toks + 1)) { s with toks := s.toks + 1 + 1 }) : wpAny (model prog w) A (call (.builtin "len") [.ref D]) Q E s := by
  subst hk
  exact kun_lenL (N.isList hm) (by simp) (by omega) h
section
variable {prog : Program} {w : World} {A : Around} {E : Value → Shared → Prop} {s : Shared} {h₀ : Heap} {L D : Addr} {news : List (Addr × Obj)} {vs : List Value} {n : Nat} {Q : Value → Shared → Prop}
theorem in_strsA {us : List Str} {k : Str} {t : Tok} (N : News h₀ L s.heap news) (hm : (D, listOf vs.toArray n) ∈ news) (hi : StrsAre vs us) (h : Q (.bool (us.any (· == k))) s) : wpAny (model prog w) A (compareOp .In (.str k t) (.ref D)) Q E s := in_list_strs (N.isList hm) hi h
theorem notin_strsA {us : List Str} {k : Str} {t : Tok} (N : News h₀ L s.heap news) (hm : (D, listOf vs.toArray n) ∈ news) (hi : StrsAre vs us) (h : Q (.bool (!(us.any (· == k)))) s) : wpAny (model prog w) A (compareOp .NotIn (.str k t) (.ref D)) Q E s := notin_list_strs (N.isList hm) hi h
theorem notin_intsA {us : List Int} {k : Int} {t : Tok} (N : News h₀ L s.heap news) (hm : (D, listOf vs.toArray n) ∈ news) (hi : IntsAre vs us) (h : Q (.bool (!(us.any (· == k)))) s) : wpAny (model prog w) A (compareOp .NotIn (.int k t) (.ref D)) Q E s := notin_list_ints (N.isList hm) hi h
end
section
variable {prog : Program} {w : World} {A : Around} {E : Value → Shared → Prop} {s : Shared} {h₀ : Heap} {L a b : Addr} {news : List (Addr × Obj)} {vs us : List Value} {n n' : Nat} {ns ms : List Int} {Q : Value → Shared → Prop}
theorem ne_intsA (N : News h₀ L s.heap news) (h1 : (a, listOf vs.toArray n) ∈ news) (h2 : (b, listOf us.toArray n') ∈ news) (hi : IntsAre vs ns) (hj : IntsAre us ms) (hu : A.units + 64 < cLine) (h : Q (.bool (!decide (ns = ms))) s) : wpAny (model prog w) A (compareOp .NotEq (.ref a) (.ref b)) Q E s :=
  ke_ne_ints (N.isList h1) (N.isList h2) hi hj hu h
theorem sorted_intsA {m : Str → Option Value} (F : Fr h₀ L s.heap m) (N : News h₀ L s.heap news) (h1 : (a, listOf vs.toArray n) ∈ news) (hi : IntsAre vs ns) (hz : ns.length ≤ 60)
    (h : ∀ D vs' ns' c h', Fr h₀ L h' m → News h₀ L h' ((D, listOf (List.toArray vs') c) :: news) → (∀ q ∈ news, LtA q.1 D) → IntsAre vs' ns' → ns'.Perm ns → ns'.Pairwise (· ≤ ·) → Q (.ref D) { s with heap := h' }) :
    wpAny (model prog w) A (call (.builtin "sorted") [.ref a]) Q E s :=
  kso_sorted F N (N.isList h1) hi (by omega) fun D vs' ns' c h' F' N' l1 i1 _ p1 o1 _ => h D vs' ns' c h' F' N' l1 i1 p1 o1
end
section
variable {prog : Program} {w : World} {A : Around} {E : Value → Shared → Prop} {s : Shared} {env : Env} {h₀ : Heap} {target : PySem.Expr} {body : List Stmt} {Q : Flow → Shared → Prop}
def ForCode (prog : Program) (w : World) (A : Around) (E : Value → Shared → Prop) (env : Env) (target : PySem.Expr) (body : List Stmt) (Q : Flow → Shared → Prop) (it : Value) (s : Shared) : Prop :=
  codeAny (model prog w) A (.forLoop target it body [] env) (fun r s' => match r with | .ok f => Q f s' | .error e => cameBackBy (model prog w) A env E e s') s
theorem stopFor {x : Value} {Q : Flow → Shared → Prop} (h : Stop (wpAny (model prog w) A (pyIter x) (fun it s₂ => ForCode prog w A E env target body Q it s₂) E s)) : wpAny (model prog w) A (pyIter x) (fun it s₂ => ForCode prog w A E env target body Q it s₂) E s := h
theorem For_any {iter : PySem.Expr} {pos : Pos} (h : wpAny (model prog w) A (eval iter env) (fun x s₁ => wpAny (model prog w) A (pyIter x) (fun it s₂ => ForCode prog w A E env target body Q it s₂) E s₁) E s)
    (hs : ∀ x, foldedSetIterable iter env x = pure x := by intro _; rfl) : wpAny (model prog w) A (exec (.For target iter body [] pos) env) Q E s := wpAny_For h hs
theorem for_core {I : Addr} {fp : List Addr} {n : Nat} {P : Nat → Value → Prop} {St : Nat → Heap → Prop} {m : Str → Option Value} {news : List (Addr × Obj)} (W : Walks prog w A I fp [I] n P St) (hE : PassesOwn (model prog w) A env E)
    (hLf : env.locals ∉ fp) (hI : h₀.get? I = none) (hnw : ∀ p ∈ news, p.1 ≠ I) (hst : St 0 s.heap) (F : Fr h₀ env.locals s.heap m) (N : News h₀ env.locals s.heap news) (J : Nat → (Str → Option Value) → List (Addr × Obj) → Prop) (h0 : J 0 m news)
    (turn : ∀ i v own m nx h tk, i < n → St (i + 1) h → (∀ b ∈ fp, h₀.get? b = none → ∀ o, h.get? b = some o → (b, o) ∈ own) → P i v → J i m nx → (∀ p ∈ own, p.1 ∈ fp) → (∀ p ∈ nx, p.1 ≠ I) → Fr h₀ env.locals h m → News h₀ env.locals h (own ++ nx) →
      wpAny (model prog w) A (assign target env v) (fun _ s₂ => wpAny (model prog w) A (execs body env) (GenPost h₀ env.locals I own (J (i + 1)) { s with heap := h, toks := tk } Q) E s₂) E { s with heap := h, toks := tk })
    (done : ∀ m nx h tk, J n m nx → Fr h₀ env.locals h m → News h₀ env.locals h nx → Q .next { s with heap := h, toks := tk })
    (ht : ∀ i v (s₁ : Shared) (Q' : Unit → Shared → Prop) (E' : Value → Shared → Prop), St i s₁.heap → Q' () s₁ → wpAny (model prog w) A (letOwnedTupleGo target (.ref I) v) Q' E' s₁) : ForCode prog w A E env target body Q (.ref I) s := by
  have hLw : env.locals ∉ [I] := fun h => hLf (W.sub _ h)
  have old : ∀ b o, h₀.get? b = some o → b ∉ [I] := fun b o e hb => by rw [List.mem_singleton.mp hb, hI] at e; cases e
  refine codeAny_forLoop_any
    (fun k s' => ∃ h' tk m' nx i, s' = { s with heap := h', toks := tk } ∧ St i h' ∧ Fr h₀ env.locals h' m' ∧ News h₀ env.locals h' nx ∧ (∀ p ∈ nx, p.1 ≠ I) ∧ J i m' nx ∧ i ≤ n ∧ k = n + 1 - i) ?_ (n + 1)
    ⟨s.heap, s.toks, m, news, 0, rfl, hst, F, N, hnw, h0, Nat.zero_le _, rfl⟩
  rintro k s' ⟨h', tk, m', nx, i, rfl, hst', F', N', hnw', hJ, hi, rfl⟩
  have next : ∀ h₁ : Heap, (∀ b o, b ∉ [I] → h'.get? b = some o → h₁.get? b = some o) → Fr h₀ env.locals h₁ m' ∧ News h₀ env.locals h₁ nx := fun h₁ hk₁ =>
    ⟨⟨F'.ns.at' fun o e => hk₁ _ o hLw e, fun b o e => hk₁ b o (old b o e) (F'.keep b o e), F'.above⟩, fun p hp => ⟨hk₁ _ _ (fun z => hnw' p hp (List.mem_singleton.mp z)) (N' p hp).1, (N' p hp).2⟩⟩
  by_cases hlt : i < n
  · refine W.item i _ _ _ hlt hst' fun v h₁ tk₁ hP hst₁ hk₁ => ?_
    obtain ⟨F₁, N₁⟩ := next h₁ hk₁
    have Nown : News h₀ env.locals h₁ (ownOf h₀ fp h₁) := news_ownOf hLf
    refine ht (i + 1) v _ _ _ hst₁ ?_
    refine wpAny_mono (wpAny_passesOwn hE (wpAny_mono (turn i v (ownOf h₀ fp h₁) m' nx h₁ tk₁ hlt hst₁ (fun b hb hn o e => mem_ownOf hb hn e) hP hJ ownOf_sub hnw' F₁ (Nown.append N₁)) (fun _ s₂ h₂ => wpAny_passesOwn hE h₂) fun _ _ e => e)) (fun _ s₂ h₂ => wpAny_mono h₂ (fun f s₃ h₃ => ?_) fun _ _ e => e) fun _ _ e => e
    have fin : GenEnd h₀ env.locals I (ownOf h₀ fp h₁) (J (i + 1)) { s with heap := h₁, toks := tk₁ } s₃ → ∃ m_1, m_1 < n + 1 - i ∧ ∃ h' tk m' nx i, s₃ = { s with heap := h', toks := tk } ∧ St i h' ∧ Fr h₀ env.locals h' m' ∧ News h₀ env.locals h' nx ∧ (∀ p ∈ nx, p.1 ≠ I) ∧ J i m' nx ∧ i ≤ n ∧ m_1 = n + 1 - i := by
      rintro ⟨h₃', tk₃, m₃, nw, nx₃, rfl, F₃, N₃, ho, hx, hJ₃⟩
      refine ⟨n + 1 - (i + 1), by omega, h₃', tk₃, m₃, nx₃, i + 1, rfl, ?_, F₃, (fun p hp => N₃ p (hx p hp).2), (fun p hp => (hx p hp).1), hJ₃, hlt, rfl⟩
      refine W.frame _ _ _ hst₁ fun b hb o e => ?_
      cases hn : h₀.get? b with
      | some o₀ =>
        have : o₀ = o := by have := F₁.keep b o₀ hn; rw [e] at this; exact (Option.some.inj this).symm
        exact this ▸ F₃.keep b o₀ hn
      | none => exact (N₃ _ (ho _ (mem_ownOf hb hn e))).1
    cases f with
    | ret v => exact h₃
    | brk => exact h₃
    | cont => exact fin h₃
    | next => exact fin h₃
  · have hin : i = n := by omega
    subst hin
    refine W.done _ _ _ hst' fun h₁ tk₁ hk₁ => wpAny_execs_nil ?_
    obtain ⟨F₁, N₁⟩ := next h₁ hk₁
    exact done m' nx h₁ tk₁ hJ F₁ N₁
def GoesOn (prog : Program) (w : World) (A : Around) (target : PySem.Expr) : Prop := ∀ (I : Addr) v (s₁ : Shared) (Q' : Unit → Shared → Prop) (E' : Value → Shared → Prop), (∃ o, s₁.heap.get? I = some o ∧ o.cls = .type "list_iterator") → Q' () s₁ → wpAny (model prog w) A (letOwnedTupleGo target (.ref I) v) Q' E' s₁
theorem goes_name {x : Str} {px : Pos} : GoesOn prog w A (.Name x px) := fun _ _ _ _ _ _ q => wpAny_pure q
theorem goes_tuple {es : List PySem.Expr} {c : Nat} {px : Pos} : GoesOn prog w A (.Tuple es c px) := fun I v s₁ Q' E' ⟨o, ho, hc⟩ q => by
  unfold letOwnedTupleGo
  cases v <;> first | exact wpAny_pure q | skip
  refine wpAny_bind (wpAny_load ho ?_)
  obtain ⟨oc, od, da, sl⟩ := o
  dsimp only at hc
  subst hc
  cases da <;> exact wpAny_pure q
theorem for_list {l : Addr} {vs : List Value} {nn : Nat} {m₀ : Str → Option Value} {news : List (Addr × Obj)} (J : Nat → (Str → Option Value) → List (Addr × Obj) → Prop)
    (hh : A.handled = none) (hE : PassesOwn (model prog w) A env E) (hl : (l, listOf vs.toArray nn) ∈ news) (F : Fr h₀ env.locals s.heap m₀) (N : News h₀ env.locals s.heap news) (hj : J 0 m₀ news)
    (turn : ∀ i v ia own m nx h tk, vs[i]? = some v → J i m nx → (∀ p ∈ news, LtA p.1 ia) → (∀ p ∈ own, p.1 = ia ∨ p.1 = l) → (∀ p ∈ nx, p.1 ≠ ia) → Fr h₀ env.locals h m → News h₀ env.locals h (own ++ nx) →
      wpAny (model prog w) A (assign target env v) (fun _ s₂ => wpAny (model prog w) A (execs body env) (GenPost h₀ env.locals ia own (J (i + 1)) { s with heap := h, toks := tk } Q) E s₂) E { s with heap := h, toks := tk })
    (done : ∀ m nx h tk, J vs.length m nx → Fr h₀ env.locals h m → News h₀ env.locals h nx → Q .next { s with heap := h, toks := tk })
    (ht : GoesOn prog w A target) :
    wpAny (model prog w) A (pyIter (.ref l)) (fun it s₂ => ForCode prog w A E env target body Q it s₂) E s := by
  have hol : s.heap.get? l = some (listOf vs.toArray nn) := (N _ hl).1
  have hls : s.heap.IsList l vs.toArray := ⟨_, hol, rfl, nn, rfl⟩
  have hne : l ≠ s.heap.objs.size := Nat.ne_of_lt (Heap.lt_size hol)
  refine wpAny_pyIter_list hls ?_
  refine for_core (Walks.list (prog := prog) (w := w) hh s.heap.objs.size l hne vs.toArray) hE ?_ (next_is_new F) (fun p hp => Nat.ne_of_lt (Heap.lt_size (N p hp).1)) ⟨⟨_, Heap.get?_push_size _ rfl, rfl, rfl⟩, hls.at fun o e => Heap.get?_push_of_some _ e⟩ (F.push _) (fun p hp => ⟨Heap.get?_push_of_some _ (N p hp).1, (N p hp).2⟩) J hj ?_ ?_ (fun i v s₁ Q' E' st q => ht _ v s₁ Q' E' (let ⟨⟨o, a, b, _⟩, _⟩ := st; ⟨o, a, b⟩) q)
  · intro hm
    rcases List.mem_cons.mp hm with e | hm
    · exact absurd F.ns.lt (e ▸ Nat.lt_irrefl _)
    · exact (N _ hl).2.1 ((List.mem_singleton.mp hm).symm)
  · intro i v own m nx h tk hi _ _ hP hJ ho hx F' N'
    refine turn i v s.heap.objs.size own m nx h tk (by simpa using hP) hJ (fun p hp => Heap.lt_size (N p hp).1) (fun p hp => ?_) hx F' N'
    rcases List.mem_cons.mp (ho p hp) with e | e
    · exact .inl e
    · exact .inr (List.mem_singleton.mp e)
  · intro m nx h tk hJ F' N'
    exact done m nx h tk (by simpa using hJ) F' N'
theorem for_range {r : Addr} {b : Int} {t u v : Tok} {n : Nat} {m₀ : Str → Option Value} {news : List (Addr × Obj)} (J : Nat → (Str → Option Value) → List (Addr × Obj) → Prop)
    (hh : A.handled = none) (hE : PassesOwn (model prog w) A env E) (hr : IsRange s.heap r 0 b 1 t u v) (hb : b = (n : Int)) (hn : n ≤ 1000) (F : Fr h₀ env.locals s.heap m₀) (N : News h₀ env.locals s.heap news) (hj : J 0 m₀ news)
    (turn : ∀ i v ia own m nx h tk, i < n → isI (i : Int) v → J i m nx → (∀ p ∈ news, LtA p.1 ia) → (∀ p ∈ own, p.1 = ia) → (∀ p ∈ own, ∃ x1 x2 x3 : Int, p.2.data = .fields #[rawInt x1, rawInt x2, rawInt x3]) → (∃ o, (ia, o) ∈ own) → (∀ p ∈ nx, p.1 ≠ ia) → Fr h₀ env.locals h m → News h₀ env.locals h (own ++ nx) →
      wpAny (model prog w) A (assign target env v) (fun _ s₂ => wpAny (model prog w) A (execs body env) (GenPost h₀ env.locals ia own (J (i + 1)) { s with heap := h, toks := tk } Q) E s₂) E { s with heap := h, toks := tk })
    (done : ∀ m nx h tk, J n m nx → Fr h₀ env.locals h m → News h₀ env.locals h nx → Q .next { s with heap := h, toks := tk })
    (ht : ∀ I v, letOwnedTupleGo target (.ref I) v = pure () := by intro _ _; rfl) :
    wpAny (model prog w) A (pyIter (.ref r)) (fun it s₂ => ForCode prog w A E env target body Q it s₂) E s := by
  subst hb
  have hrs : Builtin.Range.rangeSize 0 (n : Int) 1 = (n : Int) := by rw [rangeSize_nat]; omega
  refine wpAny_pyIter_range hr (small_one (by decide) (by decide) (by omega) (by omega)) ?_
  refine for_core (Walks.range (prog := prog) (w := w) hh s.heap.objs.size 0 1 n) hE ?_ (next_is_new F) (fun p hp => Nat.ne_of_lt (Heap.lt_size (N p hp).1)) ?_ (F.push _) (fun p hp => ⟨Heap.get?_push_of_some _ (N p hp).1, (N p hp).2⟩) J hj ?_ done (fun i v s₁ Q' E' _ q => by rw [ht]; exact wpAny_pure q)
  · intro hm
    exact absurd F.ns.lt ((List.mem_singleton.mp hm) ▸ Nat.lt_irrefl _)
  · rw [hrs]
    have := Heap.get?_push_size s.heap (o := { cls := .type "range_iterator", data := .fields #[rawInt 0, rawInt (n : Int), rawInt 1] }) rfl
    rw [show (0 : Int) + ((0 : Nat) : Int) * 1 = 0 by omega, show (n : Int) - ((0 : Nat) : Int) = n by omega]
    exact this
  · intro i v own m nx h tk hi hst hown hP hJ ho hx F' N'
    obtain ⟨t, e⟩ := hP
    obtain ⟨x1, x2, x3, g2⟩ : ∃ x1 x2 x3 : Int, h.get? s.heap.objs.size = some { cls := .type "range_iterator", data := .fields #[rawInt x1, rawInt x2, rawInt x3] } := ⟨_, _, _, hst⟩
    have hfl : ∀ p ∈ own, ∃ x1 x2 x3 : Int, p.2.data = .fields #[rawInt x1, rawInt x2, rawInt x3] := fun p hp => by
      have g1 := (N' p (List.mem_append_left _ hp)).1
      rw [List.mem_singleton.mp (ho p hp), g2] at g1
      exact ⟨x1, x2, x3, (congrArg Obj.data (Option.some.inj g1)).symm⟩
    have hex : ∃ o, (s.heap.objs.size, o) ∈ own := ⟨_, hown _ (.head _) (next_is_new F) _ g2⟩
    exact turn i v s.heap.objs.size own m nx h tk hi ⟨t, by rw [e]; congr 1; omega⟩ hJ (fun p hp => Heap.lt_size (N p hp).1) (fun p hp => List.mem_singleton.mp (ho p hp)) hfl hex hx F' N'
end
section
variable {prog : Program} {w : World} {A : Around} {E : Value → Shared → Prop} {s : Shared} {env : Env} {h₀ : Heap} {target : PySem.Expr} {body : List Stmt} {Q : Flow → Shared → Prop}
def CellsIn (cs : List Addr) (nx : List (Addr × Obj)) : Prop := ∀ c ∈ cs, ∃ o v, (c, o) ∈ nx ∧ o.data = .cell v
/-- a turn that may set the cells cs and the names st -/
def CEnd (h₀ : Heap) (L : Addr) (st : List Str) (cs : List Addr) (m₀ : Str → Option Value) (nb own : List (Addr × Obj)) (P : Prop) (s₁ s₂ : Shared) : Prop :=
  ∃ h' tk m' nw, s₂ = { s₁ with heap := h', toks := tk } ∧ Fr h₀ L h' m' ∧ News h₀ L h' nw ∧ (∀ p ∈ own, p ∈ nw) ∧ (∀ p ∈ nb, p.1 ∉ cs → p ∈ nw) ∧ CellsIn cs nw ∧ (∀ z, st.contains z = false → m' z = m₀ z) ∧ P
def CPost (h₀ : Heap) (L : Addr) (st : List Str) (cs : List Addr) (m₀ : Str → Option Value) (nb own : List (Addr × Obj)) (P : Prop) (s₁ : Shared) (Q : Flow → Shared → Prop) (f : Flow) (s₂ : Shared) : Prop :=
  match f with
  | .ret v => Q (.ret v) s₂
  | .brk => Q .next s₂
  | _ => CEnd h₀ L st cs m₀ nb own P s₁ s₂
theorem CEnd.intro {L : Addr} {st : List Str} {cs : List Addr} {m₀ m' : Str → Option Value} {nb own nw : List (Addr × Obj)} {P : Prop} {s₁ : Shared} {h' : Heap} {tk : Nat} (F : Fr h₀ L h' m') (N : News h₀ L h' nw) (ho : ∀ p ∈ own, p ∈ nw) (hb : ∀ p ∈ nb, p.1 ∉ cs → p ∈ nw) (hc : CellsIn cs nw) (hm : ∀ z, st.contains z = false → m' z = m₀ z) (p : P) :
    CEnd h₀ L st cs m₀ nb own P s₁ { s₁ with heap := h', toks := tk } := ⟨h', tk, m', nw, rfl, F, N, ho, hb, hc, hm, p⟩
theorem st_map {st : List Str} {m m₀ : Str → Option Value} (h : ∀ z, st.contains z = false → m z = m₀ z) : m = fun y => if st.contains y = true then m y else m₀ y := by
  funext y
  cases q : st.contains y with
  | true => simp
  | false => simp only [Bool.false_eq_true, if_false]; exact h y q
theorem for_listC {l : Addr} {vs : List Value} {nn : Nat} {m₀ : Str → Option Value} {nb : List (Addr × Obj)} (st : List Str) (cs : List Addr) (P : Nat → Prop)
    (hh : A.handled = none) (hE : PassesOwn (model prog w) A env E) (hl : (l, listOf vs.toArray nn) ∈ nb) (F : Fr h₀ env.locals s.heap m₀) (N : News h₀ env.locals s.heap nb) (hcs : CellsIn cs nb) (hp : P 0)
    (turn : ∀ i v ia own (u : Str → Option Value) nx h tk, vs[i]? = some v → P i → (∀ p ∈ nb, p.1 ∉ cs → p ∈ nx) → CellsIn cs nx → (∀ p ∈ nb, LtA p.1 ia) → (∀ p ∈ own, p.1 = ia ∨ p.1 = l) → Fr h₀ env.locals h (fun y => if st.contains y = true then u y else m₀ y) → News h₀ env.locals h (own ++ nx) → ∀ (Qx : Flow → Shared → Prop) (Ex : Value → Shared → Prop), (∀ {s₂}, CEnd h₀ env.locals st cs m₀ nb own (P (i + 1)) { s with heap := h, toks := tk } s₂ → Qx .next s₂) →
      wpAny (model prog w) A (assign target env v) (fun _ s₂ => wpAny (model prog w) A (execs body env) Qx Ex s₂) Ex { s with heap := h, toks := tk })
    (done : ∀ (u : Str → Option Value) nx h tk, P vs.length → (∀ p ∈ nb, p.1 ∉ cs → p ∈ nx) → CellsIn cs nx → Fr h₀ env.locals h (fun y => if st.contains y = true then u y else m₀ y) → News h₀ env.locals h nx → Q .next { s with heap := h, toks := tk })
    (ht : GoesOn prog w A target) :
    wpAny (model prog w) A (pyIter (.ref l)) (fun it s₂ => ForCode prog w A E env target body Q it s₂) E s := by
  refine for_list (fun i m nx => P i ∧ (∀ p ∈ nb, p.1 ∉ cs → p ∈ nx) ∧ CellsIn cs nx ∧ ∀ z, st.contains z = false → m z = m₀ z) hh hE hl F N ⟨hp, fun p hp _ => hp, hcs, fun _ _ => rfl⟩ ?_ ?_ ht
  · rintro i v ia own m nx h tk hv ⟨p, h1, h2, h3⟩ hia ho hx F' N'
    rw [st_map h3] at F'
    refine wpAny_mono (turn i v ia own m nx h tk hv p h1 h2 hia ho F' N' (CPost h₀ env.locals st cs m₀ nb own (P (i + 1)) { s with heap := h, toks := tk } Q) E (fun h => h)) (fun _ s₂ h₂ => wpAny_mono h₂ (fun f s₃ h₃ => ?_) fun _ _ e => e) fun _ _ e => e
    have fin : CEnd h₀ env.locals st cs m₀ nb own (P (i + 1)) { s with heap := h, toks := tk } s₃ → GenEnd h₀ env.locals ia own (fun m nx => P (i + 1) ∧ (∀ p ∈ nb, p.1 ∉ cs → p ∈ nx) ∧ CellsIn cs nx ∧ ∀ z, st.contains z = false → m z = m₀ z) { s with heap := h, toks := tk } s₃ := by
      rintro ⟨h', tk', m', nw, e, F2, N2, ho2, hb2, hc2, hm2, p2⟩
      refine ⟨h', tk', m', nw, nw.filter (fun p => p.1 != ia), e, F2, N2, ho2, fun p hp => ⟨by simpa using (List.mem_filter.mp hp).2, (List.mem_filter.mp hp).1⟩, p2, fun p hp hn => List.mem_filter.mpr ⟨hb2 p hp hn, by simpa using Nat.ne_of_lt (hia p hp)⟩, fun c hc => ?_, hm2⟩
      obtain ⟨o, v, ho, hd⟩ := hc2 c hc
      obtain ⟨o0, _, ho0, _⟩ := hcs c hc
      exact ⟨o, v, List.mem_filter.mpr ⟨ho, by simpa using Nat.ne_of_lt (hia _ ho0)⟩, hd⟩
    cases f with
    | ret v => exact h₃
    | brk => exact h₃
    | next => exact fin h₃
    | cont => exact fin h₃
  · rintro m nx h tk ⟨p, h1, h2, h3⟩ F' N'
    rw [st_map h3] at F'
    exact done m nx h tk p h1 h2 F' N'
end
section
variable {M : Model} {A : Around} {E : Value → Shared → Prop} {s : Shared} {h₀ : Heap} {L a : Addr} {m : Str → Option Value} {cn : Str} {cs : Scope} {ccd : Value} {cl : List (Str × Addr)} {x : Str} {v : Value} {Q : Unit → Shared → Prop} {news : List (Addr × Obj)} {c : Addr} {o : Obj} {v₀ : Option Value}
theorem storeC_A (F : Fr h₀ L s.heap m) (N : News h₀ L s.heap news) (hc : cl.lookup x = some c) (hm : (c, o) ∈ news) (hd : o.data = .cell v₀)
    (h : ∀ h' o', Fr h₀ L h' m → News h₀ L h' (put news c o') → o'.data = .cell (some v) → Q () { s with heap := h' })
    (hk : cs.kind = .function := by rfl) (hx : (envX cn cs L a ccd cl).kindOf x = some .cell := by rfl) : wpAny M A (storeName (envX cn cs L a ccd cl) x v) Q E s :=
  storeX_C F (front N hm) hc put_updF hd h hk hx
end
theorem cellsIn_one {c : Addr} {o : Obj} {v : Option Value} {nb : List (Addr × Obj)} (hm : (c, o) ∈ nb) (hd : o.data = .cell v) : CellsIn [c] nb := fun c' hc => by
  rw [List.mem_singleton.mp hc]
  exact ⟨o, v, hm, hd⟩
theorem cell_turn {C : Prop} {h₀ h : Heap} {L : Addr} {own nx nb news : List (Addr × Obj)} {c d ia l : Addr} {o o2 : Obj} (N : News h₀ L h (put (own ++ nx) c o)) (up : ∀ p ∈ news, p ∈ nx) (nl : ∀ p ∈ news, p.1 ≠ c) (hT : (d, o2) ∈ nx) (hd : d ≠ c) (ho : ∀ p ∈ own, p.1 = ia ∨ p.1 = l) (hi : ia ≠ c) (hl : l ≠ c) (hnb : ∀ p ∈ nb, p.1 ∉ [c] → p ∈ nx)
    (k : ∀ nw, News h₀ L h nw → (∀ p ∈ news, p ∈ nw) → (c, o) ∈ nw → (d, o2) ∈ nw → (∀ p ∈ own, p ∈ nw) → (∀ p ∈ nb, p.1 ∉ [c] → p ∈ nw) → C) : C :=
  k _ N (fun p hp => mem_put_ne (List.mem_append_right _ (up p hp)) (nl p hp)) (mem_put_self _ _ _) (mem_put_ne (List.mem_append_right _ hT) hd) (put_own ho hi hl) fun p hp hn => mem_put_ne (List.mem_append_right _ (hnb p hp hn)) fun e => hn (e ▸ .head _)
theorem notin_yes {prog : Program} {w : World} {A : Around} {E : Value → Shared → Prop} {s : Shared} {h₀ : Heap} {L D : Addr} {news : List (Addr × Obj)} {vs : List Value} {n : Nat} {Q : Value → Shared → Prop} {us : List Int} {k : Int} {t : Tok} (N : News h₀ L s.heap news) (hm : (D, listOf vs.toArray n) ∈ news) (hi : IntsAre vs us) (h1 : k ∈ us) (h : Q (.bool false) s) : wpAny (model prog w) A (compareOp .NotIn (.int k t) (.ref D)) Q E s :=
  notin_intsA N hm hi (by rw [List.any_eq_true.mpr ⟨k, h1, by simp⟩]; exact h)
theorem notin_no {prog : Program} {w : World} {A : Around} {E : Value → Shared → Prop} {s : Shared} {h₀ : Heap} {L D : Addr} {news : List (Addr × Obj)} {vs : List Value} {n : Nat} {Q : Value → Shared → Prop} {us : List Int} {k : Int} {t : Tok} (N : News h₀ L s.heap news) (hm : (D, listOf vs.toArray n) ∈ news) (hi : IntsAre vs us) (h1 : k ∉ us) (h : Q (.bool true) s) : wpAny (model prog w) A (compareOp .NotIn (.int k t) (.ref D)) Q E s :=
  notin_intsA N hm hi (by rw [List.any_eq_false.mpr fun x hx => by simp; rintro rfl; exact h1 hx]; exact h)
theorem slice_idx (n : Nat) : Builtin.Str.strSliceIndices none (some 1) 1 (n + 1) = [0] := by
  unfold Builtin.Str.strSliceIndices sliceRange
  simp
  refine (fun (x : Int) (h : x = 1) => (by rw [h]; rfl : List.range x.toNat = [0])) _ ?_
  split <;> omega
theorem slice_one (x : Str) : (Txt.slice x none (some 1) == Str.ofString " ") = Txt.startswith x (Str.ofString " ") := by
  obtain ⟨⟨l⟩⟩ := x
  have e32 : (Str.ofString " ") = ⟨#[32]⟩ := by decide +kernel
  rw [e32]
  cases l with
  | nil => decide +kernel
  | cons a r =>
    have hl : (⟨⟨a :: r⟩⟩ : Str).length = r.length + 1 := rfl
    have h1 : Txt.slice ⟨⟨a :: r⟩⟩ none (some 1) = ⟨#[a]⟩ := by
      unfold Txt.slice
      rw [hl, slice_idx]
      cases r with
      | nil => rfl
      | cons b r => rw [if_neg (by simp)]; rfl
    have h2 : Txt.startswith ⟨⟨a :: r⟩⟩ ⟨#[32]⟩ = ((#[a] : Array Nat) == #[32]) := by
      unfold Txt.startswith Builtin.Str.subAt
      rw [hl]
      have : (0 + (⟨#[32]⟩ : Str).length ≤ r.length + 1) := by show 0 + 1 ≤ _; omega
      rw [decide_eq_true this, Bool.true_and]
      have e : (⟨⟨a :: r⟩⟩ : Str).cps.extract 0 (0 + (⟨#[32]⟩ : Str).length) = #[a] := by
        show (Array.mk (a :: r)).extract 0 1 = #[a]
        simp
      rw [e]
    rw [h1, h2]
    by_cases h : a = 32
    · subst h; rfl
    · rw [beq_eq_false_iff_ne.mpr (fun e => h (by injection e with e; simpa using e)), beq_eq_false_iff_ne.mpr (fun e => h (by simpa using e))]
theorem filter_none {ns : List Int} {p : Int → Bool} (h : ns.find? p = none) : ns.filter p = [] := by
  rw [List.filter_eq_nil_iff]
  intro a ha
  simpa using List.find?_eq_none.mp h a ha
theorem filter_some {ns : List Int} {p : Int → Bool} {n : Int} (h : ns.find? p = some n) : ∃ r, ns.filter p = n :: r := by
  have e : (ns.filter p).head? = some n := by rw [List.head?_filter]; exact h
  cases q : ns.filter p with
  | nil => rw [q] at e; cases e
  | cons a r => rw [q] at e; cases e; exact ⟨r, rfl⟩
theorem not_in3 {a b c z : Str} (h : [a, b, c].contains z = false) : z ≠ a ∧ z ≠ b ∧ z ≠ c := by
  simp at h
  exact h
theorem not_in4 {a b c d z : Str} (h : [a, b, c, d].contains z = false) : z ≠ a ∧ z ≠ b ∧ z ≠ c ∧ z ≠ d := by
  simp at h
  exact h
section
variable {w : World} {news news' : List (Addr × Obj)} {t0 dT R O tt : Addr} {lb lm : Int} {ns ns' : List Int} {nm : Int → Str} {c c' : Int} {bf : Int → BA} {mk : Int → MA} {mods : List Addr}
theorem St.low (S : St w news t0 dT R O tt lb lm ns nm c bf mk) {x : Addr} (hx : x = dT ∨ x = O ∨ x = R) : LtA x tt := by
  obtain ⟨_, h2, h3, h4⟩ := S.o1
  rcases hx with rfl | rfl | rfl <;> assumption
theorem St.buf_lt (S : St w news t0 dT R O tt lb lm ns nm c bf mk) {n : Int} (h1 : 1 ≤ n) (h2 : n ≤ lb) : LtA (bf n).db (bf n).mr := by
  obtain ⟨_, a1, a2, a3, a4, a5, a6, a7⟩ := S.o2 n h1 h2
  exact Nat.lt_trans a1 (Nat.lt_trans a2 (Nat.lt_trans a3 (Nat.lt_trans a4 (Nat.lt_trans a5 (Nat.lt_trans a6 a7)))))
theorem St.move (S : St w news t0 dT R O tt lb lm ns nm c bf mk) (e : Ext mods news news') (hm : ∀ x ∈ mods, x = dT ∨ x = O ∨ x = R)
    (T : ∃ es nT oR vs nO kvs, Tbl w news' t0 dT R O es nT oR vs nO c' lb lm kvs ns' ∧ (∀ n ∈ ns', valueAt kvs n = some (.ref (bf n).b)) ∧ (kvs.map (·.1)).Perm ns') (hp : ns'.Perm ns) : St w news' t0 dT R O tt lb lm ns' nm c' bf mk where
  T := T
  nd := (hp.nodup_iff).mpr S.nd
  rng := fun n hn => S.rng n (hp.mem_iff.mp hn)
  lms := S.lms
  bufs := fun n hn => (S.bufs n (hp.mem_iff.mp hn)).ext e fun x hx => .inl (by
    have r := S.rng n (hp.mem_iff.mp hn)
    exact Nat.lt_trans (S.low (hm x hx)) (S.o2 n r.1 r.2).1)
  mks := fun n h1 h2 => by
    have q := (S.mks n h1 h2).ext e fun x hx => .inl (by
      have l := S.lms
      exact Nat.lt_trans (S.low (hm x hx)) (Nat.lt_trans (S.o2 n h1 (by omega)).1 (Nat.lt_trans (S.buf_lt h1 (by omega)) (S.o3 n h1 h2).1)))
    simpa only [hp.mem_iff] using q
  o1 := S.o1
  o2 := S.o2
  o3 := S.o3
  o4 := S.o4
  o5 := S.o5
end
section
variable {w : World} {news news' : List (Addr × Obj)} {t0 dT R O tt : Addr} {lb lm : Int} {ns ns' : List Int} {nm : Int → Str} {c c' : Int} {bf : Int → BA} {mk : Int → MA} {mods : List Addr} {h₀ h : Heap} {L : Addr}
  {es es' : List DictEntry} {nT nO n2 nO' : Nat} {oR oR' : Obj} {vs vs' : List Value} {kvs : List (Int × Value)}
theorem Tbl.sel {k l : Int} (T : Tbl w news t0 dT R O es nT oR vs nO c l k kvs ns) (N : News h₀ L h news) (D : TabD es' R O c' l k) (hI : IntsAre vs' ns') :
    Tbl w (put (put news dT (dictOf es' n2)) O (listOf vs'.toArray nO')) t0 dT R O es' n2 oR vs' nO' c' l k kvs ns' := by
  obtain ⟨a1, a2, a3, a4, a5⟩ := T.apart N
  exact ⟨mem_put_ne (mem_put_ne T.hT a1) a3, mem_put_ne (mem_put_self _ _ _) a4, D, mem_put_ne (mem_put_ne T.hR T.ap) a5, T.lo, T.hRd, mem_put_self _ _ _, hI, T.ap⟩
theorem Tbl.ord {k l : Int} (T : Tbl w news t0 dT R O es nT oR vs nO c l k kvs ns) (N : News h₀ L h news) (hI : IntsAre vs' ns') :
    Tbl w (put news O (listOf vs'.toArray nO')) t0 dT R O es nT oR vs' nO' c l k kvs ns' := by
  obtain ⟨a1, a2, a3, a4, a5⟩ := T.apart N
  exact ⟨mem_put_ne T.hT a3, mem_put_ne T.hdT a4, T.D, mem_put_ne T.hR a5, T.lo, T.hRd, mem_put_self _ _ _, hI, T.ap⟩
theorem Tbl.ext {k l : Int} (T : Tbl w news t0 dT R O es nT oR vs nO c l k kvs ns) (e : Ext mods news news') (h1 : t0 ∉ mods) (h2 : dT ∉ mods) (h3 : R ∉ mods) (h4 : O ∉ mods) : Tbl w news' t0 dT R O es nT oR vs nO c l k kvs ns :=
  ⟨e _ T.hT h1, e _ T.hdT h2, T.D, e _ T.hR h3, T.lo, T.hRd, e _ T.hO h4, T.hI, T.ap⟩
theorem St.apartB (S : St w news t0 dT R O tt lb lm ns nm c bf mk) {n n' : Int} (h1 : 1 ≤ n) (h2 : n ≤ lb) (h1' : 1 ≤ n') (h2' : n' ≤ lb) (hne : n ≠ n') : LtA (bf n).mr (bf n').db ∨ LtA (bf n').mr (bf n).db := by
  rcases Int.lt_or_lt_of_ne hne with q | q
  · exact .inl (S.o5 n n' h1 q h2')
  · exact .inr (S.o5 n' n h1' q h2)
/-- the buffer num and the marker n lie apart -/
theorem St.apartM (S : St w news t0 dT R O tt lb lm ns nm c bf mk) {n num : Int} (h1 : 1 ≤ n) (h2 : n ≤ lm) (h1' : 1 ≤ num) (h2' : num ≤ lb) : LtA (bf num).mr (mk n).dm ∨ LtA (mk n).mi (bf num).db := by
  have l := S.lms
  rcases Int.lt_trichotomy n num with q | q | q
  · exact .inr (S.o4 n num h1 q h2 h2')
  · subst q; exact .inl (S.o3 n h1 h2).1
  · exact .inl (Nat.lt_trans (S.o5 num n h1' q (by omega)) (Nat.lt_trans (S.buf_lt h1 (by omega)) (S.o3 n h1 h2).1))
theorem St.rename {num : Int} {r : Str} {eb eb' : List DictEntry} {nb nb' : Nat} {t2 : Tok} (S : St w news t0 dT R O tt lb lm ns nm c bf mk) (hn : num ∈ ns) (D : BufD eb num (nm num) (bf num).tx (bf num).ms true)
    (g1 : getL "name" eb' = some (some (.str r t2))) (g2 : ∀ y, y ≠ Str.ofString "name" → getL y eb' = getL y eb) (g3 : eb'.length = eb.length) (N : News h₀ L h news) : St w (put news (bf num).db (dictOf eb' nb')) t0 dT R O tt lb lm ns (fun n => if n = num then r else nm n) c bf mk := by
  have rn := S.rng num hn
  have l := S.lms
  have e : Ext [(bf num).db] news (put news (bf num).db (dictOf eb' nb')) := (Ext.refl news).put
  obtain ⟨u1, u2, u3, u4⟩ := S.o1
  have v := (S.o2 num rn.1 rn.2).1
  have lo : ∀ {x : Addr}, LtA x tt → x ∉ [(bf num).db] := fun h hm => Nat.ne_of_lt (Nat.lt_trans h v) (List.mem_singleton.mp hm)
  refine ⟨?_, S.nd, S.rng, S.lms, fun n hn' => ?_, fun n h1 h2 => ?_, S.o1, S.o2, S.o3, S.o4, S.o5⟩
  · obtain ⟨es, nT, oR, vs, nO, kvs, T, h1, h2⟩ := S.T
    exact ⟨es, nT, oR, vs, nO, kvs, T.ext e (lo u1) (lo u2) (lo u3) (lo u4), h1, h2⟩
  · by_cases q : n = num
    · subst q
      simp only [if_true]
      obtain ⟨a1, ⟨ee, ne, a2, a2'⟩, a3, ⟨es1, n1, a4, a4'⟩, ⟨vs1, n5, a5, a5'⟩, a6, ⟨es3, n4, a7, a7'⟩, ⟨o, a8, a8'⟩, lo', ord⟩ := S.bufs n hn'
      have ord' := ord
      obtain ⟨o1, o2, o3, o4, o5, o6, o7⟩ := ord'
      have nx : ∀ {x : Addr}, LtA (bf n).db x → x ∉ [(bf n).db] := fun h hm => Nat.ne_of_gt h (List.mem_singleton.mp hm)
      have gn : ∀ y, y ≠ Str.ofString "name" → ∀ {v}, getL y eb = v → getL y eb' = v := fun y hy v h => (g2 y hy).trans h
      have D' : BufD eb' n r (bf n).tx (bf n).ms true := ⟨let ⟨t, h⟩ := D.number; ⟨t, gn _ (by decide) h⟩, ⟨t2, g1⟩, gn _ (by decide) D.live, gn _ (by decide) D.text, gn _ (by decide) D.markers, gn _ (by decide) D.size, g3.trans D.len⟩
      refine ⟨e _ a1 (nx o1), ⟨eb', nb', mem_put_self _ _ _, D'⟩, e _ a3 (nx ?_), ⟨es1, n1, e _ a4 (nx ?_), a4'⟩, ⟨vs1, n5, e _ a5 (nx ?_), a5'⟩, e _ a6 (nx ?_), ⟨es3, n4, e _ a7 (nx ?_), a7'⟩, ⟨o, e _ a8 (nx ?_), a8'⟩, lo', ord⟩ <;>
        (simp only [LtA] at *; omega)
    · simp only [if_neg q]
      have r' := S.rng n hn'
      refine (S.bufs n hn').ext e fun x hx => ?_
      rw [List.mem_singleton.mp hx]
      rcases S.apartB r'.1 r'.2 rn.1 rn.2 q with z | z
      · exact .inr z
      · exact .inl (Nat.lt_trans (S.buf_lt rn.1 rn.2) z)
  · refine (S.mks n h1 h2).ext e fun x hx => ?_
    rw [List.mem_singleton.mp hx]
    rcases S.apartM h1 h2 rn.1 rn.2 with z | z
    · exact .inl (Nat.lt_trans (S.buf_lt rn.1 rn.2) z)
    · exact .inr z
end
theorem valueAt_snoc {kvs : List (Int × Value)} {v : Value} {n : Int} (h : valueAt kvs n = some v) (k' : Int) (v' : Value) : valueAt (kvs ++ [(k', v')]) n = some v := by
  unfold valueAt at h ⊢
  rw [List.find?_append]
  cases q : kvs.find? (fun kv => kv.1 = n) with
  | none => rw [q] at h; cases h
  | some x => rw [q] at h; simpa using h
theorem valueAt_out {kvs : List (Int × Value)} {k : Int} (h : k ∉ kvs.map (·.1)) : valueAt kvs k = none := by
  unfold valueAt
  rw [List.find?_eq_none.mpr]
  · rfl
  · intro x hx
    simp only [decide_eq_true_eq]
    rintro rfl
    exact h (List.mem_map_of_mem hx)
theorem valueAt_without {kvs : List (Int × Value)} {k n : Int} (h : n ≠ k) : valueAt (without kvs k) n = valueAt kvs n := by
  unfold valueAt without
  rw [List.find?_filter]
  congr 2
  funext x
  by_cases q : x.1 = n
  · simp [q, h]
  · simp [q]
section
variable {w : World} {news news2 : List (Addr × Obj)} {t0 dT R O tt : Addr} {lb lm : Int} {ns : List Int} {nm : Int → Str} {c : Int} {bf : Int → BA} {mk : Int → MA} {h₀ h : Heap} {L : Addr}
  {es es1 : List DictEntry} {nT nO n1 nO' : Nat} {oR oR' : Obj} {vs : List Value} {kvs : List (Int × Value)}
theorem St.create {A : BA} {q : Str} {tn : Tok} (S : St w news t0 dT R O tt lb lb ns nm c bf mk) (T : Tbl w news t0 dT R O es nT oR vs nO c lb lb kvs ns) (hval : ∀ n ∈ ns, valueAt kvs n = some (.ref (bf n).b)) (hperm : (kvs.map (·.1)).Perm ns) (htt : ∃ o, (tt, o) ∈ news) (h10 : lb + 1 ≤ 10) (N : News h₀ L h news)
    (D1 : TabD es1 R O c (lb + 1) lb) (hR : oR'.IsDictOf (IK w) (stored kvs (lb + 1) (.ref A.b))) (hs : ∀ p ∈ put news dT (dictOf es1 n1), p ∈ news2) (hlt : ∀ p ∈ put news dT (dictOf es1 n1), LtA p.1 A.db) (hA : BufO w news2 A (lb + 1) q true []) :
    St w (put (put news2 R oR') O (listOf (vs ++ [Value.int (lb + 1) tn]).toArray nO')) t0 dT R O tt (lb + 1) lb (ns ++ [lb + 1]) (fun n => if n = lb + 1 then q else nm n) c (fun n => if n = lb + 1 then A else bf n) mk := by
  obtain ⟨a1, a2, a3, a4, a5⟩ := T.apart N
  have l := S.lms
  have e : Ext [O, R, dT] news (put (put news2 R oR') O (listOf (vs ++ [Value.int (lb + 1) tn]).toArray nO')) := (((Ext.refl news).put (d := dT)).sub hs).put.put
  have lts : ∀ {a o}, (a, o) ∈ news → a ≠ dT → LtA a A.db := fun {a o} hm hn => hlt (a, o) (mem_put_ne hm hn)
  have ltT : LtA tt A.db := by
    obtain ⟨o, ho⟩ := htt
    exact lts ho (Nat.ne_of_gt (S.low (.inl rfl)))
  have hout : lb + 1 ∉ ns := fun hm => by have := S.rng _ hm; omega
  have hkout : valueAt kvs (lb + 1) = none := valueAt_out fun hm => hout (hperm.mem_iff.mp hm)
  have est : stored kvs (lb + 1) (.ref A.b) = kvs ++ [(lb + 1, .ref A.b)] := stored_absent hkout _
  have ne1 : ∀ {n : Int}, n ≤ lb → n ≠ lb + 1 := fun h => by omega
  have low : ∀ x ∈ [O, R, dT], LtA x tt := fun x hx => S.low (by
    simp only [List.mem_cons, List.not_mem_nil, or_false] at hx
    rcases hx with h | h | h <;> simp [h])
  have mlt : ∀ {n : Int}, 1 ≤ n → n ≤ lb → LtA (mk n).mi A.db := fun {n} h1 h2 => by
    have M := S.mks n h1 h2
    exact lts M.hi (ne_obj N M.hi T.hdT (by simp))
  have ordA := hA.ord
  refine ⟨⟨es1, n1, oR', vs ++ [Value.int (lb + 1) tn], nO', kvs ++ [(lb + 1, .ref A.b)], ⟨?_, ?_, D1, ?_, T.lo, est ▸ hR, mem_put_self _ _ _, T.hI.append (.cons _ _ .nil), T.ap⟩, fun n hn => ?_, ?_⟩, ?_, fun n hn => ?_, ?_, fun n hn => ?_, fun n h1 h2 => ?_, S.o1, fun n h1 h2 => ?_, fun n h1 h2 => ?_, fun n n' h1 h2 h3 h4 => ?_, fun n n' h1 h2 h3 => ?_⟩
  · exact mem_put_ne (mem_put_ne (hs _ (mem_put_ne T.hT a1)) a2) a3
  · exact mem_put_ne (mem_put_ne (hs _ (mem_put_self _ _ _)) (Ne.symm T.ap)) a4
  · exact mem_put_ne (mem_put_self _ _ _) a5
  · rcases List.mem_append.mp hn with hn | hn
    · have r := S.rng n hn
      rw [if_neg (ne1 r.2)]
      exact valueAt_snoc (hval n hn) _ _
    · rw [List.mem_singleton.mp hn, if_pos rfl]
      unfold valueAt at hkout ⊢
      rw [List.find?_append]
      cases q : kvs.find? (fun kv => kv.1 = lb + 1) with
      | none => simp
      | some x => rw [q] at hkout; cases hkout
  · rw [List.map_append]
    exact hperm.append_right _
  · rw [List.nodup_append]
    refine ⟨S.nd, by simp, fun a ha b hb => ?_⟩
    rw [List.mem_singleton.mp hb]
    rintro rfl
    exact hout ha
  · rcases List.mem_append.mp hn with hn | hn
    · have r := S.rng n hn; omega
    · rw [List.mem_singleton.mp hn]; omega
  · omega
  · rcases List.mem_append.mp hn with hn | hn
    · have r := S.rng n hn
      simp only [if_neg (ne1 r.2)]
      exact (S.bufs n hn).ext e fun x hx => .inl (Nat.lt_trans (low x hx) (S.o2 n r.1 r.2).1)
    · rw [List.mem_singleton.mp hn]
      simp only [if_true]
      rw [if_neg (by omega)]
      have e2 : Ext [O, R] news2 (put (put news2 R oR') O (listOf (vs ++ [Value.int (lb + 1) tn]).toArray nO')) := (Ext.refl news2).put.put
      exact hA.ext e2 fun x hx => .inl (Nat.lt_trans (low x (by
        simp only [List.mem_cons, List.not_mem_nil, or_false] at hx ⊢
        rcases hx with h | h <;> simp [h])) ltT)
  · have q := (S.mks n h1 h2).ext e fun x hx => .inl (Nat.lt_trans (low x hx) (Nat.lt_trans (S.o2 n h1 h2).1 (Nat.lt_trans (S.buf_lt h1 h2) (S.o3 n h1 h2).1)))
    have hn : (n ∈ ns ++ [lb + 1]) ↔ n ∈ ns := by simp [ne1 h2]
    simp only [hn, if_neg (ne1 h2)]
    exact q
  · by_cases qn : n = lb + 1
    · simp only [if_pos qn]
      exact ⟨ltT, ordA⟩
    · simp only [if_neg qn]
      exact S.o2 n h1 (by omega)
  · simp only [if_neg (ne1 h2)]
    exact S.o3 n h1 h2
  · by_cases qn : n' = lb + 1
    · simp only [if_pos qn]
      exact mlt h1 h3
    · simp only [if_neg qn]
      exact S.o4 n n' h1 h2 h3 (by omega)
  · have hnb : n ≤ lb := by omega
    simp only [if_neg (ne1 hnb)]
    by_cases qn : n' = lb + 1
    · simp only [if_pos qn]
      exact Nat.lt_trans (S.o3 n h1 hnb).1 (Nat.lt_trans (S.o3 n h1 hnb).2 (mlt h1 hnb))
    · simp only [if_neg qn]
      exact S.o5 n n' h1 h2 (by omega)
end
section
variable {w : World} {news news2 : List (Addr × Obj)} {t0 dT R O tt : Addr} {lb lm : Int} {ns : List Int} {nm : Int → Str} {c : Int} {bf : Int → BA} {mk : Int → MA} {h₀ h : Heap} {L : Addr}
  {es es1 : List DictEntry} {nT nO n1 nO' : Nat} {oR oR' : Obj} {vs vs' : List Value} {kvs : List (Int × Value)}
theorem St.marker {M : MA} {om : Obj} {ed : List DictEntry} {nd : Nat} (S : St w news t0 dT R O tt (lm + 1) lm ns nm c bf mk) (T : Tbl w news t0 dT R O es nT oR vs nO c (lm + 1) lm kvs ns) (hval : ∀ n ∈ ns, valueAt kvs n = some (.ref (bf n).b)) (hperm : (kvs.map (·.1)).Perm ns) (hl : lm + 1 ∈ ns) (N : News h₀ L h news)
    (D1 : TabD es1 R O c (lm + 1) (lm + 1)) (ho : om.IsDictOf (IK w) [(lm + 1, .ref M.mi)]) (hk : MkD ed (lm + 1) (.ref (bf (lm + 1)).b) 1) (hM : LtA M.dm M.mi) (hlt : ∀ p ∈ news, LtA p.1 M.dm) (e : Ext [dT, (bf (lm + 1)).mr] news news2)
    (m1 : (dT, dictOf es1 n1) ∈ news2) (m2 : ((bf (lm + 1)).mr, om) ∈ news2) (m3 : (M.mi, instObj 185 M.dm) ∈ news2) (m4 : (M.dm, dictOf ed nd) ∈ news2) :
    St w news2 t0 dT R O tt (lm + 1) (lm + 1) ns nm c bf (fun n => if n = lm + 1 then M else mk n) := by
  obtain ⟨a1, a2, a3, a4, a5⟩ := T.apart N
  have l := S.lms
  obtain ⟨u1, u2, u3, u4⟩ := S.o1
  have hA := S.bufs _ hl
  have rl := S.rng _ hl
  have o2l := S.o2 _ rl.1 rl.2
  have blt := S.buf_lt rl.1 rl.2
  have tmr : LtA tt (bf (lm + 1)).mr := Nat.lt_trans o2l.1 blt
  have lo : ∀ {x : Addr}, LtA x tt → x ≠ dT → x ∉ [dT, (bf (lm + 1)).mr] := fun h1 h2 hm => by
    simp only [List.mem_cons, List.not_mem_nil, or_false] at hm
    rcases hm with z | z
    · exact h2 z
    · exact Nat.ne_of_lt (Nat.lt_trans h1 tmr) z
  have ne1 : ∀ {n : Int}, n ≤ lm → n ≠ lm + 1 := fun h => by omega
  have mrlt : LtA (bf (lm + 1)).mr M.dm := let ⟨o, h, _⟩ := hA.hmr; hlt _ h
  refine ⟨⟨es1, n1, oR, vs, nO, kvs, ⟨e _ T.hT (lo u1 a1), m1, D1, e _ T.hR (lo u3 T.ap), T.lo, T.hRd, e _ T.hO (lo u4 (Ne.symm a4)), T.hI, T.ap⟩, hval, hperm⟩, S.nd, S.rng, by omega, fun n hn => ?_, fun n h1 h2 => ?_, S.o1, S.o2, fun n h1 h2 => ?_, fun n n' h1 h2 h3 h4 => ?_, S.o5⟩
  · have r := S.rng n hn
    by_cases q : n = lm + 1
    · subst q
      rw [if_pos (by omega), if_pos rfl]
      obtain ⟨b1, ⟨ee, ne, b2, b2'⟩, b3, ⟨es1', n1', b4, b4'⟩, ⟨vs1, n5, b5, b5'⟩, b6, ⟨es3, n4, b7, b7'⟩, _, lo', ord⟩ := hA
      have ord' := ord
      obtain ⟨o1, o2, o3, o4, o5, o6, o7⟩ := ord'
      have lo1 : LtA dT (bf (lm + 1)).db := Nat.lt_trans u2 o2l.1
      have nx : ∀ {x : Addr}, LtA dT x → LtA x (bf (lm + 1)).mr → x ∉ [dT, (bf (lm + 1)).mr] := fun h1 h2 hm => by
        simp only [List.mem_cons, List.not_mem_nil, or_false] at hm
        rcases hm with z | z
        · exact Nat.ne_of_gt h1 z
        · exact Nat.ne_of_lt h2 z
      have k2 := Nat.lt_trans lo1 o1
      have k3 := Nat.lt_trans k2 o2
      have k4 := Nat.lt_trans k3 o3
      have k5 := Nat.lt_trans k4 o4
      have k6 := Nat.lt_trans k5 o5
      have k7 := Nat.lt_trans k6 o6
      have j6 := Nat.lt_trans o6 o7
      have j5 := Nat.lt_trans o5 j6
      have j4 := Nat.lt_trans o4 j5
      have j3 := Nat.lt_trans o3 j4
      have j2 := Nat.lt_trans o2 j3
      have j1 := Nat.lt_trans o1 j2
      refine ⟨e _ b1 (nx ?_ ?_), ⟨ee, ne, e _ b2 (nx ?_ ?_), b2'⟩, e _ b3 (nx ?_ ?_), ⟨es1', n1', e _ b4 (nx ?_ ?_), b4'⟩, ⟨vs1, n5, e _ b5 (nx ?_ ?_), b5'⟩, e _ b6 (nx ?_ ?_), ⟨es3, n4, e _ b7 (nx ?_ ?_), b7'⟩, ⟨om, m2, ho⟩, lo', ord⟩ <;> assumption
    · have hle : n ≤ lm := by omega
      have B := S.bufs n hn
      rw [if_pos hle] at B
      rw [if_pos (by omega), if_neg q]
      refine B.ext e fun x hx => ?_
      simp only [List.mem_cons, List.not_mem_nil, or_false] at hx
      rcases hx with rfl | rfl
      · exact .inl (Nat.lt_trans u2 (S.o2 n r.1 r.2).1)
      · rcases S.apartB r.1 r.2 rl.1 rl.2 q with z | z
        · exact .inr (Nat.lt_trans z blt)
        · exact .inl z
  · by_cases q : n = lm + 1
    · subst q
      simp only [if_true, if_pos hl]
      exact ⟨m3, ⟨ed, nd, m4, hk⟩, hM⟩
    · have hle : n ≤ lm := by omega
      simp only [if_neg q]
      refine (S.mks n h1 hle).ext e fun x hx => ?_
      simp only [List.mem_cons, List.not_mem_nil, or_false] at hx
      rcases hx with rfl | rfl
      · exact .inl (Nat.lt_trans u2 (Nat.lt_trans (S.o2 n h1 (by omega)).1 (Nat.lt_trans (S.buf_lt h1 (by omega)) (S.o3 n h1 hle).1)))
      · rcases S.apartM h1 hle rl.1 rl.2 with z | z
        · exact .inl z
        · exact .inr (Nat.lt_trans z blt)
  · by_cases q : n = lm + 1
    · subst q
      simp only [if_true]
      exact ⟨mrlt, hM⟩
    · simp only [if_neg q]
      exact S.o3 n h1 (by omega)
  · have : n ≤ lm := by omega
    simp only [if_neg (ne1 this)]
    exact S.o4 n n' h1 h2 this h4
end
section
variable {w : World} {news news2 : List (Addr × Obj)} {t0 dT R O tt : Addr} {lb : Int} {ns : List Int} {nm : Int → Str} {c c' : Int} {bf : Int → BA} {mk : Int → MA} {h₀ h : Heap} {L : Addr}
  {es es2 : List DictEntry} {nT nO n2 nO' : Nat} {oR oR' : Obj} {vs vs' : List Value} {kvs : List (Int × Value)}
theorem St.kill {num : Int} {ed : List DictEntry} {nd : Nat} (S : St w news t0 dT R O tt lb lb ns nm c bf mk) (T : Tbl w news t0 dT R O es nT oR vs nO c lb lb kvs ns) (hval : ∀ n ∈ ns, valueAt kvs n = some (.ref (bf n).b)) (hperm : (kvs.map (·.1)).Perm ns) (hn : num ∈ ns) (N : News h₀ L h news)
    (D2 : TabD es2 R O c' lb lb) (hR : oR'.IsDictOf (IK w) (without kvs num)) (hI : IntsAre vs' (ns.erase num)) (hk : MkD ed num .none 0) (e : Ext [dT, O, R, (bf num).db, (bf num).mr, (mk num).dm] news news2)
    (m1 : (dT, dictOf es2 n2) ∈ news2) (m2 : (R, oR') ∈ news2) (m3 : (O, listOf vs'.toArray nO') ∈ news2) (m4 : ((mk num).dm, dictOf ed nd) ∈ news2) :
    St w news2 t0 dT R O tt lb lb (ns.erase num) nm c' bf mk := by
  obtain ⟨a1, a2, a3, a4, a5⟩ := T.apart N
  have l := S.lms
  obtain ⟨u1, u2, u3, u4⟩ := S.o1
  have r := S.rng num hn
  have v := (S.o2 num r.1 r.2).1
  have bl := S.buf_lt r.1 r.2
  obtain ⟨w1, w2⟩ := S.o3 num r.1 r.2
  have hmem : ∀ n, n ∈ ns.erase num ↔ n ∈ ns ∧ n ≠ num := fun n => by rw [S.nd.mem_erase_iff]; exact and_comm
  have inM : ∀ {x : Addr}, x ∈ [dT, O, R, (bf num).db, (bf num).mr, (mk num).dm] → LtA x tt ∨ x = (bf num).db ∨ x = (bf num).mr ∨ x = (mk num).dm := fun hx => by
    simp only [List.mem_cons, List.not_mem_nil, or_false] at hx
    rcases hx with z | z | z | z | z | z
    · exact .inl (z ▸ u2)
    · exact .inl (z ▸ u4)
    · exact .inl (z ▸ u3)
    · exact .inr (.inl z)
    · exact .inr (.inr (.inl z))
    · exact .inr (.inr (.inr z))
  refine ⟨⟨es2, n2, oR', vs', nO', without kvs num, ⟨e _ T.hT ?_, m1, D2, m2, T.lo, hR, m3, hI, T.ap⟩, fun n hn' => ?_, ?_⟩, S.nd.erase _, fun n hn' => S.rng n ((hmem n).mp hn').1, S.lms, fun n hn' => ?_, fun n h1 h2 => ?_, S.o1, S.o2, S.o3, S.o4, S.o5⟩
  · intro hm
    simp only [List.mem_cons, List.not_mem_nil, or_false] at hm
    rcases hm with z | z | z | z | z | z
    · exact a1 z
    · exact a3 z
    · exact a2 z
    · exact Nat.ne_of_lt (Nat.lt_trans u1 v) z
    · exact Nat.ne_of_lt (Nat.lt_trans u1 (Nat.lt_trans v bl)) z
    · exact Nat.ne_of_lt (Nat.lt_trans u1 (Nat.lt_trans v (Nat.lt_trans bl w1))) z
  · obtain ⟨q1, q2⟩ := (hmem n).mp hn'
    rw [valueAt_without q2]
    exact hval n q1
  · have e1 : (without kvs num).map (·.1) = (kvs.map (·.1)).filter (fun k => k ≠ num) := by
      unfold without
      rw [List.filter_map]
      rfl
    rw [e1, S.nd.erase_eq_filter]
    have p := hperm.filter (fun k => k ≠ num)
    refine p.trans (List.Perm.of_eq ?_)
    congr 1
    funext x
    simp [bne, BEq.beq]
  · obtain ⟨q1, q2⟩ := (hmem n).mp hn'
    have r' := S.rng n q1
    refine (S.bufs n q1).ext e fun x hx => ?_
    rcases inM hx with z | z | z | z
    · exact .inl (Nat.lt_trans z (S.o2 n r'.1 r'.2).1)
    · rw [z]
      rcases S.apartB r'.1 r'.2 r.1 r.2 q2 with y | y
      · exact .inr y
      · exact .inl (Nat.lt_trans bl y)
    · rw [z]
      rcases S.apartB r'.1 r'.2 r.1 r.2 q2 with y | y
      · exact .inr (Nat.lt_trans y bl)
      · exact .inl y
    · rw [z]
      rcases S.apartM r.1 r.2 r'.1 r'.2 with y | y
      · exact .inr y
      · exact .inl (Nat.lt_trans w2 y)
  · by_cases q : n = num
    · subst q
      rw [if_neg (fun z => ((hmem n).mp z).2 rfl), if_neg (fun z => ((hmem n).mp z).2 rfl)]
      have M := S.mks n h1 h2
      refine ⟨e _ M.hi fun hm => ?_, ⟨ed, nd, m4, hk⟩, w2⟩
      rcases inM hm with z | z | z | z
      · exact absurd (Nat.lt_trans z (Nat.lt_trans v (Nat.lt_trans bl (Nat.lt_trans w1 w2)))) (Nat.lt_irrefl _)
      · exact Nat.ne_of_gt (Nat.lt_trans bl (Nat.lt_trans w1 w2)) z
      · exact Nat.ne_of_gt (Nat.lt_trans w1 w2) z
      · exact Nat.ne_of_gt w2 z
    · have hiff : (n ∈ ns.erase num) ↔ n ∈ ns := by rw [hmem]; simp [q]
      simp only [hiff]
      refine (S.mks n h1 h2).ext e fun x hx => ?_
      rcases inM hx with z | z | z | z
      · exact .inl (Nat.lt_trans z (Nat.lt_trans (S.o2 n h1 h2).1 (Nat.lt_trans (S.buf_lt h1 h2) (S.o3 n h1 h2).1)))
      · rw [z]
        rcases S.apartM h1 h2 r.1 r.2 with y | y
        · exact .inl (Nat.lt_trans bl y)
        · exact .inr y
      · rw [z]
        rcases S.apartM h1 h2 r.1 r.2 with y | y
        · exact .inl y
        · exact .inr (Nat.lt_trans y bl)
      · rw [z]
        rcases Int.lt_or_lt_of_ne q with y | y
        · exact .inr (Nat.lt_trans (S.o4 n num h1 y h2 r.2) (Nat.lt_trans bl w1))
        · exact .inl (Nat.lt_trans w2 (Nat.lt_trans (S.o4 num n r.1 y r.2 h2) (Nat.lt_trans (S.buf_lt h1 h2) (S.o3 n h1 h2).1)))
end
def somes : List Str := [Str.ofString "a", Str.ofString "b", Str.ofString " c", Str.ofString "a<2>", Str.ofString ""]
def bases : List Str := [Str.ofString "a", Str.ofString "b", Str.ofString " c", Str.ofString "a<2>"]
def cands (q : Str) : List Str := q :: (rangeKs 2 12).map (candS q)
def allN : List Str := bases.flatMap cands
theorem allN_len : ∀ s ∈ allN, s.length ≤ 100 := by decide +kernel
theorem allN_ne : ∀ s ∈ allN, (s == Str.ofString "") = false := by decide +kernel
theorem allN_no : ∀ s ∈ allN, (s == Str.ofString "nowhere") = false := by decide +kernel
theorem somes_nodup : ∀ q ∈ somes, (cands q).Nodup := by decide +kernel
theorem somes_len : ∀ q ∈ somes, q.length ≤ 100 := by decide +kernel
theorem somes_bases {q : Str} (h : q ∈ somes) (hn : q ≠ Str.ofString "") : q ∈ bases := by
  simp only [somes, bases, List.mem_cons, List.not_mem_nil, or_false] at h ⊢
  rcases h with h | h | h | h | h
  · exact .inl h
  · exact .inr (.inl h)
  · exact .inr (.inr (.inl h))
  · exact .inr (.inr (.inr h))
  · exact absurd h hn
theorem good_cand {q r : Str} (h : q ∈ bases) (hr : r ∈ cands q) : r ∈ allN := List.mem_flatMap.mpr ⟨q, h, hr⟩
theorem range_take {n : Nat} (h : n ≤ 12) : rangeKs 2 n = (rangeKs 2 12).take n := by
  unfold rangeKs
  rw [← List.map_take, List.take_range, Nat.min_eq_left h]
theorem cands_take {q : Str} {n : Nat} (h : n ≤ 12) : q :: (rangeKs 2 n).map (candS q) = (cands q).take (n + 1) := by
  unfold cands
  rw [List.take_succ_cons, ← List.map_take, ← range_take h]
theorem any_mem {us : List Str} {o : Str} : us.any (· == o) = true ↔ o ∈ us := by
  rw [List.any_eq_true]
  exact ⟨fun ⟨x, h, e⟩ => (eq_of_beq e) ▸ h, fun h => ⟨o, h, beq_self_eq_true o⟩⟩
theorem pigeon {l us : List Str} (hn : l.Nodup) (hl : us.length < l.length) : ∃ o ∈ l, o ∉ us := by
  refine Classical.byContradiction fun h => ?_
  have h2 : ∀ x ∈ l, x ∈ us := fun x hx => Classical.byContradiction fun hu => h ⟨x, hx, hu⟩
  have := nodup_len hn h2
  omega
theorem lf_ex {us : List Str} {q g : Str} (hz : us.length ≤ 10) (hn : (cands q).Nodup) :
    ∃ r rest, (q :: (rangeKs 2 (us.length + 2)).map (candS q)).filter (fun o => o == g || !us.any (· == o)) = r :: rest ∧ r ∈ cands q := by
  rw [cands_take (by omega)]
  have hl : ((cands q).take (us.length + 2 + 1)).length = us.length + 3 := by
    rw [List.length_take]
    simp [cands, rangeKs_length]
    omega
  obtain ⟨o, ho, hu⟩ := pigeon (us := us) (hn.sublist (List.take_sublist (us.length + 2 + 1) _)) (by omega)
  have hf : o ∈ ((cands q).take (us.length + 2 + 1)).filter (fun o => o == g || !us.any (· == o)) := by
    refine List.mem_filter.mpr ⟨ho, ?_⟩
    have : us.any (· == o) = false := by
      cases q : us.any (· == o) with
      | false => rfl
      | true => exact absurd (any_mem.mp q) hu
    rw [this]
    simp
  cases q2 : ((cands q).take (us.length + 2 + 1)).filter (fun o => o == g || !us.any (· == o)) with
  | nil => rw [q2] at hf; cases hf
  | cons r rest =>
    refine ⟨r, rest, rfl, List.mem_of_mem_take (i := us.length + 2 + 1) ?_⟩
    have : r ∈ ((cands q).take (us.length + 2 + 1)).filter (fun o => o == g || !us.any (· == o)) := by rw [q2]; exact .head _
    exact (List.mem_filter.mp this).1
theorem find_isNone {ns : List Int} {nm : Int → Str} {o : Str} : (ns.find? fun n => nm n == o).isNone = !(ns.map nm).any (· == o) := by
  rw [List.any_map]
  cases h : ns.find? (fun n => nm n == o) with
  | none =>
    rw [List.find?_eq_none] at h
    have : (ns.any ((fun x => x == o) ∘ nm)) = false := by
      rw [List.any_eq_false]
      intro x hx
      exact h x hx
    rw [this]; rfl
  | some n =>
    have h1 := List.find?_some h
    have h2 := List.mem_of_find?_eq_some h
    have : (ns.any ((fun x => x == o) ∘ nm)) = true := List.any_eq_true.mpr ⟨n, h2, h1⟩
    rw [this]; rfl
theorem okB_is {ns : List Int} {nm : Int → Str} {g o : Str} : okB ns nm g o = (o == g || !(ns.map nm).any (· == o)) := by
  unfold okB
  rw [find_isNone]
theorem hex_of {ns : List Int} {nm : Int → Str} {q g : Str} (hz : ns.length ≤ 10) (hn : (cands q).Nodup) : ∃ i : Nat, i ≤ 99 ∧ okB ns nm g (candS q (2 + i)) = true := by
  have hn2 : ((rangeKs 2 12).map (candS q)).Nodup := (List.nodup_cons.mp hn).2
  obtain ⟨o, ho, hu⟩ := pigeon (us := ns.map nm) hn2 (by simp [rangeKs_length]; omega)
  obtain ⟨k, hk, rfl⟩ := List.mem_map.mp ho
  obtain ⟨i, hi, rfl⟩ := List.mem_map.mp hk
  have := List.mem_range.mp hi
  refine ⟨i, by omega, ?_⟩
  rw [okB_is]
  have : (ns.map nm).any (· == candS q (2 + (i : Int))) = false := by
    cases q : (ns.map nm).any (· == candS q (2 + (i : Int))) with
    | false => rfl
    | true => exact absurd (any_mem.mp q) hu
  rw [this]
  simp
theorem find_range {n : Nat} {f : Nat → Str} {p : Str → Bool} {r : Str} (h : ((List.range n).map f).find? p = some r) : ∃ i, i < n ∧ r = f i ∧ p r = true ∧ ∀ j, j < i → p (f j) = false := by
  obtain ⟨hp, i, hi, e, hj⟩ := List.find?_eq_some_iff_getElem.mp h
  have hi2 : i < n := by simpa using hi
  refine ⟨i, hi2, ?_, hp, fun j hji => ?_⟩
  · rw [← e]; simp
  · have := hj j hji
    simpa using this
theorem fresh_eq {ns : List Int} {nm : Int → Str} {q g r r' : Str} {rest : List Str} {n : Nat} (h : FreshIs ns nm q g r') (hr : (q :: (rangeKs 2 n).map (candS q)).filter (fun o => o == g || !(ns.map nm).any (· == o)) = r :: rest) : r' = r := by
  have ep : (fun o => o == g || !(ns.map nm).any (· == o)) = okB ns nm g := funext fun o => okB_is.symm
  rw [ep] at hr
  have hf : (q :: (rangeKs 2 n).map (candS q)).find? (okB ns nm g) = some r := by
    rw [← List.head?_filter, hr]; rfl
  rcases h with ⟨h1, rfl⟩ | ⟨h1, i, rfl, h2, h3⟩
  · rw [List.find?_cons, h1] at hf
    exact Option.some.inj hf
  · rw [List.find?_cons, h1] at hf
    unfold rangeKs at hf
    rw [List.map_map] at hf
    obtain ⟨i0, _, rfl, hp, hj⟩ := find_range hf
    rcases Nat.lt_trichotomy i i0 with z | z | z
    · have := hj i z
      simp only [Function.comp] at this
      rw [this] at h2; cases h2
    · subst z; rfl
    · have := h3 i0 z
      simp only [Function.comp] at hp
      rw [this] at hp; cases hp
theorem find_self {ns : List Int} {nm : Int → Str} (hd : ∀ n ∈ ns, ∀ n' ∈ ns, nm n = nm n' → n = n') {n : Int} (hn : n ∈ ns) : (ns.find? fun n' => nm n' == nm n) = some n := by
  cases h : ns.find? (fun n' => nm n' == nm n) with
  | none =>
    have := List.find?_eq_none.mp h n hn
    simp at this
  | some x =>
    have h1 := List.find?_some h
    have h2 := List.mem_of_find?_eq_some h
    rw [hd x h2 n hn (eq_of_beq h1)]
theorem find_nowhere {ns : List Int} {nm : Int → Str} (h : ∀ n ∈ ns, nm n ∈ allN) : (ns.find? fun n => nm n == Str.ofString "nowhere") = none := by
  rw [List.find?_eq_none]
  intro n hn
  rw [allN_no _ (h n hn)]
  decide
def lawBody : List Stmt := match PySem.Challenge.pw_np0064_01.main.body.getLast? with | some (.FunctionDef _ _ b _ _ _ _ _ _ _) => b | _ => []
def lawScope : Scope := match PySem.Challenge.pw_np0064_01.main.body.getLast? with | some (.FunctionDef _ _ _ _ _ _ s _ _ _) => s | _ => default
def lapFor : Stmt := lawBody.getD 3 (.Pass default)
def lapBody : List Stmt := match lapFor with | .For _ _ b _ _ => b | _ => []
def lapS (i : Nat) : Stmt := lapBody.getD i (.Pass default)
def lawCl (L : Addr) : List (Str × Addr) := [(Str.ofString "table", L + 1 + 1 + 1 + 1 + 1), (Str.ofString "own", L + 1 + 1 + 1 + 1), (Str.ofString "name", L + 1 + 1 + 1), (Str.ofString "is_fresh", L + 1 + 1), (Str.ofString "titles", L + 1)]
def lawEnv (L a : Addr) : Env := envX (Str.ofString "law") lawScope L a (.ref 527) (lawCl L)
def lamQual : Str := Str.ofString "law" ++ Str.ofString ".<locals>." ++ Str.ofString "<lambda>"
def IsD (o : Obj) : Prop := ∃ es ep, o.data = .dict es ep
def Framed (O tt : Addr) (news news' : List (Addr × Obj)) : Prop := ∀ p ∈ news, (¬ IsD p.2 ∧ p.1 ≠ O ∨ p.1 = tt) → p ∈ news'
theorem Framed.of_ext {mods : List Addr} {news news' : List (Addr × Obj)} {O tt : Addr} {h₀ h : Heap} {L : Addr} (N : News h₀ L h news) (x : Ext mods news news') (h1 : ∀ d ∈ mods, d = O ∧ O ≠ tt ∨ d ≠ tt ∧ ∃ o, (d, o) ∈ news ∧ IsD o) : Framed O tt news news' := fun p hp k => x p hp fun hm => by
  rcases h1 _ hm with ⟨n1, n2⟩ | ⟨n1, o, ho, hc⟩
  · rcases k with ⟨k1, k2⟩ | k
    · exact k2 n1
    · exact n2 (n1.symm.trans k)
  · rcases k with ⟨k1, k2⟩ | k
    · have := mem_inj N hp ho
      exact k1 (this ▸ hc)
    · exact n1 k
/-- the code table of the law -/
def CodeT (K : List (Addr × Obj)) (SM : Addr) (news : List (Addr × Obj)) : Prop := ∃ ps : Array Value, (525, tabObj ps) ∈ news ∧ TriplesOk ps.toList ∧ (∀ pos, codeAmong pos ps.toList = none ∨ ∃ c' oc vs t, codeAmong pos ps.toList = some (.ref c') ∧ (c', oc) ∈ news ∧ oc.data = .fields vs ∧ vs[1]? = some (.str lamQual t) ∧ LtA SM c') ∧ ∀ p ∈ K, p ∈ news ∧ LtA SM p.1 ∧ ¬ IsD p.2
structure Chain (L DK dT t0 R O tt ML SM : Addr) : Prop where
  h : LtA 525 L ∧ LtA (L + 1 + 1 + 1 + 1 + 1) dT ∧ LtA DK dT ∧ LtA dT t0 ∧ LtA t0 R ∧ LtA R O ∧ LtA O tt ∧ LtA tt ML ∧ LtA ML SM
  n : DK ≠ 525 ∧ L + 1 ≠ DK ∧ L + 1 + 1 ≠ DK ∧ L + 1 + 1 + 1 ≠ DK ∧ L + 1 + 1 + 1 + 1 ≠ DK ∧ L + 1 + 1 + 1 + 1 + 1 ≠ DK
def DeckC (DK : Addr) (news : List (Addr × Obj)) : Prop := ∃ dvs nD ds, (DK, listOf (List.toArray dvs) nD) ∈ news ∧ IntsAre dvs ds ∧ Deck ds
def SomeC (SM : Addr) (news : List (Addr × Obj)) : Prop := ∃ vs n, (SM, listOf (List.toArray vs) n) ∈ news ∧ StrsAre vs somes
def TitC (w : World) (tt : Addr) (ns : List Int) (nm : Int → Str) (lb : Int) (news : List (Addr × Obj)) : Prop := ∃ oT tks, (tt, oT) ∈ news ∧ oT.IsDictOf (IK w) tks ∧ (tks.length : Int) ≤ lb ∧ (∀ k ∈ tks.map (·.1), 1 ≤ k ∧ k ≤ lb) ∧ ∀ n ∈ ns, ∃ t, valueAt tks n = some (.str (nm n) t)
def MarksC (ML SM : Addr) (lb : Int) (mk : Int → MA) (news : List (Addr × Obj)) : Prop := ∃ mvs nM, (ML, listOf (List.toArray mvs) nM) ∈ news ∧ (mvs.length : Int) ≤ lb ∧ ∀ v ∈ mvs, ∃ ti n t, v = .ref ti ∧ LtA SM ti ∧ (ti, ({ cls := .type "tuple", data := .seq #[.ref (mk n).mi, .int n t] } : Obj)) ∈ news ∧ 1 ≤ n ∧ n ≤ lb
def OrdC (L DK O tt ML : Addr) (OL : Addr) (ns : List Int) (news : List (Addr × Obj)) : Prop := ∃ ovs n, (OL, listOf (List.toArray ovs) n) ∈ news ∧ IntsAre ovs ns ∧ OL ∉ [DK, O, tt, ML, 525, L + 1 + 1, L + 1 + 1 + 1, L + 1 + 1 + 1 + 1] ∧ OL ≠ ML
def CellC (c : Addr) (v : Value) (news : List (Addr × Obj)) : Prop := ∃ o, (c, o) ∈ news ∧ o.data = .cell (some v)
/-- what the law's names hold -/
structure LawM (DK SM ML OL : Addr) (c : Int) (m : Str → Option Value) : Prop where
  mdk : m (Str.ofString "deck") = some (.ref DK)
  msm : m (Str.ofString "some") = some (.ref SM)
  mml : m (Str.ofString "marks") = some (.ref ML)
  mor : m (Str.ofString "order") = some (.ref OL)
  mcu : ∃ t, m (Str.ofString "current") = some (.int c t)
/-- what the law keeps beside the table -/
structure LawN (w : World) (K : List (Addr × Obj)) (L DK t0 O tt ML SM OL : Addr) (lb : Int) (ns : List Int) (nm : Int → Str) (mk : Int → MA) (news : List (Addr × Obj)) : Prop where
  deck : DeckC DK news
  som : SomeC SM news
  tit : TitC w tt ns nm lb news
  mar : MarksC ML SM lb mk news
  ord : OrdC L DK O tt ML OL ns news
  ctt : CellC (L + 1) (.ref tt) news
  ctb : CellC (L + 1 + 1 + 1 + 1 + 1) (.ref t0) news
  cel : CellsIn [L + 1 + 1, L + 1 + 1 + 1, L + 1 + 1 + 1 + 1] news
  ct : CodeT K SM news
section
variable {w : World} {K : List (Addr × Obj)} {L DK t0 dT R O tt ML SM OL : Addr} {lb lb' lm : Int} {ns ns' : List Int} {nm nm' : Int → Str} {c c' : Int} {bf bf' : Int → BA} {mk mk' : Int → MA} {m m' : Str → Option Value} {news news' : List (Addr × Obj)} {mods : List Addr} {h₀ h : Heap} {LL : Addr}
theorem notD_list {vs : Array Value} {n : Nat} : ¬ IsD (listOf vs n) := fun ⟨_, _, h⟩ => nomatch h
theorem notD_cell {o : Obj} {v : Option Value} (h : o.data = .cell v) : ¬ IsD o := fun ⟨_, _, h'⟩ => by rw [h] at h'; cases h'
theorem notD_fields {o : Obj} {vs : Array Value} (h : o.data = .fields vs) : ¬ IsD o := fun ⟨_, _, h'⟩ => by rw [h] at h'; cases h'
theorem isD_of {Kt : Type} [DecidableEq Kt] {prog : Program} {knd : KeyKind prog w Kt} {o : Obj} {kvs : List (Kt × Value)} (h : o.IsDictOf knd kvs) : IsD o := let ⟨es, ep, _, d, _⟩ := h; ⟨es, ep, d⟩
theorem isD_dict {es : List DictEntry} {n : Nat} : IsD (dictOf es n) := ⟨_, _, rfl⟩
theorem Chain.low (C : Chain L DK dT t0 R O tt ML SM) : ∀ {x : Addr}, x = 525 ∨ x = DK ∨ x = L + 1 ∨ x = L + 1 + 1 ∨ x = L + 1 + 1 + 1 ∨ x = L + 1 + 1 + 1 + 1 ∨ x = L + 1 + 1 + 1 + 1 + 1 → LtA x dT := by
  obtain ⟨c1, c2, c3, _⟩ := C.h
  rintro x (rfl | rfl | rfl | rfl | rfl | rfl | rfl)
  · exact Nat.lt_trans c1 (Nat.lt_of_le_of_lt (Nat.le_add_right L 5) c2)
  · exact c3
  · exact Nat.lt_of_le_of_lt (Nat.le_add_right (L + 1) 4) c2
  · exact Nat.lt_of_le_of_lt (Nat.le_add_right (L + 1 + 1) 3) c2
  · exact Nat.lt_of_le_of_lt (Nat.le_add_right (L + 1 + 1 + 1) 2) c2
  · exact Nat.lt_of_le_of_lt (Nat.le_add_right (L + 1 + 1 + 1 + 1) 1) c2
  · exact c2
theorem Chain.top (C : Chain L DK dT t0 R O tt ML SM) : LtA dT R ∧ LtA dT O ∧ LtA dT tt ∧ LtA t0 O ∧ LtA t0 tt ∧ LtA R tt ∧ LtA O ML ∧ LtA O SM ∧ LtA tt SM :=
  let ⟨_, _, _, c4, c5, c6, c7, c8, c9⟩ := C.h
  ⟨Nat.lt_trans c4 c5, Nat.lt_trans c4 (Nat.lt_trans c5 c6), Nat.lt_trans c4 (Nat.lt_trans c5 (Nat.lt_trans c6 c7)), Nat.lt_trans c5 c6, Nat.lt_trans c5 (Nat.lt_trans c6 c7), Nat.lt_trans c6 c7, Nat.lt_trans c7 c8, Nat.lt_trans c7 (Nat.lt_trans c8 c9), Nat.lt_trans c8 c9⟩
theorem Chain.lowO (C : Chain L DK dT t0 R O tt ML SM) {x : Addr} (h : x = 525 ∨ x = DK ∨ x = L + 1 ∨ x = L + 1 + 1 ∨ x = L + 1 + 1 + 1 ∨ x = L + 1 + 1 + 1 + 1 ∨ x = L + 1 + 1 + 1 + 1 + 1) : LtA x O := Nat.lt_trans (C.low h) C.top.2.1
theorem Chain.sm (C : Chain L DK dT t0 R O tt ML SM) : LtA 525 SM := Nat.lt_trans (C.lowO (.inl rfl)) C.top.2.2.2.2.2.2.2.1
theorem Chain.apart (C : Chain L DK dT t0 R O tt ML SM) : DK ≠ O ∧ SM ≠ O ∧ ML ≠ O ∧ DK ≠ ML ∧ DK ≠ SM ∧ ML ≠ SM ∧ O ≠ tt ∧ tt ≠ DK ∧ tt ≠ ML ∧ tt ≠ SM ∧ dT ≠ tt ∧ R ≠ tt := by
  obtain ⟨_, _, _, _, _, _, c7, c8, c9⟩ := C.h
  obtain ⟨_, _, u1, _, _, u2, u3, u4, u5⟩ := C.top
  have d := C.lowO (x := DK) (.inr (.inl rfl))
  exact ⟨Nat.ne_of_lt d, Nat.ne_of_gt u4, Nat.ne_of_gt u3, Nat.ne_of_lt (Nat.lt_trans d u3), Nat.ne_of_lt (Nat.lt_trans d u4), Nat.ne_of_lt c9, Nat.ne_of_lt c7, Nat.ne_of_gt (Nat.lt_trans d c7), Nat.ne_of_lt c8, Nat.ne_of_lt u5, Nat.ne_of_lt u1, Nat.ne_of_lt u2⟩
/-- a step of the table keeps what the law holds -/
theorem LawN.framed (C : Chain L DK dT t0 R O tt ML SM) (H : LawN w K L DK t0 O tt ML SM OL lb ns nm mk news) (f : Framed O tt news news') : LawN w K L DK t0 O tt ML SM OL lb ns nm mk news' := by
  obtain ⟨n1, n2, n3, n4, n5, n6, n7, n8, n9, n10, n11, n12⟩ := C.apart
  obtain ⟨⟨dvs, nD, ds, d1, d2, d3⟩, ⟨svs, sn, s1, s2⟩, ⟨oT, tks, t1, t2, t3, t5, t4⟩, ⟨mvs, nM, a1, a2, a3⟩, ⟨ovs, on, o1, o2, o3, o4⟩, ⟨ob1, b1, b2⟩, ⟨ob5, b5, b6⟩, cel, ⟨ps, p1, p2, p3, p4⟩⟩ := H
  refine ⟨⟨dvs, nD, ds, f _ d1 (.inl ⟨notD_list, n1⟩), d2, d3⟩, ⟨svs, sn, f _ s1 (.inl ⟨notD_list, n2⟩), s2⟩, ⟨oT, tks, f _ t1 (.inr rfl), t2, t3, t5, t4⟩, ⟨mvs, nM, f _ a1 (.inl ⟨notD_list, n3⟩), a2, fun v hv => ?_⟩, ⟨ovs, on, f _ o1 (.inl ⟨notD_list, fun z => o3 (z ▸ .tail _ (.head _))⟩), o2, o3, o4⟩, ⟨ob1, f _ b1 (.inl ⟨notD_cell b2, ?_⟩), b2⟩, ⟨ob5, f _ b5 (.inl ⟨notD_cell b6, ?_⟩), b6⟩, fun x hx => ?_, ⟨ps, f _ p1 (.inl ⟨notD_fields rfl, ?_⟩), p2, fun pos => ?_, fun p hp => ?_⟩⟩
  · obtain ⟨ti, n, t, e1, e2, e3, e4⟩ := a3 v hv
    refine ⟨ti, n, t, e1, e2, f _ e3 (.inl ⟨?_, ?_⟩), e4⟩
    · rintro ⟨_, _, h⟩; cases h
    · exact Nat.ne_of_gt (Nat.lt_trans C.top.2.2.2.2.2.2.2.1 e2)
  · exact Nat.ne_of_lt (C.lowO (.inr (.inr (.inl rfl))))
  · exact Nat.ne_of_lt (C.lowO (.inr (.inr (.inr (.inr (.inr (.inr rfl)))))))
  · obtain ⟨o, v, q1, q2⟩ := cel x hx
    refine ⟨o, v, f _ q1 (.inl ⟨notD_cell q2, ?_⟩), q2⟩
    simp only [List.mem_cons, List.not_mem_nil, or_false] at hx
    exact Nat.ne_of_lt (C.lowO (.inr (.inr (.inr (hx.elim .inl fun h => .inr (h.elim .inl fun h => .inr (.inl h)))))))
  · exact Nat.ne_of_lt (C.lowO (.inl rfl))
  · rcases p3 pos with q | ⟨c', oc, vs, t, q1, q2, q3, q4, q5⟩
    · exact .inl q
    · exact .inr ⟨c', oc, vs, t, q1, f _ q2 (.inl ⟨notD_fields q3, Nat.ne_of_gt (Nat.lt_trans C.top.2.2.2.2.2.2.2.1 q5)⟩), q3, q4, q5⟩
  · obtain ⟨y1, y2, y3⟩ := p4 p hp
    exact ⟨f _ y1 (.inl ⟨y3, Nat.ne_of_gt (Nat.lt_trans C.top.2.2.2.2.2.2.2.1 y2)⟩), y2, y3⟩
/-- the law's own steps: the addresses that it sets -/
def LawMods (L DK tt ML : Addr) (mods : List Addr) : Prop := ∀ d ∈ mods, d = DK ∨ d = tt ∨ d = ML ∨ d = 525 ∨ d = L + 1 + 1 ∨ d = L + 1 + 1 + 1 ∨ d = L + 1 + 1 + 1 + 1
theorem St.lawStep (C : Chain L DK dT t0 R O tt ML SM) (S : St w news t0 dT R O SM lb lm ns nm c bf mk) (e : Ext mods news news') (hm : LawMods L DK tt ML mods) : St w news' t0 dT R O SM lb lm ns nm c bf mk := by
  obtain ⟨_, _, _, c4, c5, c6, c7, c8, c9⟩ := C.h
  obtain ⟨u1, u2, u3, u4, u5, u6, u7, u8, u9⟩ := C.top
  have cut : ∀ d ∈ mods, LtA d dT ∨ LtA O d ∧ LtA d SM := fun d hd => by
    rcases hm d hd with z | z | z | z | z | z | z
    · exact .inl (C.low (.inr (.inl z)))
    · exact .inr ⟨z ▸ c7, z ▸ u9⟩
    · exact .inr ⟨z ▸ u7, z ▸ c9⟩
    · exact .inl (C.low (.inl z))
    · exact .inl (C.low (.inr (.inr (.inr (.inl z)))))
    · exact .inl (C.low (.inr (.inr (.inr (.inr (.inl z))))))
    · exact .inl (C.low (.inr (.inr (.inr (.inr (.inr (.inl z)))))))
  have lo : ∀ d ∈ mods, LtA d SM := fun d hd => (cut d hd).elim (fun h => Nat.lt_trans h (Nat.lt_trans u2 u8)) (·.2)
  have nt : t0 ∉ mods ∧ dT ∉ mods ∧ R ∉ mods ∧ O ∉ mods :=
    ⟨fun h => (cut _ h).elim (fun q => Nat.lt_irrefl _ (Nat.lt_trans q c4)) fun q => Nat.lt_irrefl _ (Nat.lt_trans q.1 u4),
     fun h => (cut _ h).elim (fun q => Nat.lt_irrefl _ q) fun q => Nat.lt_irrefl _ (Nat.lt_trans q.1 u2),
     fun h => (cut _ h).elim (fun q => Nat.lt_irrefl _ (Nat.lt_trans q u1)) fun q => Nat.lt_irrefl _ (Nat.lt_trans q.1 c6),
     fun h => (cut _ h).elim (fun q => Nat.lt_irrefl _ (Nat.lt_trans q u2)) fun q => Nat.lt_irrefl _ q.1⟩
  refine ⟨?_, S.nd, S.rng, S.lms, fun n hn => ?_, fun n h1 h2 => ?_, S.o1, S.o2, S.o3, S.o4, S.o5⟩
  · obtain ⟨es, nT, oR, vs, nO, kvs, T, h1, h2⟩ := S.T
    exact ⟨es, nT, oR, vs, nO, kvs, T.ext e nt.1 nt.2.1 nt.2.2.1 nt.2.2.2, h1, h2⟩
  · have r := S.rng n hn
    exact (S.bufs n hn).ext e fun x hx => .inl (Nat.lt_trans (lo x hx) (S.o2 n r.1 r.2).1)
  · have l := S.lms
    exact (S.mks n h1 h2).ext e fun x hx => .inl (Nat.lt_trans (lo x hx) (Nat.lt_trans (S.o2 n h1 (by omega)).1 (Nat.lt_trans (S.buf_lt h1 (by omega)) (S.o3 n h1 h2).1)))
theorem CodeT.ext (H : CodeT K SM news) (e : Ext mods news news') (h1 : 525 ∉ mods) (h2 : ∀ d ∈ mods, LtA d SM) : CodeT K SM news' := by
  obtain ⟨ps, p1, p2, p3, p4⟩ := H
  refine ⟨ps, e _ p1 h1, p2, fun pos => ?_, fun p hp => let ⟨y1, y2, y3⟩ := p4 p hp; ⟨e _ y1 (fun z => Nat.lt_irrefl _ (Nat.lt_trans y2 (h2 _ z))), y2, y3⟩⟩
  rcases p3 pos with q | ⟨c', oc, vs, t, q1, q2, q3, q4, q5⟩
  · exact .inl q
  · exact .inr ⟨c', oc, vs, t, q1, e _ q2 (fun z => Nat.lt_irrefl _ (Nat.lt_trans q5 (h2 _ z))), q3, q4, q5⟩
theorem MarksC.ext (H : MarksC ML SM lb mk news) (e : Ext mods news news') (h1 : ML ∉ mods) (h2 : ∀ d ∈ mods, LtA d SM) : MarksC ML SM lb mk news' := by
  obtain ⟨mvs, nM, a1, a2, a3⟩ := H
  refine ⟨mvs, nM, e _ a1 h1, a2, fun v hv => ?_⟩
  obtain ⟨ti, n, t, e1, e2, e3, e4⟩ := a3 v hv
  exact ⟨ti, n, t, e1, e2, e _ e3 (fun z => Nat.lt_irrefl _ (Nat.lt_trans e2 (h2 _ z))), e4⟩
theorem DeckC.ext (H : DeckC DK news) (e : Ext mods news news') (h1 : DK ∉ mods) : DeckC DK news' := let ⟨a, b, c, d, f⟩ := H; ⟨a, b, c, e _ d h1, f⟩
theorem SomeC.ext (H : SomeC SM news) (e : Ext mods news news') (h1 : SM ∉ mods) : SomeC SM news' := let ⟨a, b, d, f⟩ := H; ⟨a, b, e _ d h1, f⟩
theorem TitC.ext (H : TitC w tt ns nm lb news) (e : Ext mods news news') (h1 : tt ∉ mods) : TitC w tt ns nm lb news' := let ⟨a, b, d, f⟩ := H; ⟨a, b, e _ d h1, f⟩
theorem OrdC.ext (H : OrdC L DK O tt ML OL ns news) (e : Ext mods news news') (h1 : OL ∉ mods) : OrdC L DK O tt ML OL ns news' := let ⟨a, b, d, f⟩ := H; ⟨a, b, e _ d h1, f⟩
theorem CellC.ext {x : Addr} {v : Value} (H : CellC x v news) (e : Ext mods news news') (h1 : x ∉ mods) : CellC x v news' := let ⟨a, b, d⟩ := H; ⟨a, e _ b h1, d⟩
/-- a step of the law that sets the deck and cells -/
theorem LawN.step (C : Chain L DK dT t0 R O tt ML SM) (H : LawN w K L DK t0 O tt ML SM OL lb ns nm mk news) (e : Ext mods news news') (hm : ∀ d ∈ mods, d = DK ∨ d = L + 1 + 1 ∨ d = L + 1 + 1 + 1 ∨ d = L + 1 + 1 + 1 + 1) (hd : DeckC DK news') (hc : CellsIn [L + 1 + 1, L + 1 + 1 + 1, L + 1 + 1 + 1 + 1] news') : LawN w K L DK t0 O tt ML SM OL lb ns nm mk news' := by
  obtain ⟨c1, c2, c3, c4, c5, c6, c7, c8, c9⟩ := C.h
  simp only [LtA] at c1 c2 c3 c4 c5 c6 c7 c8 c9
  have lo : ∀ d ∈ mods, LtA d O := fun d hd => by
    show @LT.lt Nat _ d O
    rcases hm d hd with z | z | z | z
    · exact C.lowO (.inr (.inl z))
    · exact C.lowO (.inr (.inr (.inr (.inl z))))
    · exact C.lowO (.inr (.inr (.inr (.inr (.inl z)))))
    · exact C.lowO (.inr (.inr (.inr (.inr (.inr (.inl z))))))
  have lo2 : ∀ d ∈ mods, LtA d SM := fun d hd => Nat.lt_trans (lo d hd) C.top.2.2.2.2.2.2.2.1
  have hi : ∀ {x : Addr}, LtA O x → x ∉ mods := fun h hx => Nat.lt_irrefl _ (Nat.lt_trans h (lo _ hx))
  have no : ∀ {x : Addr}, x = 525 ∨ x = L + 1 ∨ x = L + 1 + 1 + 1 + 1 + 1 → x ∉ mods := fun h hx => by
    obtain ⟨m1, m2, m3, m4, m5, m6⟩ := C.n
    rcases hm _ hx with z | z | z | z
    · rcases h with y | y | y
      · exact m1 (z.symm.trans y)
      · exact m2 (y.symm.trans z)
      · exact m6 (y.symm.trans z)
    all_goals rcases h with y | y | y <;> (have z' : @Eq Nat _ _ := z; have y' : @Eq Nat _ _ := y; omega)
  obtain ⟨_, _, _, _, o3, _⟩ := id H.ord
  exact ⟨hd, H.som.ext e (hi C.top.2.2.2.2.2.2.2.1), H.tit.ext e (hi c7), H.mar.ext e (hi C.top.2.2.2.2.2.2.1) lo2, H.ord.ext e (fun z => o3 (by rcases hm _ z with y | y | y | y <;> simp [y])), H.ctt.ext e (no (.inr (.inl rfl))), H.ctb.ext e (no (.inr (.inr rfl))), hc, H.ct.ext e (no (.inl rfl)) lo2⟩
end
theorem item_at {prog : Program} {w : World} {A : Around} {E : Value → Shared → Prop} {s : Shared} {h₀ : Heap} {L l : Addr} {news : List (Addr × Obj)} {value slice : PySem.Expr} {vs : List Value} {n : Nat} {k : Int} {u : Tok} {Q : Value → Shared → Prop} (N : News h₀ L s.heap news) (hm : (l, listOf vs.toArray n) ∈ news) (h0 : 0 ≤ k) (h1 : k < vs.length) (hz : vs.length ≤ 1000) (h : ∀ v, vs[k.toNat]? = some v → Q v s)
    (hs : subscripted slice false (.ref l) (.int k u) = operate [.ref l, .int k u] (getItem (.ref l) (.int k u)) := by with_unfolding_all rfl) (hg : ∀ r, letTemporaryGo value (.ref l) r = pure () := by intro _; with_unfolding_all rfl) :
    wpAny (model prog w) A (subscriptTail value slice (.ref l) (.int k u)) Q E s := by
  have hk : k.toNat < vs.length := by omega
  exact item_list (N.isList hm) h0 (by omega) (x := vs[k.toNat]) (by simp [hk]) (h _ (by simp [hk])) hs hg
theorem ints_at {vs : List Value} {ns : List Int} (hi : IntsAre vs ns) {i : Nat} {v : Value} (h : vs[i]? = some v) : ∃ n t, n ∈ ns ∧ v = .int n t := by
  obtain ⟨b, hb, t, e⟩ := (are_ints hi).at i v h
  exact ⟨b, t, List.mem_of_getElem? hb, e⟩
theorem strs_at {vs : List Value} {ns : List Str} (hi : StrsAre vs ns) {i : Nat} {v : Value} (h : vs[i]? = some v) : ∃ n t, n ∈ ns ∧ v = .str n t := by
  obtain ⟨b, hb, t, e⟩ := (are_strs hi).at i v h
  exact ⟨b, t, List.mem_of_getElem? hb, e⟩
theorem CellsIn.put {cs : List Addr} {news : List (Addr × Obj)} {d : Addr} {o : Obj} {v : Option Value} (h : CellsIn cs news) (hd : o.data = .cell v) : CellsIn cs (put news d o) := fun c hc => by
  by_cases e : c = d
  · exact ⟨o, v, e ▸ mem_put_self _ _ _, hd⟩
  · obtain ⟨o', v', a, b⟩ := h c hc
    exact ⟨o', v', mem_put_ne a e, b⟩
theorem CellsIn.ext {cs mods : List Addr} {news news' : List (Addr × Obj)} (h : CellsIn cs news) (e : Ext mods news news') (hn : ∀ c ∈ cs, c ∉ mods) : CellsIn cs news' := fun c hc =>
  let ⟨o', v', a, b⟩ := h c hc; ⟨o', v', e _ a (hn c hc), b⟩
theorem mget_eq {m : Str → Option Value} {x : Str} {v : Value} : (fun y => if y = x then some v else m y) x = some v := if_pos rfl
theorem mget_ne {m : Str → Option Value} {x z : Str} {u : Option Value} {v : Value} (n : z ≠ x) (h : m z = some v) : (fun y => if y = x then u else m y) z = some v := (if_neg n).trans h
section
variable {w : World} {K : List (Addr × Obj)} {L DK t0 dT R O tt ML SM OL : Addr} {lb lm : Int} {ns nso : List Int} {nm nmo : Int → Str} {c : Int} {bf : Int → BA} {mk mko : Int → MA} {news X : List (Addr × Obj)} {x d : Addr} {o : Obj} {v : Value}
theorem Chain.cells (C : Chain L DK dT t0 R O tt ML SM) : L + 1 ≠ DK ∧ L + 1 + 1 ≠ DK ∧ L + 1 + 1 + 1 ≠ DK ∧ L + 1 + 1 + 1 + 1 ≠ DK ∧ L + 1 + 1 + 1 + 1 + 1 ≠ DK :=
  C.n.2
abbrev LawS (w : World) (K : List (Addr × Obj)) (L DK t0 dT R O tt ML SM OL : Addr) (lb lm : Int) (nso : List Int) (nmo : Int → Str) (mko : Int → MA) (ns : List Int) (nm : Int → Str) (c : Int) (bf : Int → BA) (mk : Int → MA) (news : List (Addr × Obj)) : Prop :=
  LawN w K L DK t0 O tt ML SM OL lb nso nmo mko news ∧ St w news t0 dT R O SM lb lm ns nm c bf mk
theorem law_deck (C : Chain L DK dT t0 R O tt ML SM) (H : LawS w K L DK t0 dT R O tt ML SM OL lb lm nso nmo mko ns nm c bf mk news) (e : Ext [DK] news X) (hd : DeckC DK X) : LawS w K L DK t0 dT R O tt ML SM OL lb lm nso nmo mko ns nm c bf mk X := by
  obtain ⟨_, q2, q3, q4, _⟩ := C.cells
  refine ⟨H.1.step C e (fun d hd => .inl (List.mem_singleton.mp hd)) hd (H.1.cel.ext e fun c hc hm => ?_), H.2.lawStep C e fun d hd => .inl (List.mem_singleton.mp hd)⟩
  simp only [List.mem_cons, List.not_mem_nil, or_false] at hc hm
  rcases hc with rfl | rfl | rfl <;> contradiction
theorem law_cell (C : Chain L DK dT t0 R O tt ML SM) (H : LawS w K L DK t0 dT R O tt ML SM OL lb lm nso nmo mko ns nm c bf mk news) (hx : x = L + 1 + 1 ∨ x = L + 1 + 1 + 1 ∨ x = L + 1 + 1 + 1 + 1) (hd : o.data = .cell (some v)) : LawS w K L DK t0 dT R O tt ML SM OL lb lm nso nmo mko ns nm c bf mk (put news x o) ∧ CellC x v (put news x o) := by
  obtain ⟨_, q2, q3, q4, _⟩ := C.cells
  have e : Ext [x] news (put news x o) := (Ext.refl news).put
  have nx : DK ∉ [x] := fun hm => by
    have := List.mem_singleton.mp hm
    rcases hx with rfl | rfl | rfl <;> exact absurd this.symm (by assumption)
  refine ⟨⟨H.1.step C e (fun d hd => by rw [List.mem_singleton.mp hd]; exact .inr hx) (H.1.deck.ext e nx) (H.1.cel.put hd), H.2.lawStep C e fun d hd => by
    rw [List.mem_singleton.mp hd]
    rcases hx with z | z | z <;> simp [z]⟩, o, mem_put_self _ _ _, hd⟩
theorem law_sub (C : Chain L DK dT t0 R O tt ML SM) (H : LawS w K L DK t0 dT R O tt ML SM OL lb lm nso nmo mko ns nm c bf mk news) (hs : ∀ p ∈ news, p ∈ X) : LawS w K L DK t0 dT R O tt ML SM OL lb lm nso nmo mko ns nm c bf mk X := by
  have e : Ext [] news X := (Ext.refl news).sub hs
  exact ⟨H.1.step C e (fun d hd => nomatch hd) (H.1.deck.ext e (by simp)) (H.1.cel.ext e (by simp)), H.2.lawStep C e fun d hd => nomatch hd⟩
theorem deckC_put {dvs : List Value} {ds : List Int} {n : Nat} (hI : IntsAre dvs ds) (hp : Deck ds) : DeckC DK (put news DK (listOf dvs.toArray n)) := ⟨dvs, n, ds, mem_put_self _ _ _, hI, hp⟩
theorem law_putDeck {h₀ h : Heap} {LL : Addr} {dvs : List Value} {ds : List Int} {n : Nat} (_ : News h₀ LL h (put X DK (listOf dvs.toArray n))) (C : Chain L DK dT t0 R O tt ML SM) (H : LawS w K L DK t0 dT R O tt ML SM OL lb lm nso nmo mko ns nm c bf mk news) (hs : ∀ p ∈ news, p ∈ X) (hI : IntsAre dvs ds) (hp : Deck ds) :
    LawS w K L DK t0 dT R O tt ML SM OL lb lm nso nmo mko ns nm c bf mk (put X DK (listOf dvs.toArray n)) := law_deck C (law_sub C H hs) (Ext.refl _).put (deckC_put hI hp)
theorem law_putCell {h₀ h : Heap} {LL : Addr} (_ : News h₀ LL h (put X x o)) (C : Chain L DK dT t0 R O tt ML SM) (H : LawS w K L DK t0 dT R O tt ML SM OL lb lm nso nmo mko ns nm c bf mk news) (hs : ∀ p ∈ news, p ∈ X) (hx : x = L + 1 + 1 ∨ x = L + 1 + 1 + 1 ∨ x = L + 1 + 1 + 1 + 1) (hd : o.data = .cell (some v)) :
    LawS w K L DK t0 dT R O tt ML SM OL lb lm nso nmo mko ns nm c bf mk (put X x o) ∧ CellC x v (put X x o) := law_cell C (law_sub C H hs) hx hd
end
theorem among_app {p : Pos} {a b : Int} {c : Value} (l : List Value) (h : TriplesOk l) : codeAmong p (l ++ [rawInt a, rawInt b, c]) = codeAmong p l ∨ codeAmong p (l ++ [rawInt a, rawInt b, c]) = some c := by
  fun_induction TriplesOk l with
  | case1 =>
    simp only [List.nil_append, rawInt, codeAmong]
    split
    · exact .inr rfl
    · exact .inl rfl
  | case2 a' t b' u x rest ih =>
    simp only [List.cons_append, codeAmong]
    split
    · exact .inl rfl
    · exact ih h
  | case3 l h1 h2 => exact h.elim
theorem lam_any {M : Model} {A : Around} {E : Value → Shared → Prop} {s : Shared} {h₀ : Heap} {K : List (Addr × Obj)} {L a SM : Addr} {m mg mb : Str → Option Value} {cn : Str} {cs : Scope} {cl : List (Str × Addr)} {news : List (Addr × Obj)} {p : Program} {loose : List Str} {mean : ExcName → Option Value} {params : Arguments} {body : PySem.Expr} {scope : Scope} {pos : Pos} {firstLine : Nat} {clos : List (Str × Addr)} {Q : Value → Shared → Prop} {oSM : Obj}
    (F : Fr h₀ L s.heap m) (N : News h₀ L s.heap news) (T : Top p loose mean mg mb h₀) (C : CodeHd h₀ 527 525) (H : CodeT K SM news) (hSM : (SM, oSM) ∈ news) (hlt : LtA 525 SM)
    (hcl : closureFor scope (envX cn cs L a (.ref 527) cl) = pure clos)
    (h : ∀ f c' oc vs t ctv news' h' tk, Fr h₀ L h' m → News h₀ L h' news' → Ext [525] news news' → (f, kla_obj (Str.ofString "<lambda>") lamQual params body scope clos ((mg (Str.ofString "__name__")).getD .none) c' ctv) ∈ news' → (c', oc) ∈ news' → oc.data = .fields vs → vs[1]? = some (.str lamQual t) → LtA SM f → CodeT K SM news' → Q (.ref f) { s with heap := h', toks := tk }) :
    wpAny M A (makeFunction (Str.ofString "<lambda>") lamQual params (.expr body) scope (envX cn cs L a (.ref 527) cl) [] [] [] pos firstLine) Q E s := by
  obtain ⟨ps, p1, p2, p3, p4⟩ := H
  rcases p3 pos with q | ⟨c', oc, vs, t, q1, q2, q3, q4, q5⟩
  · refine kla_nest F (front N p1) T C rfl put_updF p2 q hcl ?_
    intro f c' oc vs t ctv h' tk F' N' d1 d2 l1 l2
    have e : Ext [525] news ((f, kla_obj (Str.ofString "<lambda>") lamQual params body scope clos ((mg (Str.ofString "__name__")).getD .none) c' ctv) :: (c', oc) :: put news 525 (tabObj (ps ++ #[rawInt pos.line, rawInt pos.col, .ref c']))) := fun x hx hn => .tail _ (.tail _ (mem_put_ne hx (fun z => hn (by rw [z]; exact .head _))))
    have lc : LtA SM c' := by
      by_cases z : (SM : Addr) = 525
      · subst z
        exact l1 _ (.head _)
      · exact l1 (SM, oSM) (.tail _ (List.mem_filter.mpr ⟨hSM, by simpa using z⟩))
    refine h f c' oc vs t ctv _ h' tk F' N' e (.head _) (.tail _ (.head _)) d1 d2 (Nat.lt_trans lc l2) ⟨_, .tail _ (.tail _ (mem_put_self _ _ _)), ?_, fun pos' => ?_, fun p hp => let ⟨y1, y2, y3⟩ := p4 p hp; ⟨e _ y1 (fun z => Nat.lt_irrefl _ (Nat.lt_trans hlt (List.mem_singleton.mp z ▸ y2))), y2, y3⟩⟩
    · simpa using TriplesOk_snoc _ _ _ _ p2
    · have e2 : (ps ++ #[rawInt pos.line, rawInt pos.col, Value.ref c']).toList = ps.toList ++ [rawInt pos.line, rawInt pos.col, Value.ref c'] := by simp
      rw [e2]
      rcases among_app (p := pos') (a := pos.line) (b := pos.col) (c := Value.ref c') ps.toList p2 with z | z
      · rw [z]
        rcases p3 pos' with y | ⟨c2, oc2, vs2, t2, y1, y2, y3, y4, y5⟩
        · exact .inl y
        · refine .inr ⟨c2, oc2, vs2, t2, y1, e _ y2 ?_, y3, y4, y5⟩
          intro hm
          have := List.mem_singleton.mp hm
          have p1' := (mem_inj N y2 (this ▸ p1))
          subst p1'
          cases y3
          exact absurd (by rw [Array.getElem?_toList]; exact y4) (triples_no_str p2 lamQual t2)
      · rw [z]
        exact .inr ⟨c', oc, vs, t, rfl, .tail _ (.head _), d1, d2, lc⟩
  · refine kla_hit F N T C rfl p1 p2 q1 hcl ?_
    intro f ctv h' tk F' N' l1
    exact h f c' oc vs t ctv _ h' tk F' N' (fun x hx _ => .tail _ hx) (.head _) (.tail _ q2) q3 q4 (l1 _ hSM) ⟨ps, .tail _ p1, p2, fun pos' => (p3 pos').imp id fun ⟨c2, oc2, vs2, t2, y1, y2, y3⟩ => ⟨c2, oc2, vs2, t2, y1, .tail _ y2, y3⟩, fun p hp => let ⟨y1, y2⟩ := p4 p hp; ⟨.tail _ y1, y2⟩⟩
theorem lam_eval {M : Model} {A : Around} {E : Value → Shared → Prop} {s : Shared} {h₀ : Heap} {K : List (Addr × Obj)} {L a SM : Addr} {m mg mb : Str → Option Value} {news : List (Addr × Obj)} {p : Program} {loose : List Str} {mean : ExcName → Option Value} {params : Arguments} {body : PySem.Expr} {scope : Scope} {pos : Pos} {clos : List (Str × Addr)} {Q : Value → Shared → Prop} {oSM : Obj}
    (F : Fr h₀ L s.heap m) (N : News h₀ L s.heap news) (T : Top p loose mean mg mb h₀) (C : CodeHd h₀ 527 525) (H : CodeT K SM news) (hSM : (SM, oSM) ∈ news) (hlt : LtA 525 SM)
    (hdef : defaultsOf params (lawEnv L a) = ([], [])) (hcl : closureFor scope (lawEnv L a) = pure clos)
    (h : ∀ f c' oc vs t ctv news' h' tk, Fr h₀ L h' m → News h₀ L h' news' → Ext [525] news news' → (f, kla_obj (Str.ofString "<lambda>") lamQual params body scope clos ((mg (Str.ofString "__name__")).getD .none) c' ctv) ∈ news' → (c', oc) ∈ news' → oc.data = .fields vs → vs[1]? = some (.str lamQual t) → LtA SM f → CodeT K SM news' → Q (.ref f) { s with heap := h', toks := tk }) :
    wpAny M A (eval (.Lambda params body scope pos) (lawEnv L a)) Q E s := kla_eval hdef (lam_any F N T C H hSM hlt hcl h)
theorem off1_ne {D : Addr} : ∀ {news : List (Addr × Obj)}, LCg.Off1 D news → ∀ p ∈ news, p.1 ≠ D
  | [], _, _, hp => nomatch hp
  | _ :: _, h, p, hp => by
    rcases List.mem_cons.mp hp with rfl | hp
    · exact h.1
    · exact off1_ne h.2 p hp
def UsedC (L DK O tt ML US : Addr) (us : List Str) (news : List (Addr × Obj)) : Prop := (∃ vs n, (US, listOf (List.toArray vs) n) ∈ news ∧ StrsAre vs us) ∧ US ∉ [DK, O, tt, ML, 525, L + 1 + 1, L + 1 + 1 + 1, L + 1 + 1 + 1 + 1]
theorem UsedC.ext {L DK O tt ML US : Addr} {us : List Str} {news news' : List (Addr × Obj)} {mods : List Addr} (h : UsedC L DK O tt ML US us news) (e : Ext mods news news') (hm : ∀ d ∈ mods, d ∈ [DK, O, tt, ML, 525, L + 1 + 1, L + 1 + 1 + 1, L + 1 + 1 + 1 + 1]) : UsedC L DK O tt ML US us news' :=
  let ⟨⟨vs, n, h1, h2⟩, h3⟩ := h; ⟨⟨vs, n, e _ h1 fun z => h3 (hm _ z), h2⟩, h3⟩
theorem UsedC.framed {L DK O tt ML US : Addr} {us : List Str} {news news' : List (Addr × Obj)} (h : UsedC L DK O tt ML US us news) (e : Framed O tt news news') : UsedC L DK O tt ML US us news' :=
  let ⟨⟨vs, n, h1, h2⟩, h3⟩ := h; ⟨⟨vs, n, e _ h1 (.inl ⟨notD_list, fun z => h3 (z ▸ .tail _ (.head _))⟩), h2⟩, h3⟩
theorem off_all {w : World} {K : List (Addr × Obj)} {L DK t0 O tt ML SM OL US : Addr} {lb : Int} {nso : List Int} {nmo : Int → Str} {mko : Int → MA} {news : List (Addr × Obj)} {oO : Obj} (H : LawN w K L DK t0 O tt ML SM OL lb nso nmo mko news) (hO : (O, oO) ∈ news) (off : ∀ p ∈ news, p.1 ≠ US) : US ∉ [DK, O, tt, ML, 525, L + 1 + 1, L + 1 + 1 + 1, L + 1 + 1 + 1 + 1] := fun hm => by
  obtain ⟨dvs, nD, ds, d1, d2, d3⟩ := H.deck
  obtain ⟨oT, tks, t1, t2, t3, t5, t4⟩ := H.tit
  obtain ⟨mvs, nM, a1, a2, a3⟩ := H.mar
  obtain ⟨ps, p1, p2, p3⟩ := H.ct
  obtain ⟨o2, v2, b1, b2⟩ := H.cel (L + 1 + 1) (by simp)
  obtain ⟨o3, v3, c1, c2⟩ := H.cel (L + 1 + 1 + 1) (by simp)
  obtain ⟨o4, v4, e1, e2⟩ := H.cel (L + 1 + 1 + 1 + 1) (by simp)
  have f1 := off _ d1; have f2 := off _ hO; have f3 := off _ t1; have f4 := off _ a1; have f5 := off _ p1; have f6 := off _ b1; have f7 := off _ c1; have f8 := off _ e1
  simp only [List.mem_cons, List.not_mem_nil, or_false] at hm
  rcases hm with h | h | h | h | h | h | h | h
  · exact f1 h.symm
  · exact f2 h.symm
  · exact f3 h.symm
  · exact f4 h.symm
  · exact f5 h.symm
  · exact f6 h.symm
  · exact f7 h.symm
  · exact f8 h.symm
theorem UsedC.make {w : World} {K : List (Addr × Obj)} {L DK t0 dT R O tt ML SM OL US : Addr} {lb lm : Int} {ns nso : List Int} {nm nmo : Int → Str} {c : Int} {bf : Int → BA} {mk mko : Int → MA} {news : List (Addr × Obj)} {us : List Str} {vs : List Value} {n : Nat} (H : LawS w K L DK t0 dT R O tt ML SM OL lb lm nso nmo mko ns nm c bf mk news) (off : ∀ p ∈ news, p.1 ≠ US) (hs : StrsAre vs us) : UsedC L DK O tt ML US us ((US, listOf (List.toArray vs) n) :: news) := by
  obtain ⟨es, nT, oR, vs, nO, kvs, S, hval, hperm⟩ := H.2.T
  exact ⟨⟨_, n, .head _, hs⟩, off_all H.1 S.hO off⟩
theorem LawM.put {DK SM ML OL : Addr} {c : Int} {m : Str → Option Value} {x : Str} {v : Option Value} (M : LawM DK SM ML OL c m) (hx : x ∉ ([Str.ofString "deck", Str.ofString "some", Str.ofString "marks", Str.ofString "order", Str.ofString "current"] : List Str)) : LawM DK SM ML OL c (fun y => if y = x then v else m y) := by
  simp only [List.mem_cons, List.not_mem_nil, or_false, not_or] at hx
  obtain ⟨h1, h2, h3, h4, h5⟩ := hx
  exact ⟨mget_ne (Ne.symm h1) M.mdk, mget_ne (Ne.symm h2) M.msm, mget_ne (Ne.symm h3) M.mml, mget_ne (Ne.symm h4) M.mor, let ⟨t, h⟩ := M.mcu; ⟨t, mget_ne (Ne.symm h5) h⟩⟩
theorem vcons {a : Int × Value} {r : List (Int × Value)} {n : Int} : valueAt (a :: r) n = if a.1 = n then some a.2 else valueAt r n := by
  unfold valueAt
  rw [List.find?_cons]
  by_cases h : a.1 = n <;> simp [h]
theorem vmap {k n : Int} {v : Value} : ∀ {kvs : List (Int × Value)}, valueAt (kvs.map fun kv => if kv.1 = k then (kv.1, v) else kv) n = if n = k then (if kvs.any (fun kv => kv.1 = k) then some v else none) else valueAt kvs n
  | [] => by
    by_cases h : n = k <;> simp [valueAt, h]
  | a :: r => by
    have ih := @vmap k n v r
    rw [List.map_cons, vcons, vcons, ih, List.any_cons]
    by_cases h1 : a.1 = k
    · by_cases h2 : n = k
      · simp [h1, h2]
      · have h3 : ¬ a.1 = n := fun e => h2 (e.symm.trans h1)
        have h4 : ¬ k = n := fun e => h2 e.symm
        simp [h1, h2, h4]
    · by_cases h2 : n = k
      · subst h2
        simp only [if_true, if_neg h1, decide_eq_false h1, Bool.false_or]
      · simp [h1, h2]
theorem stored_value {kvs : List (Int × Value)} {k n : Int} {v : Value} : valueAt (stored kvs k v) n = if n = k then some v else valueAt kvs n := by
  unfold stored
  cases h : kvs.any (fun kv => kv.1 = k) with
  | true =>
    simp only [if_true]
    rw [vmap, h]
    simp
  | false =>
    simp only [Bool.false_eq_true, if_false]
    have hk : ∀ x ∈ kvs, ¬ x.1 = k := fun x hx e => by
      have := List.any_eq_false.mp h x hx
      simp [e] at this
    clear h
    induction kvs with
    | nil =>
      rw [List.nil_append, vcons]
      by_cases h2 : n = k
      · simp [h2]
      · have h4 : ¬ k = n := fun e => h2 e.symm
        simp [h2, h4]
    | cons a r ih =>
      rw [List.cons_append, vcons, vcons, ih fun x hx => hk x (.tail _ hx)]
      have h1 := hk a (.head _)
      by_cases h2 : n = k
      · subst h2; simp [h1]
      · simp [h2]
theorem stored_keys {kvs : List (Int × Value)} {k : Int} {v : Value} : ∀ x ∈ (stored kvs k v).map (·.1), x = k ∨ x ∈ kvs.map (·.1) := by
  intro x hx
  unfold stored at hx
  split at hx
  · rw [List.map_map] at hx
    obtain ⟨y, hy, e⟩ := List.mem_map.mp hx
    refine .inr (List.mem_map.mpr ⟨y, hy, ?_⟩)
    rw [← e]
    simp only [Function.comp]
    split <;> rfl
  · rw [List.map_append] at hx
    rcases List.mem_append.mp hx with h | h
    · exact .inr h
    · exact .inl (by simpa using h)
theorem stored_len {kvs : List (Int × Value)} {k : Int} {v : Value} : (stored kvs k v).length ≤ kvs.length + 1 := by
  unfold stored
  split
  · simp
  · simp
theorem stored_len2 {kvs : List (Int × Value)} {k : Int} {v u : Value} (h : valueAt kvs k = some u) : (stored kvs k v).length = kvs.length := by
  have : kvs.any (fun kv => kv.1 = k) = true := by
    unfold valueAt at h
    cases q : kvs.find? (fun kv => kv.1 = k) with
    | none => rw [q] at h; cases h
    | some x => exact List.any_eq_true.mpr ⟨x, List.mem_of_find?_eq_some q, by have := List.find?_some q; simpa using this⟩
  unfold stored
  rw [if_pos this]
  simp
section
local macro_rules | `(tactic| k_get) => pure (side0 'a')
local macro_rules | `(tactic| k_lt $h) => ltY h
local macro_rules | `(tactic| k_ne) => alts [sub `Nat.ne_of_lt "a", sub `Nat.ne_of_gt "a"]
local macro_rules | `(tactic| walk_at "ne") => alts [side0 'a', sub `Ne.symm "a", kwY "k_ne", sub `ne_obj "aaad", sub `ne_obj "aaas"]
local macro_rules | `(tactic| k_mem) => alts [side0 'a', sub `List.Mem.head "_", redY [sub `mem_put_self "___"], sub' `mem_put_ne "%mN" "ba", sub' `mem_tl "%m", sub' `mem_ap "%m"]
local macro_rules | `(tactic| k_all) => alts [sub `all_ne_of_lt "a", sub' `all_ne_put "%NL"]
local macro_rules | `(tactic| walk_at "RoPost") => dsT `RoPost
local macro_rules | `(tactic| walk_at "subscriptTail") => lnP "subscriptTail _ _ ( Value.ref _ ) ( Value.int _ _ )" (fill `kda_item "@amaKa")
local macro_rules | `(tactic| walk_at "getMethod ref") => lnP "getMethod ( Value.ref _ ) ( Str.ofString #get ) _" (fill `kdg_method "@!ama")
local macro_rules | `(tactic| walk_at "getMethod ref") => lnP "getMethod ( Value.ref _ ) ( Str.ofString #pop ) _" (fill `kob_method "@!<>ama" "" [`PySem.F.slot_dict_pop, `PySem.F.type_dict_pop])
local macro_rules | `(tactic| walk_at "getMethod ref") => metL "remove"
local macro_rules | `(tactic| walk_at "getMethod ref") => metL "append"
local macro_rules | `(tactic| walk_at "getMethod ref") => metL "insert"
local macro_rules | `(tactic| walk_at "call builtin:dict.get") => ln `kdg_get1 "@!amaaK_R"
local macro_rules | `(tactic| walk_at "setAttr ref") => lnI `setA "AAammiiiiao"
local macro_rules | `(tactic| walk_at "call builtin:list.remove") => lnI `list_removeA "Aamaao"
local macro_rules | `(tactic| walk_at "call builtin:list.insert") => lnI `list_insertA "Aamao"
local macro_rules | `(tactic| walk_at "call builtin:list.append") => lnI `list_appendA "Aamo"
local macro_rules | `(tactic| walk_at "call ref") => stops [416, 409, 466, 452, 431, 378]
local macro_rules | `(tactic| k_room) => pure (side0 'v')
local macro_rules | `(tactic| k_units) => pure (side0 'u')
local macro_rules | `(tactic| ktr_room) => alts [roomY 0, roomY 1, roomY 2]
section
variable {w : World} {loose : List Str} {mean : ExcName → Option Value} {mg mb : Str → Option Value} {dp un : Nat} {gd : Option (List Code)} {cn : Str} {cs : Scope} {a : Addr} {ccd : Value} {cl : List (Str × Addr)} {outer : List Env} {A₀ : Around} {base h₀ : Heap} {L : Addr} {m : Str → Option Value} {news : List (Addr × Obj)} {s : Shared} {Q E : Value → Shared → Prop}
  {t0 dT R O : Addr} {es : List DictEntry} {nT : Nat} {oR : Obj} {vs : List Value} {nO : Nat} {c l k : Int} {kvs : List (Int × Value)} {ns : List Int}
theorem by_name_spec (B : Below A₀ base outer h₀) (F : Fr h₀ L s.heap m) (X : (heapK w.params).In h₀) (N : News h₀ L s.heap news) (T : Top topProg loose mean mg mb h₀) (hk : cs.kind = .function) (hd : dp + 5 < recursionLimit) (hu : un + 20 < cLine) (S : Tbl w news t0 dT R O es nT oR vs nO c l k kvs ns) (bf : Int → Addr) (nm : Int → Str) (hB : Bufs news kvs ns bf nm) {q : Str} {tq : Tok}
    (hq : ∀ r h' tk', r = findV bf (ns.find? fun n => nm n == q) → Fr h₀ L h' m → News h₀ L h' news → Q r { s with heap := h', toks := tk' }) :
    wpAny (model PySem.Challenge.pw_np0064_01 w) (ktrTop dp un gd cn cs L a ccd cl outer) (call (.ref 416) [.ref t0, .str q tq]) Q E s := by
  obtain ⟨hT, hdT, D, hR, lo, hRd, hO, hI, _⟩ := S
  have g1 := D.rows
  have g2 := D.order
  refine wpAny_call ?_
  k_dflt ktr_enter
  k_steps
  rename News _ _ _ _ => N'
  rename Fr _ _ _ _ => F'
  have hlen := hI.length
  refine iter_ro [] (fun i => ∀ j, j < i → ∀ n, ns[j]? = some n → (nm n == q) = false) rfl hO F' N' (fun j h => absurd h (Nat.not_lt_zero j)) ?_ ?_
  · intro i v own u h tk hv hP F₁ N₁
    obtain ⟨n, hn⟩ : ∃ n, ns[i]? = some n := ⟨ns[i]'(by have := (List.getElem?_eq_some_iff.mp hv).1; omega), by simp⟩
    obtain ⟨t, ht⟩ := hI.get i n hn
    rw [hv] at ht
    cases ht
    obtain ⟨hb1, db, esb, nb, hb2, hb3, _, ⟨tb, hb4⟩, _⟩ := hB n (List.mem_of_getElem? hn)
    have hs : ∀ p ∈ news, p ∈ own ++ news := fun p hp => List.mem_append_right _ hp
    have hT' := hs _ hT; have hdT' := hs _ hdT; have hR' := hs _ hR; have hb2' := hs _ hb2; have hb3' := hs _ hb3
    clear N'
    k_steps
    · rename News _ _ _ _ => kN
      rename Fr _ _ _ _ => kF
      exact hq _ _ _ (by rw [find_at hn (by assumption) hP]; rfl) kF (nsub kN hs)
    · exact .intro F₁ N₁ (fun z h1 _ => by simp [h1]) (upto hP fun n' h' => by rw [hn] at h'; cases h'; assumption)
  · intro u u' h tk hP F₁ N₁
    clear F' N'
    dsimp only
    k_steps
    exact hq _ _ _ (by rw [find_no (by rw [← hlen]; exact hP)]; rfl) (by assumption) (by assumption)
end
section
variable {w : World} {loose : List Str} {mean : ExcName → Option Value} {mg mb : Str → Option Value} {dp un : Nat} {gd : Option (List Code)} {cn : Str} {cs : Scope} {a : Addr} {ccd : Value} {cl : List (Str × Addr)} {outer : List Env} {A₀ : Around} {base h₀ : Heap} {L : Addr} {m : Str → Option Value} {news : List (Addr × Obj)} {s : Shared} {Q E : Value → Shared → Prop}
  {t0 dT R O : Addr} {es : List DictEntry} {nT : Nat} {oR : Obj} {vs : List Value} {nO : Nat} {c l k : Int} {kvs : List (Int × Value)} {ns : List Int}
theorem by_number_spec (B : Below A₀ base outer h₀) (F : Fr h₀ L s.heap m) (X : (heapK w.params).In h₀) (N : News h₀ L s.heap news) (T : Top topProg loose mean mg mb h₀) (hk : cs.kind = .function) (hd : dp + 5 < recursionLimit) (hu : un + 20 < cLine) (S : Tbl w news t0 dT R O es nT oR vs nO c l k kvs ns) {q : Int} {tq : Tok}
    (hq : ∀ h' tk', Fr h₀ L h' m → News h₀ L h' news → Q ((valueAt kvs q).getD .none) { s with heap := h', toks := tk' }) :
    wpAny (model PySem.Challenge.pw_np0064_01 w) (ktrTop dp un gd cn cs L a ccd cl outer) (call (.ref 409) [.ref t0, .int q tq]) Q E s := by
  obtain ⟨hT, hdT, D, hR, lo, hRd, hO, hI, _⟩ := S
  have g1 := D.rows
  refine wpAny_call ?_
  k_dflt ktr_enter
  k_steps
  exact hq _ _ (by assumption) (by assumption)
theorem other_spec (B : Below A₀ base outer h₀) (F : Fr h₀ L s.heap m) (X : (heapK w.params).In h₀) (N : News h₀ L s.heap news) (T : Top topProg loose mean mg mb h₀) (hk : cs.kind = .function) (hd : dp + 5 < recursionLimit) (hu : un + 20 < cLine) (S : Tbl w news t0 dT R O es nT oR vs nO c l k kvs ns) (bf : Int → Addr) (nm : Int → Str) (hB : Bufs news kvs ns bf nm) {b : Addr} {num : Int} {nmb : Str} (hb : LiveBuf news b num nmb)
    (hq : ∀ r h' tk', r = findV bf (ns.find? fun n => n != num && !(Txt.startswith (nm n) (Str.ofString " "))) → Fr h₀ L h' m → News h₀ L h' news → Q r { s with heap := h', toks := tk' }) :
    wpAny (model PySem.Challenge.pw_np0064_01 w) (ktrTop dp un gd cn cs L a ccd cl outer) (call (.ref 466) [.ref t0, .ref b]) Q E s := by
  obtain ⟨hT, hdT, D, hR, lo, hRd, hO, hI, _⟩ := S
  have g1 := D.rows
  have g2 := D.order
  obtain ⟨dB, esB, nB, ho1, ho2, ⟨tn, ho3⟩, _, _⟩ := hb
  refine wpAny_call ?_
  k_dflt ktr_enter
  k_steps
  rename News _ _ _ _ => N'
  rename Fr _ _ _ _ => F'
  have hlen := hI.length
  refine iter_ro [] (fun i => ∀ j, j < i → ∀ n, ns[j]? = some n → (n != num && !(Txt.startswith (nm n) (Str.ofString " "))) = false) rfl hO F' N' (fun j h => absurd h (Nat.not_lt_zero j)) ?_ ?_
  · intro i v own u h tk hv hP F₁ N₁
    obtain ⟨n, hn⟩ : ∃ n, ns[i]? = some n := ⟨ns[i]'(by have := (List.getElem?_eq_some_iff.mp hv).1; omega), by simp⟩
    obtain ⟨t, ht⟩ := hI.get i n hn
    rw [hv] at ht
    cases ht
    obtain ⟨hb1, db, esb, nb, hb2, hb3, _, ⟨tb, hb4⟩, _⟩ := hB n (List.mem_of_getElem? hn)
    have hs : ∀ p ∈ news, p ∈ own ++ news := fun p hp => List.mem_append_right _ hp
    have hT' := hs _ hT; have hdT' := hs _ hdT; have hR' := hs _ hR; have hb2' := hs _ hb2; have hb3' := hs _ hb3; have ho1' := hs _ ho1; have ho2' := hs _ ho2
    clear N'
    k_steps
    · exact .intro F₁ N₁ (fun z h1 _ => by simp [h1]) (upto hP fun n' h' => by rw [hn] at h'; cases h'; simp_all)
    · exact hq _ _ _ (by rw [find_at hn (by simp_all) hP]; rfl) (by assumption) (nsub (by assumption) hs)
    · exact .intro F₁ N₁ (fun z h1 _ => by simp [h1]) (upto hP fun n' h' => by rw [hn] at h'; cases h'; simp_all)
  · intro u u' h tk hP F₁ N₁
    clear F' N'
    dsimp only
    k_steps
    exact hq _ _ _ (by rw [find_no (by rw [← hlen]; exact hP)]; rfl) (by assumption) (by assumption)
end
section
variable {w : World} {loose : List Str} {mean : ExcName → Option Value} {mg mb : Str → Option Value} {dp un : Nat} {gd : Option (List Code)} {cn : Str} {cs : Scope} {a : Addr} {ccd : Value} {cl : List (Str × Addr)} {outer : List Env} {A₀ : Around} {base h₀ : Heap} {L : Addr} {m : Str → Option Value} {news : List (Addr × Obj)} {s : Shared} {Q E : Value → Shared → Prop}
  {t0 dT R O : Addr} {es : List DictEntry} {nT : Nat} {oR : Obj} {vs : List Value} {nO : Nat} {c l k : Int} {kvs : List (Int × Value)} {ns : List Int}
theorem set_current_spec (B : Below A₀ base outer h₀) (F : Fr h₀ L s.heap m) (X : (heapK w.params).In h₀) (N : News h₀ L s.heap news) (T : Top topProg loose mean mg mb h₀) (hk : cs.kind = .function) (hd : dp + 5 < recursionLimit) (hu : un + 20 < cLine) (S : Tbl w news t0 dT R O es nT oR vs nO c l k kvs ns) {b : Addr} {num : Int} {nmb : Str} (hb : LiveBuf news b num nmb)
    (hq : ∀ h' tk' es' n', TabD es' R O num l k → Fr h₀ L h' m → News h₀ L h' (put news dT (dictOf es' n')) → Q .none { s with heap := h', toks := tk' }) :
    wpAny (model PySem.Challenge.pw_np0064_01 w) (ktrTop dp un gd cn cs L a ccd cl outer) (call (.ref 452) [.ref t0, .ref b]) Q E s := by
  obtain ⟨hT, hdT, D, hR, lo, hRd, hO, hI, _⟩ := S
  obtain ⟨tc, g3⟩ := D.current
  have hes := D.len
  obtain ⟨dB, esB, nB, ho1, ho2, ⟨tn, ho3⟩, _, ho4⟩ := hb
  refine wpAny_call ?_
  k_dflt ktr_enter
  k_steps
  exact hq _ _ _ _ (D.current_of (by assumption) (by assumption) (by assumption)) (by assumption) (by assumption)
theorem bury_spec (B : Below A₀ base outer h₀) (F : Fr h₀ L s.heap m) (X : (heapK w.params).In h₀) (N : News h₀ L s.heap news) (T : Top topProg loose mean mg mb h₀) (hk : cs.kind = .function) (hd : dp + 5 < recursionLimit) (hu : un + 20 < cLine) (S : Tbl w news t0 dT R O es nT oR vs nO c l k kvs ns) {b : Addr} {num : Int} {nmb : Str} (hb : LiveBuf news b num nmb) (hm : num ∈ ns) (hz : ns.length ≤ 20)
    (hq : ∀ h' tk' vs' n', IntsAre vs' (ns.erase num ++ [num]) → Fr h₀ L h' m → News h₀ L h' (put news O (listOf vs'.toArray n')) → Q .none { s with heap := h', toks := tk' }) :
    wpAny (model PySem.Challenge.pw_np0064_01 w) (ktrTop dp un gd cn cs L a ccd cl outer) (call (.ref 459) [.ref t0, .ref b]) Q E s := by
  obtain ⟨n1, n2, n3, n4, n5⟩ := S.apart N
  obtain ⟨hT, hdT, D, hR, lo, hRd, hO, hI, _⟩ := S
  have g2 := D.order
  have hvl := hI.length
  obtain ⟨dB, esB, nB, ho1, ho2, ⟨tn, ho3⟩, _, ho4⟩ := hb
  have n6 : b ≠ O := ne_obj N ho1 hO (by simp)
  have n7 : dB ≠ O := ne_obj N ho2 hO (by simp)
  have hz' : (ns.erase num).length ≤ ns.length := List.length_erase_le
  refine wpAny_call ?_
  k_dflt ktr_enter
  k_steps
  rename IntsAre _ (ns.erase num) => hI2
  have hvl2 := hI2.length
  k_steps
  rename News h₀ L _ _ => kN
  rw [put_put] at kN
  exact hq _ _ _ _ (hI2.append (.cons _ _ .nil)) (by assumption) kN
theorem select_spec (B : Below A₀ base outer h₀) (F : Fr h₀ L s.heap m) (X : (heapK w.params).In h₀) (N : News h₀ L s.heap news) (T : Top topProg loose mean mg mb h₀) (hk : cs.kind = .function) (hd : dp + 8 < recursionLimit) (hu : un + 40 < cLine) (S : Tbl w news t0 dT R O es nT oR vs nO c l k kvs ns) {b : Addr} {num : Int} {nmb : Str} (hb : LiveBuf news b num nmb) (nb1 : ∀ db es n, (b, instObj 359 db) ∈ news → (db, dictOf es n) ∈ news → db ≠ dT) (hm : num ∈ ns) (hz : ns.length ≤ 20)
    (hq : ∀ h' tk' vs' n' es' n2, IntsAre vs' (num :: ns.erase num) → TabD es' R O num l k → Fr h₀ L h' m → News h₀ L h' (put (put news dT (dictOf es' n2)) O (listOf vs'.toArray n')) → Q .none { s with heap := h', toks := tk' }) :
    wpAny (model PySem.Challenge.pw_np0064_01 w) (ktrTop dp un gd cn cs L a ccd cl outer) (call (.ref 445) [.ref t0, .ref b]) Q E s := by
  obtain ⟨n1, n2, n3, n4, n5⟩ := S.apart N
  have hb' := hb
  have S' := S
  obtain ⟨hT, hdT, D, hR, lo, hRd, hO, hI, _⟩ := S
  have g2 := D.order
  have hvl := hI.length
  obtain ⟨dB, esB, nB, ho1, ho2, ⟨tn, ho3⟩, _, ho4⟩ := hb
  have n6 : b ≠ O := ne_obj N ho1 hO (by simp)
  have n7 : dB ≠ O := ne_obj N ho2 hO (by simp)
  have n8 : b ≠ dT := ne_obj N ho1 hdT (by simp)
  have n9 : dB ≠ dT := nb1 _ _ _ ho1 ho2
  have gm : getL "set_current" es = some none := D.other _ (by decide)
  have hz' : (ns.erase num).length ≤ ns.length := List.length_erase_le
  refine wpAny_call ?_
  k_dflt ktr_enter
  k_steps
  refine stopE (set_current_spec (by assumption) (by assumption) (by assumption) (by assumption) (by assumption) rfl (dlt (j := 6) hd (by decide)) (dlt (j := 23) hu (by decide)) S' hb' ?_)
  intro h1 tk1 es1 n1' D1 F1 N1
  have g2' := D1.order
  k_steps
  rename IntsAre _ (ns.erase num) => hI2
  have hvl2 := hI2.length
  k_steps
  rename News h₀ L _ _ => kN
  rw [put_put] at kN
  exact hq _ _ _ _ _ _ (by assumption) D1 (by assumption) kN
end
theorem sig_apart {news : List (Addr × Obj)} {x t dx : Addr} {o o' : Obj} (h1 : ∀ p ∈ (t, o') :: news, @LT.lt Nat _ p.1 dx) (h2 : @LT.lt Nat _ x dx) (_ : ∀ p ∈ (t, o') :: news, p.1 ≠ x) : ∀ p ∈ (x, o) :: (t, o') :: news, p.1 ≠ dx := fun p hp => by
  rcases List.mem_cons.mp hp with rfl | hp
  · exact Nat.ne_of_lt h2
  · exact Nat.ne_of_lt (h1 p hp)
theorem raise_end {M : Model} {A : Around} {E : Value → Shared → Prop} {s : Shared} {env : Env} {base g : Heap} {outer : List Env} {L e de t l : Addr} {m : Str → Option Value} {lo to : Obj} {es : List DictEntry} {n : Nat} {news : List (Addr × Obj)} {Q : Unit → Shared → Prop}
    (B : Below A base outer g) (F : Fr g L s.heap m) (N : News g L s.heap ((de, dictOf es n) :: (e, sigIn t de) :: (t, to) :: (l, lo) :: news)) (hf : env.frame = some L) (hk : env.scope.kind = .function) (l1 : ∀ p ∈ (l, lo) :: news, @LT.lt Nat _ p.1 t) (l2 : @LT.lt Nat _ t e) (l3 : @LT.lt Nat _ e de)
    (hQ : ∀ h', FlyX base g outer e de ((de, dictOf es n) :: news) h' → Q () { s with heap := h' }) : wpAny M (A.deeper env) (leaving env (.ref e)) Q E s := by
  have he := N _ (.tail _ (.head _))
  refine fly_first B F hf hk he.1 he.2.2 (nsub N fun p hp => ?_) (fun q hq => ?_) he.2.1 hQ
  · rcases List.mem_cons.mp hp with rfl | hp
    · exact .head _
    · exact .tail _ (.tail _ (.tail _ (.tail _ hp)))
  · rcases List.mem_cons.mp hq with rfl | hq
    · exact Nat.ne_of_gt l3
    · exact Nat.ne_of_lt (Nat.lt_trans (l1 q (.tail _ hq)) l2)
theorem in_keeps {K : Frag} {g h : Heap} {L : Addr} {m : Str → Option Value} (X : K.In g) (F : Fr g L h m) : K.In h := X.keeps F.keep
section
local macro_rules | `(tactic| walk_at "setAttr ref") => lnI `sig_first "AAYaar"
local macro_rules | `(tactic| walk_at "setAttr ref") => lnI `sig_next "AAYajrrs"
section
variable {w : World} {loose : List Str} {mean : ExcName → Option Value} {mg mb : Str → Option Value} {dp un : Nat} {gd : Option (List Code)} {cn : Str} {cs : Scope} {a : Addr} {ccd : Value} {cl : List (Str × Addr)} {outer : List Env} {A₀ : Around} {base h₀ : Heap} {L : Addr} {m : Str → Option Value} {news : List (Addr × Obj)} {s : Shared} {Q E : Value → Shared → Prop}
  {t0 dT R O : Addr} {es : List DictEntry} {nT : Nat} {oR : Obj} {vs : List Value} {nO : Nat} {c l k : Int} {kvs : List (Int × Value)} {ns : List Int}
theorem sig_spec (B : Below A₀ base outer h₀) (F : Fr h₀ L s.heap m) (X : (heapK w.params).In h₀) (N : News h₀ L s.heap news) (T : Top topProg loose mean mg mb h₀) (hk : cs.kind = .function) (hd : dp + 5 < recursionLimit) (hu : un + 20 < cLine) {sym : Str} {ts : Tok} {l : Addr}
    (hq : ∀ e de t h' tk' es n, Fr h₀ L h' m → News h₀ L h' ((de, dictOf es n) :: (e, sigIn t de) :: (t, sigTup [.str sym ts, .ref l]) :: news) → (∀ p ∈ news, @LT.lt Nat _ p.1 t) → @LT.lt Nat _ t e → @LT.lt Nat _ e de → getL "symbol" es = some (some (.str sym ts)) → Q (.ref e) { s with heap := h', toks := tk' }) :
    wpAny (model PySem.Challenge.pw_np0064_01 w) (ktrTop dp un gd cn cs L a ccd cl outer) (call (.ref 378) [.str sym ts, .ref l]) Q E s := by
  refine sig_make F X N (sigK w) (sigC w) rfl (by show 2 ≤ _; rw [sizeLine_eq]; decide) ?_
  intro x t h' F1 N1 l1 l2
  have hx : ∀ p ∈ (t, sigTup [.str sym ts, .ref l]) :: news, p.1 ≠ x := fun p hp => by
    rcases List.mem_cons.mp hp with rfl | hp
    · exact Nat.ne_of_lt l2
    · exact Nat.ne_of_lt (Nat.lt_trans (l1 p hp) l2)
  k_dflt ktr_enter
  k_steps
  refine hq _ _ _ _ _ _ _ (by assumption) (by assumption) l1 l2 (by assumption) ?_
  exact (getL_putL_ne (by decide)).trans rfl
end
end
section
local macro_rules | `(tactic| walk_at "exec Raise some none") => lnP "exec ( Stmt.Raise ( some ( Expr.Call ( Expr.Name ( Str.ofString #LispSignal ) _ ) _ _ _ ) ) none _ ) _" (fill `Raise_sig "Cq")
section
variable {w : World} {loose : List Str} {mean : ExcName → Option Value} {mg mb : Str → Option Value} {dp un : Nat} {gd : Option (List Code)} {cn : Str} {cs : Scope} {a : Addr} {ccd : Value} {cl : List (Str × Addr)} {outer : List Env} {A₀ : Around} {base h₀ : Heap} {L : Addr} {m : Str → Option Value} {news : List (Addr × Obj)} {s : Shared} {Q E : Value → Shared → Prop}
  {t0 dT R O : Addr} {es : List DictEntry} {nT : Nat} {oR : Obj} {vs : List Value} {nO : Nat} {c l k : Int} {kvs : List (Int × Value)} {ns : List Int}
theorem create_empty (B : Below A₀ base outer h₀) (F : Fr h₀ L s.heap m) (X : (heapK w.params).In h₀) (N : News h₀ L s.heap news) (T : Top topProg loose mean mg mb h₀) (hk : cs.kind = .function) (hd : dp + 12 < recursionLimit) (hu : un + 60 < cLine) {tq : Tok}
    (hE : ∀ e de h' tk' g₂ es n tn, Fr h₀ L g₂ m → FlyX base g₂ (envX cn cs L a ccd cl :: outer) e de ((de, dictOf es n) :: news) h' → getL "symbol" es = some (some (.str (Str.ofString "error") tn)) → E (.ref e) { s with heap := h', toks := tk' }) :
    wpAny (model PySem.Challenge.pw_np0064_01 w) (ktrTop dp un gd cn cs L a ccd cl outer) (call (.ref 423) [.ref t0, .str (Str.ofString "") tq]) Q E s := by
  refine wpAny_call ?_
  k_dflt ktr_enter
  k_steps
  refine stopE (sig_spec (by assumption) (by assumption) (by assumption) (by assumption) (by assumption) rfl (dlt (j := 6) hd (by decide)) (dlt (j := 23) hu (by decide)) ?_)
  intro e de t h' tk' es n F1 N1 l1 l2 l3 hs
  refine ⟨e, t, de, rfl, in_keeps (by assumption) F1, (N1 _ (.tail _ (.head _))).1, ?_⟩
  refine raise_end (by assumption) F1 N1 rfl rfl l1 l2 l3 ?_
  intro h2 R

  exact hE _ _ _ _ _ _ _ _ (by assumption) R hs
end
section
variable {w : World} {loose : List Str} {mean : ExcName → Option Value} {mg mb : Str → Option Value} {dp un : Nat} {gd : Option (List Code)} {cn : Str} {cs : Scope} {a : Addr} {ccd : Value} {cl : List (Str × Addr)} {outer : List Env} {A₀ : Around} {base h₀ : Heap} {L : Addr} {m : Str → Option Value} {news : List (Addr × Obj)} {s : Shared} {Q E : Value → Shared → Prop}
  {t0 dT R O : Addr} {es : List DictEntry} {nT : Nat} {oR : Obj} {vs : List Value} {nO : Nat} {c l k : Int} {kvs : List (Int × Value)} {ns : List Int}
theorem create_used (B : Below A₀ base outer h₀) (F : Fr h₀ L s.heap m) (X : (heapK w.params).In h₀) (N : News h₀ L s.heap news) (T : Top topProg loose mean mg mb h₀) (hk : cs.kind = .function) (hd : dp + 12 < recursionLimit) (hu : un + 60 < cLine) (S : Tbl w news t0 dT R O es nT oR vs nO c l k kvs ns) (bf : Int → Addr) (nm : Int → Str) (hB : Bufs news kvs ns bf nm) {q : Str} {tq : Tok} (hne : (q == Str.ofString "") = false) {nq : Int} (hno : (ns.find? fun n => nm n == q) = some nq)
    (hE : ∀ e de h' tk' g₂ es n tn, Fr h₀ L g₂ m → FlyX base g₂ (envX cn cs L a ccd cl :: outer) e de ((de, dictOf es n) :: news) h' → getL "symbol" es = some (some (.str (Str.ofString "error") tn)) → E (.ref e) { s with heap := h', toks := tk' }) :
    wpAny (model PySem.Challenge.pw_np0064_01 w) (ktrTop dp un gd cn cs L a ccd cl outer) (call (.ref 423) [.ref t0, .str q tq]) Q E s := by
  have S' := S
  obtain ⟨hT, hdT, D, hR, lo, hRd, hO, hI, _⟩ := S
  have gm : getL "by_name" es = some none := D.other _ (by decide)
  refine wpAny_call ?_
  k_dflt ktr_enter
  k_steps
  refine stopE (by_name_spec (by assumption) (by assumption) (by assumption) (by assumption) (by assumption) rfl (dlt (j := 6) hd (by decide)) (dlt (j := 23) hu (by decide)) S' bf nm hB ?_)
  rintro r h1 tk1 rfl F1 N1
  rw [hno]
  dsimp only [findV]
  k_steps
  refine stopE (sig_spec (by assumption) (by assumption) (by assumption) (by assumption) (by assumption) rfl (dlt (j := 6) hd (by decide)) (dlt (j := 23) hu (by decide)) ?_)
  intro e de t h' tk' es n F1 N1 l1 l2 l3 hs
  refine ⟨e, t, de, rfl, in_keeps (by assumption) F1, (N1 _ (.tail _ (.head _))).1, ?_⟩
  refine raise_end (by assumption) F1 N1 rfl rfl l1 l2 l3 ?_
  intro h2 R
  exact hE _ _ _ _ _ _ _ _ (by assumption) R hs
end
section
local macro_rules | `(tactic| walk_at "call ref") => stopP "call ( Value.ref _ ) List.nil"
local macro_rules | `(tactic| walk_at "callWith ref") => hereY [dfltY (parY [fill `callWith_F0 "F", tryY (dsY [`List.nil_append, `List.cons_append])])]
local macro_rules | `(tactic| walk_at "getAttr ref") => ln `sig_get "kSaar"
section
variable {w : World} {loose : List Str} {mean : ExcName → Option Value} {mg mb : Str → Option Value} {dp un : Nat} {gd : Option (List Code)} {cn : Str} {cs : Scope} {a : Addr} {ccd : Value} {cl : List (Str × Addr)} {outer : List Env} {A₀ : Around} {base h₀ : Heap} {L : Addr} {m : Str → Option Value} {news : List (Addr × Obj)} {s : Shared} {Q E : Value → Shared → Prop}
  {t0 dT R O : Addr} {es : List DictEntry} {nT : Nat} {oR : Obj} {vs : List Value} {nO : Nat} {c l k : Int} {kvs : List (Int × Value)} {ns : List Int}
theorem told_spec (B : Below A₀ base [] h₀) (F : Fr h₀ L s.heap m) (X : (heapK w.params).In h₀) (N : News h₀ L s.heap news) (T : Top topProg loose mean mg mb h₀) (XB : (heapK w.params).In base) (TB : Top topProg loose mean mg mb base) (hk : cs.kind = .function) (hdp : dp + 20 < recursionLimit) (hu : un + 100 < cLine)
    {lam cL : Addr} {nmL qualL : Str} {paramsL : Arguments} {bodyL : PySem.Expr} {scopeL : Scope} {clL : List (Str × Addr)} {pmL ctL : Value} (hlam : (lam, kla_obj nmL qualL paramsL bodyL scopeL clL pmL cL ctL) ∈ news) (P1 : Value → List (Addr × Obj) → Prop) (P2 : List (Addr × Obj) → Prop)
    (deed : ∀ (dp1 un1 : Nat) (gd1 : Option (List Code)) (cn1 : Str) (cs1 : Scope) (a1 : Addr) (ccd1 : Value) (A1 : Around) (L1 : Addr) (g1 : Heap) (m1 : Str → Option Value) (s1 : Shared) (Q1 E1 : Value → Shared → Prop), dp1 ≤ dp + 3 → un1 ≤ un + 20 → cs1.kind = .function → Below A1 base [envX cn cs L a ccd cl] g1 → Fr g1 L1 s1.heap m1 → (heapK w.params).In g1 → News g1 L1 s1.heap news → Top topProg loose mean mg mb g1 →
      (∀ v h2 tk2 news', P1 v news' → Fr g1 L1 h2 m1 → News g1 L1 h2 news' → Q1 v { s1 with heap := h2, toks := tk2 }) →
      (∀ e de h2 tk2 g2 es n tn news', P2 news' → Fr g1 L1 g2 m1 → FlyX base g2 [envX cn1 cs1 L1 a1 ccd1 [], envX cn cs L a ccd cl] e de ((de, dictOf es n) :: news') h2 → getL "symbol" es = some (some (.str (Str.ofString "error") tn)) → E1 (.ref e) { s1 with heap := h2, toks := tk2 }) →
      wpAny (model PySem.Challenge.pw_np0064_01 w) (ktrTop dp1 un1 gd1 cn1 cs1 L1 a1 ccd1 [] [envX cn cs L a ccd cl]) (call (.ref lam) []) Q1 E1 s1)
    (hq1 : ∀ v h' tk' news', P1 v news' → Fr h₀ L h' m → News h₀ L h' news' → Q v { s with heap := h', toks := tk' })
    (hq2 : ∀ t h' tk' news', P2 news' → Fr h₀ L h' m → News h₀ L h' news' → Q (.str (Str.ofString "refused") t) { s with heap := h', toks := tk' }) :
    wpAny (model PySem.Challenge.pw_np0064_01 w) (ktrTop dp un gd cn cs L a ccd cl []) (call (.ref 513) [.ref lam]) Q E s := by
  refine wpAny_call ?_
  k_dflt (refine' code_defT B F X N T rfl rfl ?k3 ?k4 ?k5 ?k6 ?k7 ?k8 ?_ ?c1 ?c2 ?c3 ?c4; (case k3 => assumption); (case k4 => exact rfl); (case k5 => k_is); (case k6 => ktr_room); (case k7 => exact BindsTo.of_eq rfl); (case k8 => exact locs rfl); (case c1 => exact rfl); (case c2 => exact rfl); (case c3 => exact rfl); (case c4 => decide))
  intro g' L' h' FG' F' N' B' X' T'
  (try dsimp only)
  (try k_fold)
  k_steps
  refine stopE (deed _ _ _ _ _ _ _ _ _ _ _ _ _ _ (by show dp + 1 ≤ _; omega) (by show un + 3 ≤ _; omega) rfl B' F' X' N' T' ?_ ?_)
  · intro v h2 tk2 news' p F2 N2
    k_steps
    exact hq1 _ _ _ _ p (by assumption) (by assumption)
  · intro e de h2 tk2 g2 es n tn news' p F2 R hs
    refine fly_caught R F2 B' XB TB rfl rfl ?_
    intro h3 g3 tk3 oe ws T3 F3 N3 oc odd od B3 X3 P3
    have hI := sig_inst (N3) (.head _) oc odd od (.tail _ (.head _))
    have hf := sig_find w (n := n) hs
    clear F' N' X' T' B' FG'
    k_steps
    exact hq2 _ _ _ _ p (by assumption) (nsub (by assumption) fun q hq => .tail _ (.tail _ hq))
end
end
end
section
local macro_rules | `(tactic| k_enter) => enterT `code_def "AAAAArrbiivfh?rrrd" "fghabcdeijklrmopq"
section
local macro_rules | `(tactic| walk_at "execs cons") => stopP "execs ( List.cons ( Stmt.Assign ( List.cons ( Expr.Attribute _ ( Str.ofString #point ) _ ) List.nil ) _ _ ) _ ) _"
local macro_rules | `(tactic| walk_at "setAttr ref") => hereY [dfltY (firstY [fill `setP "AAtmaddiiiid", fill `setPL "AAamadiiiid"]), introsY]
section
variable {w : World} {loose : List Str} {mean : ExcName → Option Value} {mg mb : Str → Option Value} {dp un : Nat} {gd : Option (List Code)} {cn : Str} {cs : Scope} {a : Addr} {ccd : Value} {cl : List (Str × Addr)} {outer : List Env} {A₀ : Around} {base h₀ : Heap} {L : Addr} {m : Str → Option Value} {news : List (Addr × Obj)} {s : Shared} {Q E : Value → Shared → Prop}
  {t0 dT R O : Addr} {es : List DictEntry} {nT : Nat} {oR : Obj} {vs : List Value} {nO : Nat} {c l k : Int} {kvs : List (Int × Value)} {ns : List Int}
theorem make_buffer (B : Below A₀ base outer h₀) (F : Fr h₀ L s.heap m) (X : (heapK w.params).In h₀) (N : News h₀ L s.heap news) (T : Top topProg loose mean mg mb h₀) (hk : cs.kind = .function) (hd : dp + 12 < recursionLimit) (hu : un + 60 < cLine) {num : Int} {tn : Tok} {q : Str} {tq : Tok}
    (hq : ∀ (A : BA) h' tk' news', Fr h₀ L h' m → News h₀ L h' news' → (∀ p ∈ news, p ∈ news') → (∀ p ∈ news, @LT.lt Nat _ p.1 A.db) → BufO w news' A num q true [] → Q (.ref A.b) { s with heap := h', toks := tk' }) :
    wpAny (model PySem.Challenge.pw_np0064_01 w) (ktrTop dp un gd cn cs L a ccd cl outer) (call (.ref 359) [.int num tn, .str q tq]) Q E s := by
  k_steps
  rename News _ _ _ _ => kN
  refine buf_mid kN ⟨rfl, fun x hx => getL_one hx⟩ rfl ⟨rfl, ⟨_, rfl⟩, ⟨_, rfl⟩, rfl⟩ BufP.four (by assumption) (by assumption) (by assumption) (by assumption) (by assumption) (by assumption) (by assumption) (by assumption) (by assumption) ?_
  intro news' es n N1 hP hs hb hM
  clear kN
  refine stopE (wpAny_execs_cons ?_)
  k_steps
  rename News h₀ L _ _ => kN
  rename Fr h₀ L _ _ => kF
  rename BufP _ _ _ _ _ true _ _ => hP
  exact hq _ _ _ _ kF kN (up_put hs (by assumption)) (by assumption) (buf_done hM hP (by decide) rfl)
end
end
section
variable {w : World} {loose : List Str} {mean : ExcName → Option Value} {mg mb : Str → Option Value} {dp un : Nat} {gd : Option (List Code)} {cn : Str} {cs : Scope} {a : Addr} {ccd : Value} {cl : List (Str × Addr)} {outer : List Env} {A₀ : Around} {base h₀ : Heap} {L : Addr} {m : Str → Option Value} {news : List (Addr × Obj)} {s : Shared} {Q E : Value → Shared → Prop}
  {t0 dT R O : Addr} {es : List DictEntry} {nT : Nat} {oR : Obj} {vs : List Value} {nO : Nat} {c l k : Int} {kvs : List (Int × Value)} {ns : List Int}
theorem make_table (B : Below A₀ base outer h₀) (F : Fr h₀ L s.heap m) (X : (heapK w.params).In h₀) (N : News h₀ L s.heap news) (T : Top topProg loose mean mg mb h₀) (hk : cs.kind = .function) (hd : dp + 12 < recursionLimit) (hu : un + 60 < cLine)
    (hq : ∀ (dT t0 R O : Addr) (a1 a2 a3 a4 a5 b3 b4 b5 : Tok) (e1 e2 e3 e4 e5 : Int) (nT nO : Nat) (oR : Obj) h' tk', Fr h₀ L h' m → News h₀ L h' ((O, listOf #[] nO) :: (R, oR) :: (t0, instObj 490 dT) :: (dT, dictOf [⟨e1, .str (Str.ofString "rows") a1, .ref R⟩, ⟨e2, .str (Str.ofString "order") a2, .ref O⟩, ⟨e3, .str (Str.ofString "current") a3, .int 0 b3⟩, ⟨e4, .str (Str.ofString "last_number") a4, .int 0 b4⟩, ⟨e5, .str (Str.ofString "last_marker") a5, .int 0 b5⟩] nT) :: news) → (∀ p ∈ news, @LT.lt Nat _ p.1 dT) → @LT.lt Nat _ dT t0 → @LT.lt Nat _ t0 R → @LT.lt Nat _ R O → oR.IsDictOf (IK w) [] → (R == sysModules) = false → Q (.ref t0) { s with heap := h', toks := tk' }) :
    wpAny (model PySem.Challenge.pw_np0064_01 w) (ktrTop dp un gd cn cs L a ccd cl outer) (call (.ref 490) []) Q E s := by
  k_steps
  rename News h₀ L _ _ => kN
  rename Fr h₀ L _ _ => kF
  exact hq _ _ _ _ _ _ _ _ _ _ _ _ _ _ _ _ _ _ _ _ _ _ kF kN (by assumption) (by assumption) (by assumption) (by assumption) (by assumption) (by assumption)
end
section
local macro_rules | `(tactic| walk_at "exec While") => stopR
local macro_rules | `(tactic| walk_at "formatField str") => hereY [patY "formatField ( Value.str _ _ ) _", refN `SB.field_str [argY `hsz (lftY (idY `c)), lftY], caseY `c (side 'w'), introsY]
local macro_rules | `(tactic| walk_at "TurnEnd") => dsT `TurnEnd
section
variable {w : World} {loose : List Str} {mean : ExcName → Option Value} {mg mb : Str → Option Value} {dp un : Nat} {gd : Option (List Code)} {cn : Str} {cs : Scope} {a : Addr} {ccd : Value} {cl : List (Str × Addr)} {outer : List Env} {A₀ : Around} {base h₀ : Heap} {L : Addr} {m : Str → Option Value} {news : List (Addr × Obj)} {s : Shared} {Q E : Value → Shared → Prop}
  {t0 dT R O : Addr} {es : List DictEntry} {nT : Nat} {oR : Obj} {vs : List Value} {nO : Nat} {c l k : Int} {kvs : List (Int × Value)} {ns : List Int}
theorem fresh_spec (B : Below A₀ base outer h₀) (F : Fr h₀ L s.heap m) (X : (heapK w.params).In h₀) (N : News h₀ L s.heap news) (T : Top topProg loose mean mg mb h₀) (hk : cs.kind = .function) (hdp : dp + 12 < recursionLimit) (hu : un + 60 < cLine) (S : Tbl w news t0 dT R O es nT oR vs nO c l k kvs ns) (bf : Int → Addr) (nm : Int → Str) (hB : Bufs news kvs ns bf nm) {q g : Str} {tq : Tok} {tg : Tok} (hql : q.length ≤ 1000)
    (hex : ∃ i : Nat, i ≤ 99 ∧ okB ns nm g (candS q (2 + i)) = true)
    (hq : ∀ r t h' tk', FreshIs ns nm q g r → Fr h₀ L h' m → News h₀ L h' news → Q (.str r t) { s with heap := h', toks := tk' }) :
    wpAny (model PySem.Challenge.pw_np0064_01 w) (ktrTop dp un gd cn cs L a ccd cl outer) (call (.ref 431) [.ref t0, .str q tq, .str g tg]) Q E s := by
  have S' := S
  obtain ⟨hT, hdT, D, hR, lo, hRd, hO, hI, _⟩ := S
  have gm : getL "by_name" es = some none := D.other _ (by decide)
  refine wpAny_call ?_
  k_dflt k_enter
  k_steps
  · refine hq _ _ _ _ (.inl ⟨?_, rfl⟩) (by assumption) (by assumption)
    unfold okB
    rw [‹(q == _) = true›, Bool.true_or]
  · refine stopE (by_name_spec (by assumption) (by assumption) (by assumption) (by assumption) (by assumption) rfl (dlt (j := 6) hdp (by decide)) (dlt (j := 23) hu (by decide)) S' bf nm hB ?_)
    rintro r h1 tk1 rfl F1 N1
    cases hno : ns.find? (fun n => nm n == q) with
    | none =>
      dsimp only [findV]
      k_steps
      refine hq _ _ _ _ (.inl ⟨?_, rfl⟩) (by assumption) (by assumption)
      unfold okB
      rw [hno, Option.isNone_none, Bool.or_true]
    | some nq =>
      have hf0 : okB ns nm g q = false := by
        unfold okB
        rw [hno, ‹(q == _) = false›]; rfl
      dsimp only [findV]
      k_steps
      rename Fr _ _ _ _ => F7
      rename News _ _ _ _ => N7
      refine stopE (while_cnt (Str.ofString "found") (fun i => ∀ j : Nat, j < i → okB ns nm g (candS q (2 + j)) = false) 100 (by passes_own) F7 N7 (fun j h => absurd h (Nat.not_lt_zero j)) ?_ ?_)
      · intro i hP
        obtain ⟨k0, hk0, hk1⟩ := hex
        rcases Nat.lt_or_ge k0 i with z | z
        · rw [hP k0 z] at hk1; cases hk1
        · omega
      intro Rst i t u h2 tk2 hP F2 N2 rest
      have hi : i ≤ 99 := by
        obtain ⟨k0, hk0, hk1⟩ := hex
        rcases Nat.lt_or_ge k0 i with z | z
        · rw [hP k0 z] at hk1; cases hk1
        · omega
      have hi' : (i : Int) ≤ 100 := by omega
      clear F7 N7
      k_steps
      · refine hq _ _ _ _ (.inr ⟨hf0, i, rfl, ?_, hP⟩) (by assumption) (by assumption)
        unfold okB candS
        rw [‹(_ == _) = true›, Bool.true_or]
      · refine stopE (by_name_spec (by assumption) (by assumption) (by assumption) (by assumption) (by assumption) rfl (dlt (j := 6) hdp (by decide)) (dlt (j := 23) hu (by decide)) S' bf nm hB ?_)
        rintro r h3 tk3 rfl F3 N3
        cases hno2 : ns.find? (fun n => nm n == Str.empty ++ q ++ Str.ofString "<" ++ Str.ofString (toString (2 + (i : Int))) ++ Str.ofString ">") with
        | none =>
          dsimp only [findV]
          k_steps
          refine hq _ _ _ _ (.inr ⟨hf0, i, rfl, ?_, hP⟩) (by assumption) (by assumption)
          unfold okB candS
          rw [hno2, Option.isNone_none, Bool.or_true]
        | some nq2 =>
          dsimp only [findV]
          k_steps
          refine rest _ _ _ _ (upto hP ?_) (by assumption) rfl (fun z h1 h2 => by simp [h1, h2]) (by assumption)
          unfold okB candS
          rw [‹(_ == _) = false›, hno2]; rfl
theorem fresh_spec0 (B : Below A₀ base outer h₀) (F : Fr h₀ L s.heap m) (X : (heapK w.params).In h₀) (N : News h₀ L s.heap news) (T : Top topProg loose mean mg mb h₀) (hk : cs.kind = .function) (hdp : dp + 12 < recursionLimit) (hu : un + 60 < cLine) (S : Tbl w news t0 dT R O es nT oR vs nO c l k kvs ns) (bf : Int → Addr) (nm : Int → Str) (hB : Bufs news kvs ns bf nm) {q : Str} {tq : Tok} (hql : q.length ≤ 1000)
    (hex : ∃ i : Nat, i ≤ 99 ∧ okB ns nm (Str.ofString "") (candS q (2 + i)) = true)
    (hq : ∀ r t h' tk', FreshIs ns nm q (Str.ofString "") r → Fr h₀ L h' m → News h₀ L h' news → Q (.str r t) { s with heap := h', toks := tk' }) :
    wpAny (model PySem.Challenge.pw_np0064_01 w) (ktrTop dp un gd cn cs L a ccd cl outer) (call (.ref 431) [.ref t0, .str q tq]) Q E s := by
  have S' := S
  obtain ⟨hT, hdT, D, hR, lo, hRd, hO, hI, _⟩ := S
  have gm : getL "by_name" es = some none := D.other _ (by decide)
  refine wpAny_call ?_
  k_dflt k_enter
  k_steps
  · refine hq _ _ _ _ (.inl ⟨?_, rfl⟩) (by assumption) (by assumption)
    unfold okB
    rw [‹(q == _) = true›, Bool.true_or]
  · refine stopE (by_name_spec (by assumption) (by assumption) (by assumption) (by assumption) (by assumption) rfl (dlt (j := 6) hdp (by decide)) (dlt (j := 23) hu (by decide)) S' bf nm hB ?_)
    rintro r h1 tk1 rfl F1 N1
    cases hno : ns.find? (fun n => nm n == q) with
    | none =>
      dsimp only [findV]
      k_steps
      refine hq _ _ _ _ (.inl ⟨?_, rfl⟩) (by assumption) (by assumption)
      unfold okB
      rw [hno, Option.isNone_none, Bool.or_true]
    | some nq =>
      have hf0 : okB ns nm (Str.ofString "") q = false := by
        unfold okB
        rw [hno, ‹(q == _) = false›]; rfl
      dsimp only [findV]
      k_steps
      rename Fr _ _ _ _ => F7
      rename News _ _ _ _ => N7
      refine stopE (while_cnt (Str.ofString "found") (fun i => ∀ j : Nat, j < i → okB ns nm (Str.ofString "") (candS q (2 + j)) = false) 100 (by passes_own) F7 N7 (fun j h => absurd h (Nat.not_lt_zero j)) ?_ ?_)
      · intro i hP
        obtain ⟨k0, hk0, hk1⟩ := hex
        rcases Nat.lt_or_ge k0 i with z | z
        · rw [hP k0 z] at hk1; cases hk1
        · omega
      intro Rst i t u h2 tk2 hP F2 N2 rest
      have hi : i ≤ 99 := by
        obtain ⟨k0, hk0, hk1⟩ := hex
        rcases Nat.lt_or_ge k0 i with z | z
        · rw [hP k0 z] at hk1; cases hk1
        · omega
      have hi' : (i : Int) ≤ 100 := by omega
      clear F7 N7
      k_steps
      · refine hq _ _ _ _ (.inr ⟨hf0, i, rfl, ?_, hP⟩) (by assumption) (by assumption)
        unfold okB candS
        rw [‹(_ == _) = true›, Bool.true_or]
      · refine stopE (by_name_spec (by assumption) (by assumption) (by assumption) (by assumption) (by assumption) rfl (dlt (j := 6) hdp (by decide)) (dlt (j := 23) hu (by decide)) S' bf nm hB ?_)
        rintro r h3 tk3 rfl F3 N3
        cases hno2 : ns.find? (fun n => nm n == Str.empty ++ q ++ Str.ofString "<" ++ Str.ofString (toString (2 + (i : Int))) ++ Str.ofString ">") with
        | none =>
          dsimp only [findV]
          k_steps
          refine hq _ _ _ _ (.inr ⟨hf0, i, rfl, ?_, hP⟩) (by assumption) (by assumption)
          unfold okB candS
          rw [hno2, Option.isNone_none, Bool.or_true]
        | some nq2 =>
          dsimp only [findV]
          k_steps
          refine rest _ _ _ _ (upto hP ?_) (by assumption) rfl (fun z h1 h2 => by simp [h1, h2]) (by assumption)
          unfold okB candS
          rw [‹(_ == _) = false›, hno2]; rfl
end
end
section
local macro_rules | `(tactic| walk_at "exec Raise some none") => lnP "exec ( Stmt.Raise ( some ( Expr.Call ( Expr.Name ( Str.ofString #LispSignal ) _ ) _ _ _ ) ) none _ ) _" (fill `Raise_sig "Cq")
local macro_rules | `(tactic| walk_at "compareOp IsNot ref ref") => ln `isnot_news "ammas"
section
variable {w : World} {loose : List Str} {mean : ExcName → Option Value} {mg mb : Str → Option Value} {dp un : Nat} {gd : Option (List Code)} {cn : Str} {cs : Scope} {a : Addr} {ccd : Value} {cl : List (Str × Addr)} {outer : List Env} {A₀ : Around} {base h₀ : Heap} {L : Addr} {m : Str → Option Value} {news : List (Addr × Obj)} {s : Shared} {Q E : Value → Shared → Prop}
  {t0 dT R O : Addr} {es : List DictEntry} {nT : Nat} {oR : Obj} {vs : List Value} {nO : Nat} {c l k : Int} {kvs : List (Int × Value)} {ns : List Int}
theorem rename_ok (B : Below A₀ base outer h₀) (F : Fr h₀ L s.heap m) (X : (heapK w.params).In h₀) (N : News h₀ L s.heap news) (T : Top topProg loose mean mg mb h₀) (hk : cs.kind = .function) (hdp : dp + 20 < recursionLimit) (hu : un + 100 < cLine) (S : Tbl w news t0 dT R O es nT oR vs nO c l k kvs ns) (bf : Int → Addr) (nm : Int → Str) (hB : Bufs news kvs ns bf nm)
    {b db : Addr} {eb : List DictEntry} {nb : Nat} {num : Int} {nmb : Str} {tx ms : Addr} (hb : (b, instObj 359 db) ∈ news) (hdb : (db, dictOf eb nb) ∈ news) (D : BufD eb num nmb tx ms true) (hdt : db ≠ dT) {q : Str} {tq : Tok} {fr : Bool} (hql : q.length ≤ 1000) (hex : ∃ i : Nat, i ≤ 99 ∧ okB ns nm nmb (candS q (2 + i)) = true)
    (hne : (q == Str.ofString "") = false) (hno : fr = true ∨ (ns.find? fun n => nm n == q) = none ∨ ∃ n, (ns.find? fun n => nm n == q) = some n ∧ bf n = b)
    (hq : ∀ r t h' tk' eb' nb' t2, FreshIs ns nm q nmb r → getL "name" eb' = some (some (.str r t2)) → (∀ y, y ≠ Str.ofString "name" → getL y eb' = getL y eb) → eb'.length = eb.length → Fr h₀ L h' m → News h₀ L h' (put news db (dictOf eb' nb')) → Q (.str r t) { s with heap := h', toks := tk' }) :
    wpAny (model PySem.Challenge.pw_np0064_01 w) (ktrTop dp un gd cn cs L a ccd cl outer) (call (.ref 438) [.ref t0, .ref b, .str q tq, .bool fr]) Q E s := by
  have S' := S
  obtain ⟨hT, hdT, DT, hR, lo, hRd, hO, hI, _⟩ := S
  have gm : getL "by_name" es = some none := DT.other _ (by decide)
  have gm2 : getL "fresh_name" es = some none := DT.other _ (by decide)
  obtain ⟨tn, g3⟩ := D.name
  have nbd : b ≠ db := ne_obj N hb hdb (by simp)
  have hes := D.len
  refine wpAny_call ?_
  k_dflt k_enter
  k_steps
  refine stopE (by_name_spec (by assumption) (by assumption) (by assumption) (by assumption) (by assumption) rfl (dlt (j := 6) hdp (by decide)) (dlt (j := 23) hu (by decide)) S' bf nm hB ?_)
  rintro r h1 tk1 rfl F1 N1
  have fin : fr = true ∨ (ns.find? fun n => nm n == q) = none ∨ ∃ n, (ns.find? fun n => nm n == q) = some n ∧ bf n = b := hno
  rcases fin with rfl | hn | ⟨n, hn, hbn⟩
  · cases hno : ns.find? (fun n => nm n == q) with
    | none =>
      dsimp only [findV]
      k_steps
      refine stopE (fresh_spec (by assumption) (by assumption) (by assumption) (by assumption) (by assumption) rfl (dlt (j := 13) hdp (by decide)) (dlt (j := 63) hu (by decide)) S' bf nm hB hql hex ?_)
      intro r t h5 tk5 hfr F5 N5
      k_steps
      exact hq _ _ _ _ _ _ _ hfr (by assumption) (by assumption) (by assumption) (by assumption) (by assumption)
    | some nq =>
      dsimp only [findV]
      obtain ⟨_, dq, eq, nq2, hb1, hb2, _⟩ := hB nq (List.mem_of_find?_eq_some hno)
      by_cases hbb : bf nq = b
      · rw [hbb]
        k_steps
        refine stopE (fresh_spec (by assumption) (by assumption) (by assumption) (by assumption) (by assumption) rfl (dlt (j := 13) hdp (by decide)) (dlt (j := 63) hu (by decide)) S' bf nm hB hql hex ?_)
        intro r t h5 tk5 hfr F5 N5
        k_steps
        exact hq _ _ _ _ _ _ _ hfr (by assumption) (by assumption) (by assumption) (by assumption) (by assumption)
      · k_steps
        refine stopE (fresh_spec (by assumption) (by assumption) (by assumption) (by assumption) (by assumption) rfl (dlt (j := 13) hdp (by decide)) (dlt (j := 63) hu (by decide)) S' bf nm hB hql hex ?_)
        intro r t h5 tk5 hfr F5 N5
        k_steps
        exact hq _ _ _ _ _ _ _ hfr (by assumption) (by assumption) (by assumption) (by assumption) (by assumption)
  · rw [hn]
    dsimp only [findV]
    k_steps
    refine stopE (fresh_spec (by assumption) (by assumption) (by assumption) (by assumption) (by assumption) rfl (dlt (j := 13) hdp (by decide)) (dlt (j := 63) hu (by decide)) S' bf nm hB hql hex ?_)
    intro r t h5 tk5 hfr F5 N5
    k_steps
    exact hq _ _ _ _ _ _ _ hfr (by assumption) (by assumption) (by assumption) (by assumption) (by assumption)
  · rw [hn]
    dsimp only [findV]
    rw [hbn]
    k_steps
    refine stopE (fresh_spec (by assumption) (by assumption) (by assumption) (by assumption) (by assumption) rfl (dlt (j := 13) hdp (by decide)) (dlt (j := 63) hu (by decide)) S' bf nm hB hql hex ?_)
    intro r t h5 tk5 hfr F5 N5
    k_steps
    exact hq _ _ _ _ _ _ _ hfr (by assumption) (by assumption) (by assumption) (by assumption) (by assumption)
end
section
variable {w : World} {loose : List Str} {mean : ExcName → Option Value} {mg mb : Str → Option Value} {dp un : Nat} {gd : Option (List Code)} {cn : Str} {cs : Scope} {a : Addr} {ccd : Value} {cl : List (Str × Addr)} {outer : List Env} {A₀ : Around} {base h₀ : Heap} {L : Addr} {m : Str → Option Value} {news : List (Addr × Obj)} {s : Shared} {Q E : Value → Shared → Prop}
  {t0 dT R O : Addr} {es : List DictEntry} {nT : Nat} {oR : Obj} {vs : List Value} {nO : Nat} {c l k : Int} {kvs : List (Int × Value)} {ns : List Int}
theorem rename_empty (B : Below A₀ base outer h₀) (F : Fr h₀ L s.heap m) (X : (heapK w.params).In h₀) (N : News h₀ L s.heap news) (T : Top topProg loose mean mg mb h₀) (hk : cs.kind = .function) (hdp : dp + 20 < recursionLimit) (hu : un + 100 < cLine) (S : Tbl w news t0 dT R O es nT oR vs nO c l k kvs ns) (bf : Int → Addr) (nm : Int → Str) (hB : Bufs news kvs ns bf nm) {b : Addr} {tq : Tok} {fr : Bool}
    (hE : ∀ e de h' tk' g₂ es n tn, Fr h₀ L g₂ m → FlyX base g₂ (envX cn cs L a ccd cl :: outer) e de ((de, dictOf es n) :: news) h' → getL "symbol" es = some (some (.str (Str.ofString "error") tn)) → E (.ref e) { s with heap := h', toks := tk' }) :
    wpAny (model PySem.Challenge.pw_np0064_01 w) (ktrTop dp un gd cn cs L a ccd cl outer) (call (.ref 438) [.ref t0, .ref b, .str (Str.ofString "") tq, .bool fr]) Q E s := by
  have S' := S
  obtain ⟨hT, hdT, DT, hR, lo, hRd, hO, hI, _⟩ := S
  have gm : getL "by_name" es = some none := DT.other _ (by decide)
  refine wpAny_call ?_
  k_dflt k_enter
  k_steps
  refine stopE (by_name_spec (by assumption) (by assumption) (by assumption) (by assumption) (by assumption) rfl (dlt (j := 6) hdp (by decide)) (dlt (j := 23) hu (by decide)) S' bf nm hB ?_)
  rintro r h1 tk1 rfl F1 N1
  cases hno : ns.find? (fun n => nm n == Str.ofString "") with
  | none =>
    dsimp only [findV]
    k_steps
    refine stopE (sig_spec (by assumption) (by assumption) (by assumption) (by assumption) (by assumption) rfl (dlt (j := 6) hdp (by decide)) (dlt (j := 23) hu (by decide)) ?_)
    intro e de t h' tk' es n F1 N1 l1 l2 l3 hs
    refine ⟨e, t, de, rfl, in_keeps (by assumption) F1, (N1 _ (.tail _ (.head _))).1, ?_⟩
    refine raise_end (by assumption) F1 N1 rfl rfl l1 l2 l3 ?_
    intro h2 R
    exact hE _ _ _ _ _ _ _ _ (by assumption) R hs
  | some nq =>
    dsimp only [findV]
    k_steps
    refine stopE (sig_spec (by assumption) (by assumption) (by assumption) (by assumption) (by assumption) rfl (dlt (j := 6) hdp (by decide)) (dlt (j := 23) hu (by decide)) ?_)
    intro e de t h' tk' es n F1 N1 l1 l2 l3 hs
    refine ⟨e, t, de, rfl, in_keeps (by assumption) F1, (N1 _ (.tail _ (.head _))).1, ?_⟩
    refine raise_end (by assumption) F1 N1 rfl rfl l1 l2 l3 ?_
    intro h2 R
    exact hE _ _ _ _ _ _ _ _ (by assumption) R hs
theorem rename_used (B : Below A₀ base outer h₀) (F : Fr h₀ L s.heap m) (X : (heapK w.params).In h₀) (N : News h₀ L s.heap news) (T : Top topProg loose mean mg mb h₀) (hk : cs.kind = .function) (hdp : dp + 20 < recursionLimit) (hu : un + 100 < cLine) (S : Tbl w news t0 dT R O es nT oR vs nO c l k kvs ns) (bf : Int → Addr) (nm : Int → Str) (hB : Bufs news kvs ns bf nm) {b db : Addr} (hb : (b, instObj 359 db) ∈ news) {q : Str} {tq : Tok} (hne : (q == Str.ofString "") = false) {nq : Int} (hno : (ns.find? fun n => nm n == q) = some nq) (hbb : bf nq ≠ b)
    (hE : ∀ e de h' tk' g₂ es n tn, Fr h₀ L g₂ m → FlyX base g₂ (envX cn cs L a ccd cl :: outer) e de ((de, dictOf es n) :: news) h' → getL "symbol" es = some (some (.str (Str.ofString "error") tn)) → E (.ref e) { s with heap := h', toks := tk' }) :
    wpAny (model PySem.Challenge.pw_np0064_01 w) (ktrTop dp un gd cn cs L a ccd cl outer) (call (.ref 438) [.ref t0, .ref b, .str q tq, .bool false]) Q E s := by
  have S' := S
  obtain ⟨hT, hdT, DT, hR, lo, hRd, hO, hI, _⟩ := S
  have gm : getL "by_name" es = some none := DT.other _ (by decide)
  obtain ⟨_, dq, eq, nq2, hb1, hb2, _⟩ := hB nq (List.mem_of_find?_eq_some hno)
  refine wpAny_call ?_
  k_dflt k_enter
  k_steps
  refine stopE (by_name_spec (by assumption) (by assumption) (by assumption) (by assumption) (by assumption) rfl (dlt (j := 6) hdp (by decide)) (dlt (j := 23) hu (by decide)) S' bf nm hB ?_)
  rintro r h1 tk1 rfl F1 N1
  rw [hno]
  dsimp only [findV]
  k_steps
  refine stopE (sig_spec (by assumption) (by assumption) (by assumption) (by assumption) (by assumption) rfl (dlt (j := 6) hdp (by decide)) (dlt (j := 23) hu (by decide)) ?_)
  intro e de t h' tk' es n F1 N1 l1 l2 l3 hs
  refine ⟨e, t, de, rfl, in_keeps (by assumption) F1, (N1 _ (.tail _ (.head _))).1, ?_⟩
  refine raise_end (by assumption) F1 N1 rfl rfl l1 l2 l3 ?_
  intro h2 R
  exact hE _ _ _ _ _ _ _ _ (by assumption) R hs
theorem current_dead (B : Below A₀ base outer h₀) (F : Fr h₀ L s.heap m) (X : (heapK w.params).In h₀) (N : News h₀ L s.heap news) (T : Top topProg loose mean mg mb h₀) (hk : cs.kind = .function) (hdp : dp + 20 < recursionLimit) (hu : un + 100 < cLine) {b db : Addr} {eb : List DictEntry} {nb : Nat} (hb : (b, instObj 359 db) ∈ news) (hdb : (db, dictOf eb nb) ∈ news) (hl : getL "is_live" eb = some (some (.bool false)))
    (hE : ∀ e de h' tk' g₂ es n tn, Fr h₀ L g₂ m → FlyX base g₂ (envX cn cs L a ccd cl :: outer) e de ((de, dictOf es n) :: news) h' → getL "symbol" es = some (some (.str (Str.ofString "error") tn)) → E (.ref e) { s with heap := h', toks := tk' }) :
    wpAny (model PySem.Challenge.pw_np0064_01 w) (ktrTop dp un gd cn cs L a ccd cl outer) (call (.ref 452) [.ref t0, .ref b]) Q E s := by
  refine wpAny_call ?_
  k_dflt k_enter
  k_steps
  refine stopE (sig_spec (by assumption) (by assumption) (by assumption) (by assumption) (by assumption) rfl (dlt (j := 6) hdp (by decide)) (dlt (j := 23) hu (by decide)) ?_)
  intro e de t h' tk' es n F1 N1 l1 l2 l3 hs
  refine ⟨e, t, de, rfl, in_keeps (by assumption) F1, (N1 _ (.tail _ (.head _))).1, ?_⟩
  refine raise_end (by assumption) F1 N1 rfl rfl l1 l2 l3 ?_
  intro h2 R
  exact hE _ _ _ _ _ _ _ _ (by assumption) R hs
end
end
end
section
local macro_rules | `(tactic| walk_at "call ref") => stops [359]
local macro_rules | `(tactic| walk_at "setItem ref") => lnI `dict_setA "@AamaKz"
local macro_rules | `(tactic| walk_at "none") => stopR
section
variable {w : World} {loose : List Str} {mean : ExcName → Option Value} {mg mb : Str → Option Value} {dp un : Nat} {gd : Option (List Code)} {cn : Str} {cs : Scope} {a : Addr} {ccd : Value} {cl : List (Str × Addr)} {outer : List Env} {A₀ : Around} {base h₀ : Heap} {L : Addr} {m : Str → Option Value} {news : List (Addr × Obj)} {s : Shared} {Q E : Value → Shared → Prop}
  {t0 dT R O : Addr} {es : List DictEntry} {nT : Nat} {oR : Obj} {vs : List Value} {nO : Nat} {c l k : Int} {kvs : List (Int × Value)} {ns : List Int}
theorem create_ok (B : Below A₀ base outer h₀) (F : Fr h₀ L s.heap m) (X : (heapK w.params).In h₀) (N : News h₀ L s.heap news) (T : Top topProg loose mean mg mb h₀) (hk : cs.kind = .function) (hd : dp + 16 < recursionLimit) (hu : un + 80 < cLine) (S : Tbl w news t0 dT R O es nT oR vs nO c l k kvs ns) (bf : Int → Addr) (nm : Int → Str) (hB : Bufs news kvs ns bf nm) (hz : ns.length ≤ 20) (hzk : kvs.length ≤ 20) {q : Str} {tq : Tok} (hne : (q == Str.ofString "") = false) (hno : (ns.find? fun n => nm n == q) = none)
    (hq : ∀ (A : BA) h' tk' news2 es1 n1 oR' nO' tn, TabD es1 R O c (l + 1) k → oR'.IsDictOf (IK w) (stored kvs (l + 1) (.ref A.b)) → Fr h₀ L h' m → News h₀ L h' (put (put news2 R oR') O (listOf (vs ++ [Value.int (l + 1) tn]).toArray nO')) →
      (∀ p ∈ put news dT (dictOf es1 n1), p ∈ news2) → (∀ p ∈ put news dT (dictOf es1 n1), @LT.lt Nat _ p.1 A.db) → BufO w news2 A (l + 1) q true [] → Q (.ref A.b) { s with heap := h', toks := tk' }) :
    wpAny (model PySem.Challenge.pw_np0064_01 w) (ktrTop dp un gd cn cs L a ccd cl outer) (call (.ref 423) [.ref t0, .str q tq]) Q E s := by
  obtain ⟨n1, n2, n3, n4, n5⟩ := S.apart N
  have n6 : R ≠ dT := S.ap
  have S' := S
  obtain ⟨hT, hdT, D, hR, lo, hRd, hO, hI, _⟩ := S
  have g1 := D.rows
  have g2 := D.order
  obtain ⟨tl, g3⟩ := D.last
  have hes := D.len
  have hvl := hI.length
  have gm : getL "by_name" es = some none := D.other _ (by decide)
  refine wpAny_call ?_
  k_dflt ktr_enter
  k_steps
  refine stopE (by_name_spec (by assumption) (by assumption) (by assumption) (by assumption) (by assumption) rfl (dlt (j := 6) hd (by decide)) (dlt (j := 23) hu (by decide)) S' bf nm hB ?_)
  rintro r h1 tk1 rfl F1 N1
  rw [hno]
  dsimp only [findV]
  k_steps
  have hlt5 := hI.length
  rename_i es1 _ gs1 go1 gl1 _ _
  have D1 := D.last_of gs1 go1 gl1
  have q1 := D1.rows
  have q2 := D1.order
  have q3 := D1.len
  refine stopE (make_buffer (by assumption) (by assumption) (by assumption) (by assumption) (by assumption) rfl (dlt (j := 13) hd (by decide)) (dlt (j := 63) hu (by decide)) ?_)
  intro A h2 tk2 news2 F2 N2 hs2 hlt hBO
  have lR : @LT.lt Nat _ R A.db := hlt (R, oR) (mem_put_ne hR n6)
  have lO : @LT.lt Nat _ O A.db := hlt _ (mem_put_ne hO (Ne.symm n4))
  have lb := hBO.ord.1
  have m1 : A.b ≠ R := Nat.ne_of_gt (Nat.lt_trans lR lb)
  have m2 : A.db ≠ R := Nat.ne_of_gt lR
  have hBO' := hBO
  obtain ⟨p1, p2, p3, p4⟩ : (t0, instObj 490 dT) ∈ news2 ∧ (dT, dictOf es1 _) ∈ news2 ∧ (R, oR) ∈ news2 ∧ (O, listOf vs.toArray nO) ∈ news2 := ⟨hs2 _ (mem_put_ne hT n1), hs2 _ (mem_put_self _ _ _), hs2 _ (mem_put_ne hR n6), hs2 _ (mem_put_ne hO (Ne.symm n4))⟩
  obtain ⟨b1, ⟨eb, nb, b2, bD⟩, _⟩ := hBO
  obtain ⟨tb, b3⟩ := bD.number
  clear hT hdT hR hO N N1

  k_steps
  exact hq A _ _ _ _ _ _ _ _ D1 (by assumption) (by assumption) (by assumption) hs2 hlt hBO'
end
end
def ifBody : Stmt → List Stmt | .If _ b _ _ => b | _ => []
def ifElse : Stmt → List Stmt | .If _ _ b _ => b | _ => []
def ifTest : Stmt → PySem.Expr | .If t _ _ _ => t | _ => .Name (Str.ofString "x") default
def createS (i : Nat) : Stmt := (ifBody (lapS 3)).getD i (.Pass default)
def el2 : Stmt := (ifElse (lapS 3)).getD 0 (.Pass default)
def renameS (i : Nat) : Stmt := (ifBody el2).getD i (.Pass default)
def el3 : Stmt := (ifElse el2).getD 0 (.Pass default)
def selectS (i : Nat) : Stmt := (ifBody el3).getD i (.Pass default)
def el4 : Stmt := (ifElse el3).getD 0 (.Pass default)
def buryS (i : Nat) : Stmt := (ifBody el4).getD i (.Pass default)
def killS (i : Nat) : Stmt := (ifElse el4).getD i (.Pass default)
theorem split_ok : ∀ r ∈ allN, ((Txt.split r (Str.ofString "<")).head?.any (fun p => bases.contains p) && decide ((Txt.split r (Str.ofString "<")).length ≤ 5)) = true := by decide +kernel
theorem split_head {r : Str} (h : r ∈ allN) : ∃ p rest, Txt.split r (Str.ofString "<") = p :: rest ∧ p ∈ bases ∧ rest.length ≤ 5 := by
  have h1 := split_ok r h
  rw [Bool.and_eq_true, decide_eq_true_eq] at h1
  obtain ⟨h1, h2⟩ := h1
  cases q : Txt.split r (Str.ofString "<") with
  | nil => rw [q] at h1; cases h1
  | cons p rest =>
    rw [q] at h1 h2
    refine ⟨p, rest, rfl, ?_, by simp at h2; omega⟩
    simpa using h1
theorem bases_somes {q : Str} (h : q ∈ bases) : q ∈ somes := by
  simp only [bases, somes, List.mem_cons, List.not_mem_nil, or_false] at h ⊢
  rcases h with h | h | h | h <;> simp [h]
theorem bases_allN {q : Str} (h : q ∈ bases) : q ∈ allN := good_cand h (.head _)
theorem bases_ne {q : Str} (h : q ∈ bases) : (q == Str.ofString "") = false := allN_ne q (bases_allN h)
theorem split_at {prog : Program} {w : World} {A : Around} {E : Value → Shared → Prop} {s : Shared} {h₀ : Heap} {L : Addr} {m : Str → Option Value} {news : List (Addr × Obj)} {x : Str} {t u : Tok} {Q : Value → Shared → Prop} (hF : Fr h₀ L s.heap m) (hN : News h₀ L s.heap news) (hx : x ∈ allN)
    (h : ∀ D vs p rest h' k, StrsAre vs (p :: rest) → rest.length ≤ 5 → p ∈ bases → p = (Txt.split x (Str.ofString "<")).headD Str.empty → Fr h₀ L h' m → News h₀ L h' ((D, listOf vs.toArray 0) :: news) → (∀ p ∈ news, p.1 < D) → Q (.ref D) { s with heap := h', toks := k }) :
    wpAny (model prog w) A (call (.builtin "str.split") [.str x t, .str (Str.ofString "<") u]) Q E s := by
  obtain ⟨p, rest, e, hp, hr⟩ := split_head hx
  refine KSpl.split1 hF hN (by decide) (fun D l h' k e1 hs F N hl => ?_) (by have := allN_len x hx; rw [sizeLine_eq]; omega)
  rw [e1, e] at hs
  exact h D _ p rest h' k hs hr hp (by rw [e]; rfl) F N hl
structure Good (ns : List Int) (nm : Int → Str) : Prop where
  mem : ∀ n ∈ ns, nm n ∈ allN
  inj : ∀ n ∈ ns, ∀ n' ∈ ns, nm n = nm n' → n = n'
theorem used_find {ns : List Int} {nm : Int → Str} {q : Str} (h : q ∈ ns.map nm) : ∃ nq, (ns.find? fun n => nm n == q) = some nq := by
  cases f : ns.find? (fun n => nm n == q) with
  | some x => exact ⟨x, rfl⟩
  | none =>
    obtain ⟨n, hn, e⟩ := List.mem_map.mp h
    have := List.find?_eq_none.mp f n hn
    exact absurd (by simp [e]) this
theorem unused_find {ns : List Int} {nm : Int → Str} {q : Str} (h : q ∉ ns.map nm) : (ns.find? fun n => nm n == q) = none := by
  rw [List.find?_eq_none]
  intro n hn e
  exact h (List.mem_map.mpr ⟨n, hn, eq_of_beq e⟩)
theorem Good.add {ns : List Int} {nm : Int → Str} {k : Int} {q : Str} (G : Good ns nm) (hk : k ∉ ns) (hq : q ∈ allN) (hu : q ∉ ns.map nm) : Good (ns ++ [k]) (fun n => if n = k then q else nm n) := by
  have key : ∀ n ∈ ns, n ≠ k := fun n hn e => hk (e ▸ hn)
  refine ⟨fun n hn => ?_, fun n hn n' hn' e => ?_⟩
  · rcases List.mem_append.mp hn with h | h
    · simp only [if_neg (key n h)]; exact G.mem n h
    · rw [List.mem_singleton.mp h]; simpa using hq
  · rcases List.mem_append.mp hn with h | h <;> rcases List.mem_append.mp hn' with h' | h'
    · simp only [if_neg (key n h), if_neg (key n' h')] at e
      exact G.inj n h n' h' e
    · rw [List.mem_singleton.mp h'] at e
      simp only [if_neg (key n h), if_true] at e
      exact absurd (List.mem_map.mpr ⟨n, h, e⟩) hu
    · rw [List.mem_singleton.mp h] at e
      simp only [if_neg (key n' h'), if_true] at e
      exact absurd (List.mem_map.mpr ⟨n', h', e.symm⟩) hu
    · rw [List.mem_singleton.mp h, List.mem_singleton.mp h']
theorem Good.ren {ns : List Int} {nm : Int → Str} {k : Int} {q : Str} (G : Good ns nm) (hq : q ∈ allN) (hu : ∀ n ∈ ns, n ≠ k → nm n ≠ q) : Good ns (fun n => if n = k then q else nm n) := by
  refine ⟨fun n hn => ?_, fun n hn n' hn' e => ?_⟩
  · skip
    split
    · exact hq
    · exact G.mem n hn
  · skip
    split at e <;> split at e
    · rename_i a b; rw [a, b]
    · rename_i a b; exact absurd e.symm (hu n' hn' b)
    · rename_i a b; exact absurd e (hu n hn a)
    · exact G.inj n hn n' hn' e
theorem Good.sub {ns ns' : List Int} {nm : Int → Str} (G : Good ns nm) (h : ∀ n ∈ ns', n ∈ ns) : Good ns' nm := ⟨fun n hn => G.mem n (h n hn), fun n hn n' hn' => G.inj n (h n hn) n' (h n' hn')⟩
theorem law_code {w : World} {K : List (Addr × Obj)} {L DK t0 dT R O tt ML SM OL : Addr} {lb lm : Int} {ns nso : List Int} {nm nmo : Int → Str} {c : Int} {bf : Int → BA} {mk mko : Int → MA} {news X : List (Addr × Obj)} (C : Chain L DK dT t0 R O tt ML SM) (H : LawS w K L DK t0 dT R O tt ML SM OL lb lm nso nmo mko ns nm c bf mk news) (e : Ext [525] news X) (ct : CodeT K SM X) : LawS w K L DK t0 dT R O tt ML SM OL lb lm nso nmo mko ns nm c bf mk X := by
  have z := C.h
  simp only [LtA] at z
  have no : ∀ {x : Addr}, @LT.lt Nat _ 525 x → x ∉ [(525 : Addr)] := fun h hm => Nat.ne_of_gt h (List.mem_singleton.mp hm)
  obtain ⟨_, _, _, _, o3, _⟩ := id H.1.ord
  refine ⟨⟨H.1.deck.ext e (fun y => C.n.1 (List.mem_singleton.mp y)), H.1.som.ext e (no (by omega)), H.1.tit.ext e (no (by omega)), H.1.mar.ext e (no (by omega)) (fun d hd => ?_), H.1.ord.ext e (fun y => o3 (by rw [List.mem_singleton.mp y]; simp)), H.1.ctt.ext e (no (by omega)), H.1.ctb.ext e (no (by omega)), H.1.cel.ext e fun x hx => ?_, ct⟩, H.2.lawStep C e (fun d hd => .inr (.inr (.inr (.inl (List.mem_singleton.mp hd)))))⟩
  · rw [List.mem_singleton.mp hd]
    show @LT.lt Nat _ 525 SM
    omega
  · simp only [List.mem_cons, List.not_mem_nil, or_false] at hx
    rcases hx with rfl | rfl | rfl <;> exact no (by omega)
theorem Chain.code (C : Chain L DK dT t0 R O tt ML SM) : L + 1 ∉ [(525 : Addr)] ∧ L + 1 + 1 ∉ [(525 : Addr)] ∧ L + 1 + 1 + 1 ∉ [(525 : Addr)] ∧ L + 1 + 1 + 1 + 1 ∉ [(525 : Addr)] ∧ L + 1 + 1 + 1 + 1 + 1 ∉ [(525 : Addr)] := by
  have z := C.h
  simp only [LtA] at z
  have no : ∀ {x : Addr}, @LT.lt Nat _ 525 x → x ∉ [(525 : Addr)] := fun h hm => Nat.ne_of_gt h (List.mem_singleton.mp hm)
  exact ⟨no (by omega), no (by omega), no (by omega), no (by omega), no (by omega)⟩

theorem CellC.framed {x : Addr} {v : Value} {news news' : List (Addr × Obj)} {O tt : Addr} (H : CellC x v news) (f : Framed O tt news news') (hx : x ≠ O) : CellC x v news' := let ⟨o, a, b⟩ := H; ⟨o, f _ a (.inl ⟨notD_cell b, hx⟩), b⟩
theorem LawN.up {w : World} {K : List (Addr × Obj)} {L DK t0 O tt ML SM OL : Addr} {lb lb' : Int} {ns : List Int} {nm : Int → Str} {mk : Int → MA} {news : List (Addr × Obj)} (H : LawN w K L DK t0 O tt ML SM OL lb ns nm mk news) (h : lb ≤ lb') : LawN w K L DK t0 O tt ML SM OL lb' ns nm mk news := by
  obtain ⟨a1, a2, ⟨oT, tks, t1, t2, t3, t5, t4⟩, ⟨mvs, nM, m1, m2, m3⟩, a5, a6, a7, a8, a9⟩ := H
  refine ⟨a1, a2, ⟨oT, tks, t1, t2, by omega, fun k hk => ?_, t4⟩, ⟨mvs, nM, m1, by omega, fun v hv => ?_⟩, a5, a6, a7, a8, a9⟩
  · have := t5 k hk; omega
  · obtain ⟨ti, n, t, e1, e2, e3, e4⟩ := m3 v hv
    exact ⟨ti, n, t, e1, e2, e3, by omega⟩
theorem Chain.cellsO (C : Chain L DK dT t0 R O tt ML SM) : L + 1 ≠ O ∧ L + 1 + 1 ≠ O ∧ L + 1 + 1 + 1 ≠ O ∧ L + 1 + 1 + 1 + 1 ≠ O ∧ L + 1 + 1 + 1 + 1 + 1 ≠ O := by
  obtain ⟨c1, c2, c3, c4, c5, c6, c7, c8, c9⟩ := C.h
  simp only [LtA] at *
  refine ⟨?_, ?_, ?_, ?_, ?_⟩ <;> exact Nat.ne_of_lt (by omega)
theorem law_create {w : World} {K : List (Addr × Obj)} {L DK t0 dT R O tt ML SM OL : Addr} {lb : Int} {ns : List Int} {nm : Int → Str} {c : Int} {bf : Int → BA} {mk : Int → MA} {news news2 : List (Addr × Obj)} {es es1 : List DictEntry} {nT n1 nO nO' : Nat} {oR oR' : Obj} {vs : List Value} {kvs : List (Int × Value)} {h₀ h : Heap} {LL : Addr} {A : BA} {q : Str} {tn : Tok} (C : Chain L DK dT t0 R O tt ML SM) (H : LawS w K L DK t0 dT R O tt ML SM OL lb lb ns nm mk ns nm c bf mk news)
    (T : Tbl w news t0 dT R O es nT oR vs nO c lb lb kvs ns) (hval : ∀ n ∈ ns, valueAt kvs n = some (.ref (bf n).b)) (hperm : (kvs.map (·.1)).Perm ns) (h10 : lb + 1 ≤ 10) (N : News h₀ LL h news)
    (D1 : TabD es1 R O c (lb + 1) lb) (hR : oR'.IsDictOf (IK w) (stored kvs (lb + 1) (.ref A.b))) (hs : ∀ p ∈ put news dT (dictOf es1 n1), p ∈ news2) (hlt : ∀ p ∈ put news dT (dictOf es1 n1), LtA p.1 A.db) (hA : BufO w news2 A (lb + 1) q true []) :
    (LawN w K L DK t0 O tt ML SM OL lb ns nm mk (put (put news2 R oR') O (listOf (vs ++ [Value.int (lb + 1) tn]).toArray nO')) ∧ St w (put (put news2 R oR') O (listOf (vs ++ [Value.int (lb + 1) tn]).toArray nO')) t0 dT R O SM (lb + 1) lb (ns ++ [lb + 1]) (fun n => if n = lb + 1 then q else nm n) c (fun n => if n = lb + 1 then A else bf n) mk) ∧ Framed O tt news (put (put news2 R oR') O (listOf (vs ++ [Value.int (lb + 1) tn]).toArray nO')) := by
  obtain ⟨n1, n2, n3, n4, n5, n6, n7, n8, n9, n10, n11, n12⟩ := C.apart
  have hsm : ∃ o, (SM, o) ∈ news := let ⟨_, _, s1, _⟩ := H.1.som; ⟨_, s1⟩
  have e : Ext [O, R, dT] news (put (put news2 R oR') O (listOf (vs ++ [Value.int (lb + 1) tn]).toArray nO')) := (((Ext.refl news).put (d := dT)).sub hs).put.put
  have f : Framed O tt news (put (put news2 R oR') O (listOf (vs ++ [Value.int (lb + 1) tn]).toArray nO')) := Framed.of_ext N e fun d hd => by
    simp only [List.mem_cons, List.not_mem_nil, or_false] at hd
    rcases hd with rfl | rfl | rfl
    · exact .inl ⟨rfl, n7⟩
    · exact .inr ⟨n12, _, T.hR, isD_of T.hRd⟩
    · exact .inr ⟨n11, _, T.hdT, isD_dict⟩
  exact ⟨⟨H.1.framed C f, H.2.create T hval hperm hsm h10 N D1 hR hs hlt hA⟩, f⟩
section
variable {w : World} {K : List (Addr × Obj)} {L DK t0 dT R O tt ML SM OL OL' : Addr} {lb : Int} {ns ns' : List Int} {nm nm' : Int → Str} {c : Int} {bf : Int → BA} {mk mk' : Int → MA} {news X : List (Addr × Obj)} {h₀ h : Heap} {LL : Addr}
theorem MarksC.framed (H : MarksC ML SM lb mk news) (f : Framed O tt news X) (h1 : ML ≠ O) (h2 : LtA O SM) : MarksC ML SM lb mk X := by
  obtain ⟨mvs, nM, a1, a2, a3⟩ := H
  refine ⟨mvs, nM, f _ a1 (.inl ⟨notD_list, h1⟩), a2, fun v hv => ?_⟩
  obtain ⟨ti, n, t, e1, e2, e3, e4⟩ := a3 v hv
  refine ⟨ti, n, t, e1, e2, f _ e3 (.inl ⟨?_, Nat.ne_of_gt (Nat.lt_trans h2 e2)⟩), e4⟩
  rintro ⟨_, _, h⟩; cases h
theorem Chain.tits (C : Chain L DK dT t0 R O tt ML SM) : DK ∉ [tt] ∧ SM ∉ [tt] ∧ ML ∉ [tt] ∧ 525 ∉ [tt] ∧ L + 1 ∉ [tt] ∧ L + 1 + 1 ∉ [tt] ∧ L + 1 + 1 + 1 ∉ [tt] ∧ L + 1 + 1 + 1 + 1 ∉ [tt] ∧ L + 1 + 1 + 1 + 1 + 1 ∉ [tt] ∧ LtA tt SM ∧ LtA O SM ∧ LtA O tt := by
  obtain ⟨c1, c2, c3, c4, c5, c6, c7, c8, c9⟩ := C.h
  simp only [LtA] at *
  refine ⟨?_, ?_, ?_, ?_, ?_, ?_, ?_, ?_, ?_, ?_, ?_, c7⟩
  all_goals first | omega | (intro e; have e' : @Eq Nat _ _ := List.mem_singleton.mp e; omega)
theorem Chain.mls (C : Chain L DK dT t0 R O tt ML SM) : DK ∉ [ML] ∧ SM ∉ [ML] ∧ tt ∉ [ML] ∧ 525 ∉ [ML] ∧ L + 1 ∉ [ML] ∧ L + 1 + 1 ∉ [ML] ∧ L + 1 + 1 + 1 ∉ [ML] ∧ L + 1 + 1 + 1 + 1 ∉ [ML] ∧ L + 1 + 1 + 1 + 1 + 1 ∉ [ML] ∧ LtA ML SM := by
  obtain ⟨c1, c2, c3, c4, c5, c6, c7, c8, c9⟩ := C.h
  simp only [LtA] at *
  refine ⟨?_, ?_, ?_, ?_, ?_, ?_, ?_, ?_, ?_, ?_⟩
  all_goals first | omega | (intro e; have e' : @Eq Nat _ _ := List.mem_singleton.mp e; omega)
/-- the law takes a name and an order into its own books -/
theorem law_books {lb' : Int} {ovs' : List Value} {k : Nat} {oT' : Obj} {tks' : List (Int × Value)} (C : Chain L DK dT t0 R O tt ML SM) (HN : LawN w K L DK t0 O tt ML SM OL lb ns nm mk news) (e : Ext [tt] news X) (hl : lb ≤ lb') (hOL : (OL', listOf ovs'.toArray k) ∈ X) (hlo : OL' ∉ [DK, O, tt, ML, 525, L + 1 + 1, L + 1 + 1 + 1, L + 1 + 1 + 1 + 1]) (hML : OL' ≠ ML) (hO : IntsAre ovs' ns')
    (hT : (tt, oT') ∈ X) (hT' : oT'.IsDictOf (IK w) tks') (hln : (tks'.length : Int) ≤ lb') (hk : ∀ k ∈ tks'.map (·.1), 1 ≤ k ∧ k ≤ lb') (hv : ∀ n ∈ ns', ∃ t, valueAt tks' n = some (.str (nm' n) t)) : LawN w K L DK t0 O tt ML SM OL' lb' ns' nm' mk X ∧ MarksC ML SM lb mk X := by
  obtain ⟨t1, t2, t3, t4, t5, t6, t7, t8, t9, t10, t11, t12⟩ := C.tits
  have lo : ∀ d ∈ [tt], LtA d SM := fun d hd => by rw [List.mem_singleton.mp hd]; exact t10
  have hM := HN.mar.ext e t3 lo
  refine ⟨⟨HN.deck.ext e t1, HN.som.ext e t2, ⟨oT', tks', hT, hT', hln, hk, hv⟩, ?_, ⟨ovs', k, hOL, hO, hlo, hML⟩, HN.ctt.ext e t5, HN.ctb.ext e t9, HN.cel.ext e fun x hx => ?_, HN.ct.ext e t4 lo⟩, hM⟩
  · obtain ⟨mvs, nM, m1, m2, m3⟩ := hM
    refine ⟨mvs, nM, m1, by omega, fun v hv => ?_⟩
    obtain ⟨ti, n, t, e1, e2, e3, e4⟩ := m3 v hv
    exact ⟨ti, n, t, e1, e2, e3, by omega⟩
  · simp only [List.mem_cons, List.not_mem_nil, or_false] at hx
    rcases hx with rfl | rfl | rfl <;> assumption
theorem law_mark {es es1 : List DictEntry} {nT n1 nO : Nat} {oR : Obj} {vs : List Value} {kvs : List (Int × Value)} {M : MA} {om : Obj} {ed : List DictEntry} {nd : Nat} (C : Chain L DK dT t0 R O tt ML SM) (HN : LawN w K L DK t0 O tt ML SM OL (lb + 1) ns nm mk news) (hMk : MarksC ML SM lb mk news) (S : St w news t0 dT R O SM (lb + 1) lb ns nm c bf mk) (T : Tbl w news t0 dT R O es nT oR vs nO c (lb + 1) lb kvs ns) (hval : ∀ n ∈ ns, valueAt kvs n = some (.ref (bf n).b)) (hperm : (kvs.map (·.1)).Perm ns) (hl : lb + 1 ∈ ns) (N : News h₀ LL h news)
    (D1 : TabD es1 R O c (lb + 1) (lb + 1)) (ho : om.IsDictOf (IK w) [(lb + 1, .ref M.mi)]) (hk : MkD ed (lb + 1) (.ref (bf (lb + 1)).b) 1) (hM : LtA M.dm M.mi) (hlt : ∀ p ∈ news, LtA p.1 M.dm) (e : Ext [dT, (bf (lb + 1)).mr] news X)
    (m1 : (dT, dictOf es1 n1) ∈ X) (m2 : ((bf (lb + 1)).mr, om) ∈ X) (m3 : (M.mi, instObj 185 M.dm) ∈ X) (m4 : (M.dm, dictOf ed nd) ∈ X) :
    LawN w K L DK t0 O tt ML SM OL (lb + 1) ns nm mk X ∧ MarksC ML SM lb mk X ∧ St w X t0 dT R O SM (lb + 1) (lb + 1) ns nm c bf (fun n => if n = lb + 1 then M else mk n) := by
  obtain ⟨n1, n2, n3, n4, n5, n6, n7, n8, n9, n10, n11, n12⟩ := C.apart
  obtain ⟨t1, t2, t3, t4, t5, t6, t7, t8, t9, t10, t11, t12⟩ := C.tits
  have hb := S.bufs (lb + 1) hl
  have hr := S.rng (lb + 1) hl
  have h2 := S.o2 (lb + 1) hr.1 (Int.le_refl _)
  have hmr : ∃ o, ((bf (lb + 1)).mr, o) ∈ news ∧ IsD o := by
    obtain ⟨_, _, _, _, _, _, _, ⟨o, h8, h8'⟩, _, _⟩ := hb
    exact ⟨o, h8, isD_of h8'⟩
  have f : Framed O tt news X := Framed.of_ext N e fun d hd => by
    simp only [List.mem_cons, List.not_mem_nil, or_false] at hd
    rcases hd with rfl | rfl
    · exact .inr ⟨n11, _, T.hdT, isD_dict⟩
    · refine .inr ⟨fun z => ?_, hmr⟩
      have l := S.buf_lt hr.1 (Int.le_refl _)
      rw [z] at l
      obtain ⟨u, _⟩ := h2
      exact Nat.lt_irrefl _ (Nat.lt_trans l (Nat.lt_trans t10 u))
  exact ⟨HN.framed C f, hMk.framed f n3 t11, S.marker T hval hperm hl N D1 ho hk hM hlt e m1 m2 m3 m4⟩
theorem law_push {mvs : List Value} {nM : Nat} {ti : Addr} {t : Tok} (C : Chain L DK dT t0 R O tt ML SM) (HN : LawN w K L DK t0 O tt ML SM OL (lb + 1) ns nm mk news) (S : St w news t0 dT R O SM (lb + 1) (lb + 1) ns nm c bf mk') (hmk : ∀ n, n ≤ lb → mk' n = mk n) (a2 : (mvs.length : Int) ≤ lb) (h0 : 0 ≤ lb) (a3 : ∀ v ∈ mvs, ∃ ti n t, v = .ref ti ∧ LtA SM ti ∧ (ti, ({ cls := .type "tuple", data := .seq #[.ref (mk n).mi, .int n t] } : Obj)) ∈ news ∧ 1 ≤ n ∧ n ≤ lb)
    (e : Ext [ML] news X) (h1 : (ti, ({ cls := .type "tuple", data := .seq #[.ref (mk' (lb + 1)).mi, .int (lb + 1) t] } : Obj)) ∈ X) (hlt : LtA SM ti) (h2 : (ML, listOf (mvs ++ [Value.ref ti]).toArray nM) ∈ X) :
    LawS w K L DK t0 dT R O tt ML SM OL (lb + 1) (lb + 1) ns nm mk' ns nm c bf mk' X := by
  obtain ⟨t1, t2, t3, t4, t5, t6, t7, t8, t9, t10⟩ := C.mls
  have lo : ∀ d ∈ [ML], LtA d SM := fun d hd => by rw [List.mem_singleton.mp hd]; exact t10
  obtain ⟨ovs, on, o1, o2, o3, o4⟩ := id HN.ord
  refine ⟨⟨HN.deck.ext e t1, HN.som.ext e t2, HN.tit.ext e t3, ⟨_, nM, h2, by simp; omega, fun v hv => ?_⟩, HN.ord.ext e (fun z => o4 (List.mem_singleton.mp z)), HN.ctt.ext e t5, HN.ctb.ext e t9, HN.cel.ext e fun x hx => ?_, HN.ct.ext e t4 lo⟩, S.lawStep C e fun d hd => .inr (.inr (.inl (List.mem_singleton.mp hd)))⟩
  · rcases List.mem_append.mp hv with hv | hv
    · obtain ⟨ti2, n, t, e1, e2, e3, e4, e5⟩ := a3 v hv
      refine ⟨ti2, n, t, e1, e2, ?_, e4, by omega⟩
      rw [hmk n e5]
      exact e _ e3 fun z => Nat.lt_irrefl _ (Nat.lt_trans e2 (lo _ z))
    · exact ⟨ti, lb + 1, t, List.mem_singleton.mp hv, hlt, h1, by omega, Int.le_refl _⟩
  · simp only [List.mem_cons, List.not_mem_nil, or_false] at hx
    rcases hx with rfl | rfl | rfl <;> assumption
end
section
variable {w : World} {K : List (Addr × Obj)} {L DK t0 dT R O tt ML SM OL : Addr} {lb : Int} {ns : List Int} {nm : Int → Str} {c : Int} {bf : Int → BA} {mk : Int → MA} {news : List (Addr × Obj)} {h₀ h : Heap} {m : Str → Option Value}
theorem books_create {G : Prop} {d1 d2 d3 : Addr} {o1 o3 o8 : Obj} {ws : List Value} {kk : Nat} {tks : List (Int × Value)} {q : Str} {tq : Tok} (N8 : News h₀ L h (put ((d3, o3) :: (d2, listOf ws.toArray kk) :: (d1, o1) :: news) tt o8)) (F8 : Fr h₀ L h (fun y => if y = Str.ofString "order" then some (.ref d2) else m y)) (l1 : ∀ p ∈ news, LtA p.1 d2) (hI : IntsAre ws (ns ++ [lb + 1]))
    (C : Chain L DK dT t0 R O tt ML SM) (HN : LawN w K L DK t0 O tt ML SM OL lb ns nm mk news) (HS : St w news t0 dT R O SM (lb + 1) lb (ns ++ [lb + 1]) (fun n => if n = lb + 1 then q else nm n) c bf mk) (M : LawM DK SM ML OL c m)
    (hd8 : o8.IsDictOf (IK w) (stored tks (lb + 1) (.str q tq))) (t3 : (tks.length : Int) ≤ lb) (t5 : ∀ k ∈ tks.map (·.1), 1 ≤ k ∧ k ≤ lb) (t4 : ∀ n ∈ ns, ∃ t, valueAt tks n = some (.str (nm n) t))
    (k : ∀ news8 OL' m', LawN w K L DK t0 O tt ML SM OL' (lb + 1) (ns ++ [lb + 1]) (fun n => if n = lb + 1 then q else nm n) mk news8 → MarksC ML SM lb mk news8 → St w news8 t0 dT R O SM (lb + 1) lb (ns ++ [lb + 1]) (fun n => if n = lb + 1 then q else nm n) c bf mk → LawM DK SM ML OL' c m' → m' (Str.ofString "tale") = m (Str.ofString "tale") → Fr h₀ L h m' → News h₀ L h news8 → G) : G := by
  have hl0 := HS.lms
  obtain ⟨mvs, nM, m1, m2, m3⟩ := id HN.mar
  obtain ⟨es, nT, oR, vs, nO, kvs, S, _, _⟩ := HS.T
  have e : Ext [tt] news (put ((d3, o3) :: (d2, listOf ws.toArray kk) :: (d1, o1) :: news) tt o8) := fun p hp hn => mem_put_ne (.tail _ (.tail _ (.tail _ hp))) fun z => hn (z ▸ .head _)
  have hn0 : ∀ n ∈ ns, n ≠ lb + 1 := fun n hn z => by
    have := HS.nd
    rw [List.nodup_append] at this
    exact this.2.2 n hn _ (.head _) z
  have ho2 := off_all HN S.hO fun p hp => Nat.ne_of_lt (l1 p hp)
  have htd : LtA tt d2 := by
    obtain ⟨oT, _, t1, _⟩ := HN.tit
    exact l1 _ t1
  obtain ⟨B1, B2⟩ := law_books (OL' := d2) (ns' := ns ++ [lb + 1]) (nm' := fun n => if n = lb + 1 then q else nm n) (lb' := lb + 1) C HN e (by omega) (mem_put_ne (.tail _ (.head _)) (Nat.ne_of_gt htd)) ho2 (Nat.ne_of_gt (l1 _ m1)) hI (mem_put_self _ _ _) hd8 (by have := stored_len (kvs := tks) (k := lb + 1) (v := .str q tq); omega) (fun x hx => by
      rcases stored_keys x hx with rfl | h
      · omega
      · have := t5 x h; omega) (fun n hn => by
      rw [stored_value]
      by_cases z : n = lb + 1
      · subst z; simp
      · rcases List.mem_append.mp hn with h | h
        · obtain ⟨t, ht⟩ := t4 n h
          exact ⟨t, by simp [z, ht]⟩
        · exact absurd (List.mem_singleton.mp h) z)
  refine k _ d2 _ B1 B2 (HS.lawStep C e fun d hd => .inr (.inl (List.mem_singleton.mp hd))) ⟨mget_ne (by decide) M.mdk, mget_ne (by decide) M.msm, mget_ne (by decide) M.mml, mget_eq, let ⟨t, h⟩ := M.mcu; ⟨t, mget_ne (by decide) h⟩⟩ (if_neg (by decide)) F8 N8
end
section
variable {w : World} {K : List (Addr × Obj)} {L DK t0 dT R O tt ML SM OL : Addr} {lb lm : Int} {ns : List Int} {nm : Int → Str} {c : Int} {bf : Int → BA} {mk : Int → MA} {news X : List (Addr × Obj)} {h₀ h : Heap} {LL : Addr}
theorem St.b_ne (S : St w news t0 dT R O tt lb lm ns nm c bf mk) {n n' : Int} (h1 : n ∈ ns) (h2 : n' ∈ ns) (hne : n ≠ n') : (bf n).b ≠ (bf n').b := fun e => by
  have r1 := S.rng n h1; have r2 := S.rng n' h2
  have z := S.apartB r1.1 r1.2 r2.1 r2.2 hne
  have a1 := S.o2 n r1.1 r1.2; have a2 := S.o2 n' r2.1 r2.2
  have y : ∀ {n : Int} {a : Addr}, LtA a (bf n).db ∧ LtA (bf n).db (bf n).b ∧ LtA (bf n).b (bf n).dtx ∧ LtA (bf n).dtx (bf n).tx ∧ LtA (bf n).tx (bf n).ce ∧ LtA (bf n).ce (bf n).dms ∧ LtA (bf n).dms (bf n).ms ∧ LtA (bf n).ms (bf n).mr → LtA (bf n).b (bf n).mr :=
    fun ⟨_, _, h2, h3, h4, h5, h6, h7⟩ => Nat.lt_trans h2 (Nat.lt_trans h3 (Nat.lt_trans h4 (Nat.lt_trans h5 (Nat.lt_trans h6 h7))))
  exact z.elim (fun q => Nat.ne_of_lt (Nat.lt_trans (y a1) (Nat.lt_trans q a2.2.1)) e) fun q => Nat.ne_of_gt (Nat.lt_trans (y a2) (Nat.lt_trans q a1.2.1)) e
theorem law_rename {num : Int} {r : Str} {eb eb' : List DictEntry} {nb nb' : Nat} {t2 : Tok} (C : Chain L DK dT t0 R O tt ML SM) (H : LawS w K L DK t0 dT R O tt ML SM OL lb lb ns nm mk ns nm c bf mk news) (hn : num ∈ ns) (hdb : ((bf num).db, dictOf eb nb) ∈ news) (D : BufD eb num (nm num) (bf num).tx (bf num).ms true)
    (g1 : getL "name" eb' = some (some (.str r t2))) (g2 : ∀ y, y ≠ Str.ofString "name" → getL y eb' = getL y eb) (g3 : eb'.length = eb.length) (N : News h₀ LL h news) :
    LawS w K L DK t0 dT R O tt ML SM OL lb lb ns nm mk ns (fun n => if n = num then r else nm n) c bf mk (put news (bf num).db (dictOf eb' nb')) ∧ Framed O tt news (put news (bf num).db (dictOf eb' nb')) := by
  have rn := H.2.rng num hn
  have hlt := (H.2.o2 num rn.1 rn.2).1
  have f : Framed O tt news (put news (bf num).db (dictOf eb' nb')) := Framed.of_ext N (Ext.refl news).put fun d hd => by
    have hd' := List.mem_singleton.mp hd
    subst hd'
    exact .inr ⟨fun z => Nat.lt_irrefl _ (Nat.lt_trans (z ▸ hlt) C.tits.2.2.2.2.2.2.2.2.2.1), _, hdb, isD_dict⟩
  exact ⟨⟨H.1.framed C f, H.2.rename (nb := nb) hn D g1 g2 g3 N⟩, f⟩
theorem books_rename {num : Int} {r : Str} {td : Tok} {o8 : Obj} {tks : List (Int × Value)} (C : Chain L DK dT t0 R O tt ML SM) (H : LawS w K L DK t0 dT R O tt ML SM OL lb lb ns nm mk ns (fun n => if n = num then r else nm n) c bf mk news) (hn : num ∈ ns) (N : News h₀ LL h news)
    (hd8 : o8.IsDictOf (IK w) (stored tks num (.str r td))) (t3 : (tks.length : Int) ≤ lb) (t5 : ∀ k ∈ tks.map (·.1), 1 ≤ k ∧ k ≤ lb) (t4 : ∀ n ∈ ns, ∃ t, valueAt tks n = some (.str (nm n) t)) :
    LawS w K L DK t0 dT R O tt ML SM OL lb lb ns (fun n => if n = num then r else nm n) mk ns (fun n => if n = num then r else nm n) c bf mk (put news tt o8) := by
  obtain ⟨ovs, on, o1, o2, o3, o4⟩ := id H.1.ord
  obtain ⟨t, ht⟩ := t4 num hn
  obtain ⟨es, nT, oR, vs, nO, kvs, S, _, _⟩ := H.2.T
  have e : Ext [tt] news (put news tt o8) := (Ext.refl news).put
  have otn : OL ∉ [tt] → (OL, listOf ovs.toArray on) ∈ put news tt o8 := fun z => e _ o1 z
  have hot : OL ∉ [tt] := fun z => by
    have z' := List.mem_singleton.mp z
    obtain ⟨oT, tks2, q1, q2, _⟩ := H.1.tit
    rw [z'] at o1
    have z2 := mem_inj N o1 q1
    exact notD_list (z2 ▸ isD_of q2)
  have B := law_books (OL' := OL) (ns' := ns) (nm' := fun n => if n = num then r else nm n) (lb' := lb) C H.1 e (Int.le_refl _) (otn hot) o3 o4 o2 (mem_put_self _ _ _) hd8 (by rw [stored_len2 ht]; exact t3) (fun x hx => by
      rcases stored_keys x hx with rfl | h
      · exact H.2.rng _ hn
      · exact t5 x h) (fun n h => by
      rw [stored_value]
      by_cases z : n = num
      · subst z; simp
      · obtain ⟨t, ht⟩ := t4 n h
        exact ⟨t, by simp [z, ht]⟩)
  exact ⟨B.1, H.2.lawStep C e fun d hd => .inr (.inl (List.mem_singleton.mp hd))⟩
end
section
variable {w : World} {K : List (Addr × Obj)} {L DK t0 dT R O tt ML SM OL OL' : Addr} {lb lm : Int} {ns ns' : List Int} {nm : Int → Str} {c c' : Int} {bf : Int → BA} {mk : Int → MA} {news X news2 : List (Addr × Obj)} {h₀ h : Heap} {LL : Addr}
  {es es' es2 : List DictEntry} {nT n2 nO nO' : Nat} {oR oR' : Obj} {vs vs' : List Value} {kvs : List (Int × Value)} {num : Int}
theorem St.b_own (S : St w news t0 dT R O tt lb lm ns nm c bf mk) (N : News h₀ LL h news) (hn : num ∈ ns) : ∀ db es n, ((bf num).b, instObj 359 db) ∈ news → (db, dictOf es n) ∈ news → db ≠ dT := fun db es n h1 _ z => by
  have e := mem_inj N h1 (S.bufs num hn).hb
  have rn := S.rng num hn
  injection e with _ e
  have e3 : db = (bf num).db := by simpa using e
  have l := Nat.lt_trans S.o1.2.1 (S.o2 num rn.1 rn.2).1
  exact Nat.ne_of_lt l (z.symm.trans e3)
theorem law_select (C : Chain L DK dT t0 R O tt ML SM) (H : LawS w K L DK t0 dT R O tt ML SM OL lb lb ns nm mk ns nm c bf mk news) (hn : num ∈ ns) (T : Tbl w news t0 dT R O es nT oR vs nO c lb lb kvs ns) (hval : ∀ n ∈ ns, valueAt kvs n = some (.ref (bf n).b)) (hperm : (kvs.map (·.1)).Perm ns) (N : News h₀ LL h news) (D : TabD es' R O num lb lb) (hI : IntsAre vs' (num :: ns.erase num)) :
    LawS w K L DK t0 dT R O tt ML SM OL lb lb ns nm mk (num :: ns.erase num) nm num bf mk (put (put news dT (dictOf es' n2)) O (listOf vs'.toArray nO')) ∧ Framed O tt news (put (put news dT (dictOf es' n2)) O (listOf vs'.toArray nO')) := by
  obtain ⟨_, _, _, _, _, _, n7, _, _, _, n11, n12⟩ := C.apart
  have e : Ext [O, dT] news (put (put news dT (dictOf es' n2)) O (listOf vs'.toArray nO')) := (Ext.refl news).put.put
  have f := Framed.of_ext (O := O) (tt := tt) N e fun d hd => by
    simp only [List.mem_cons, List.not_mem_nil, or_false] at hd
    rcases hd with rfl | rfl
    · exact .inl ⟨rfl, n7⟩
    · exact .inr ⟨n11, _, T.hdT, isD_dict⟩
  have hp : (num :: ns.erase num).Perm ns := (List.perm_cons_erase hn).symm
  refine ⟨⟨H.1.framed C f, H.2.move e (fun x hx => ?_) ⟨es', n2, oR, vs', nO', kvs, T.sel N D hI, fun n h => hval n (hp.mem_iff.mp h), hperm.trans hp.symm⟩ hp⟩, f⟩
  simp only [List.mem_cons, List.not_mem_nil, or_false] at hx
  rcases hx with h | h
  · exact .inr (.inl h)
  · exact .inl h
theorem law_bury (C : Chain L DK dT t0 R O tt ML SM) (H : LawS w K L DK t0 dT R O tt ML SM OL lb lb ns nm mk ns nm c bf mk news) (hn : num ∈ ns) (T : Tbl w news t0 dT R O es nT oR vs nO c lb lb kvs ns) (hval : ∀ n ∈ ns, valueAt kvs n = some (.ref (bf n).b)) (hperm : (kvs.map (·.1)).Perm ns) (N : News h₀ LL h news) (hI : IntsAre vs' (ns.erase num ++ [num])) :
    LawS w K L DK t0 dT R O tt ML SM OL lb lb ns nm mk (ns.erase num ++ [num]) nm c bf mk (put news O (listOf vs'.toArray nO')) ∧ Framed O tt news (put news O (listOf vs'.toArray nO')) := by
  obtain ⟨_, _, _, _, _, _, n7, _, _, _, n11, n12⟩ := C.apart
  have e : Ext [O] news (put news O (listOf vs'.toArray nO')) := (Ext.refl news).put
  have f := Framed.of_ext (O := O) (tt := tt) N e fun d hd => .inl ⟨List.mem_singleton.mp hd, n7⟩
  have hp : (ns.erase num ++ [num]).Perm ns := (List.perm_append_comm).trans (List.perm_cons_erase hn).symm
  exact ⟨⟨H.1.framed C f, H.2.move e (fun x hx => .inr (.inl (List.mem_singleton.mp hx))) ⟨es, nT, oR, vs', nO', kvs, T.ord N hI, fun n h => hval n (hp.mem_iff.mp h), hperm.trans hp.symm⟩ hp⟩, f⟩
theorem books_order {ovs' : List Value} {k : Nat} (HN : LawN w K L DK t0 O tt ML SM OL lb ns nm mk news) (hs : ∀ p ∈ news, p ∈ X) (hOL : (OL', listOf ovs'.toArray k) ∈ X) (hlo : OL' ∉ [DK, O, tt, ML, 525, L + 1 + 1, L + 1 + 1 + 1, L + 1 + 1 + 1 + 1]) (hML : OL' ≠ ML) (hO : IntsAre ovs' ns') (hsub : ∀ n ∈ ns', n ∈ ns) : LawN w K L DK t0 O tt ML SM OL' lb ns' nm mk X := by
  have e : Ext [] news X := (Ext.refl news).sub hs
  obtain ⟨a1, a2, ⟨oT, tks, t1, t2, t3, t5, t4⟩, a4, _, a6, a7, a8, a9⟩ := HN
  exact ⟨a1.ext e (by simp), a2.ext e (by simp), ⟨oT, tks, hs _ t1, t2, t3, t5, fun n hn => t4 n (hsub n hn)⟩, a4.ext e (by simp) (fun d hd => nomatch hd), ⟨ovs', k, hOL, hO, hlo, hML⟩, a6.ext e (by simp), a7.ext e (by simp), a8.ext e (by simp), a9.ext e (by simp) (fun d hd => nomatch hd)⟩
theorem erase_filter (hd : ns.Nodup) : ns.erase num = ns.filter (fun n => n != num) := by
  rw [hd.erase_eq_filter]
theorem LawM.order {DK SM ML OL OL' : Addr} {c : Int} {m : Str → Option Value} (M : LawM DK SM ML OL c m) : LawM DK SM ML OL' c (fun y => if y = Str.ofString "order" then some (.ref OL') else m y) :=
  ⟨mget_ne (by decide) M.mdk, mget_ne (by decide) M.msm, mget_ne (by decide) M.mml, mget_eq, let ⟨t, h⟩ := M.mcu; ⟨t, mget_ne (by decide) h⟩⟩
theorem LawM.current {DK SM ML OL : Addr} {c c' : Int} {t : Tok} {m : Str → Option Value} (M : LawM DK SM ML OL c m) : LawM DK SM ML OL c' (fun y => if y = Str.ofString "current" then some (.int c' t) else m y) :=
  ⟨mget_ne (by decide) M.mdk, mget_ne (by decide) M.msm, mget_ne (by decide) M.mml, mget_ne (by decide) M.mor, t, mget_eq⟩
theorem LawM.put2 {DK SM ML OL OL' : Addr} {c c' : Int} {t : Tok} {m : Str → Option Value} (M : LawM DK SM ML OL c m) : LawM DK SM ML OL' c' (fun y => if y = Str.ofString "current" then some (.int c' t) else if y = Str.ofString "order" then some (.ref OL') else m y) :=
  (M.order (OL' := OL')).current
theorem law_kill {ed : List DictEntry} {nd : Nat} (C : Chain L DK dT t0 R O tt ML SM) (H : LawS w K L DK t0 dT R O tt ML SM OL lb lb ns nm mk ns nm c bf mk news) (T : Tbl w news t0 dT R O es nT oR vs nO c lb lb kvs ns) (hval : ∀ n ∈ ns, valueAt kvs n = some (.ref (bf n).b)) (hperm : (kvs.map (·.1)).Perm ns) (hn : num ∈ ns) (N : News h₀ LL h news)
    (D2 : TabD es2 R O c' lb lb) (hR : oR'.IsDictOf (IK w) (without kvs num)) (hI : IntsAre vs' (ns.erase num)) (hk : MkD ed num .none 0) (e : Ext [dT, O, R, (bf num).db, (bf num).mr, (mk num).dm] news news2)
    (m1 : (dT, dictOf es2 n2) ∈ news2) (m2 : (R, oR') ∈ news2) (m3 : (O, listOf vs'.toArray nO') ∈ news2) (m4 : ((mk num).dm, dictOf ed nd) ∈ news2) :
    LawS w K L DK t0 dT R O tt ML SM OL lb lb ns nm mk (ns.erase num) nm c' bf mk news2 ∧ Framed O tt news news2 ∧ ((bf num).b, instObj 359 (bf num).db) ∈ news2 := by
  obtain ⟨_, _, _, _, _, _, n7, _, _, _, n11, n12⟩ := C.apart
  have hB := H.2.bufs num hn
  have rn := H.2.rng num hn
  have h2 := H.2.o2 num rn.1 rn.2
  have bl := H.2.buf_lt rn.1 rn.2
  have l := H.2.lms
  obtain ⟨w1, w2⟩ := H.2.o3 num rn.1 rn.2
  obtain ⟨eb, nb, b2, _⟩ := hB.hdb
  obtain ⟨omr, b8, b8'⟩ := hB.hmr
  obtain ⟨ek, nk, c2, _⟩ := (H.2.mks num rn.1 rn.2).hd
  have tl : LtA tt SM := C.tits.2.2.2.2.2.2.2.2.2.1
  obtain ⟨u1, u2, u3, u4⟩ := H.2.o1
  obtain ⟨h20, h21, h22, h23, h24, h25, h26, h27⟩ := h2
  have g1 := Nat.lt_trans tl h20
  have g2 := Nat.lt_trans g1 bl
  have g3 := Nat.lt_trans g2 w1
  have below : ∀ {x : Addr}, LtA x SM → (bf num).b ≠ x := fun h => Nat.ne_of_gt (Nat.lt_trans h (Nat.lt_trans h20 h21))
  have bmr : LtA (bf num).b (bf num).mr := Nat.lt_trans h22 (Nat.lt_trans h23 (Nat.lt_trans h24 (Nat.lt_trans h25 (Nat.lt_trans h26 h27))))
  have f := Framed.of_ext (O := O) (tt := tt) N e fun d hd => by
    simp only [List.mem_cons, List.not_mem_nil, or_false] at hd
    rcases hd with rfl | rfl | rfl | rfl | rfl | rfl
    · exact .inr ⟨n11, _, T.hdT, isD_dict⟩
    · exact .inl ⟨rfl, n7⟩
    · exact .inr ⟨n12, _, T.hR, isD_of T.hRd⟩
    · exact .inr ⟨Nat.ne_of_gt g1, _, b2, isD_dict⟩
    · exact .inr ⟨Nat.ne_of_gt g2, _, b8, isD_of b8'⟩
    · exact .inr ⟨Nat.ne_of_gt g3, _, c2, isD_dict⟩
  refine ⟨⟨H.1.framed C f, H.2.kill T hval hperm hn N D2 hR hI hk e m1 m2 m3 m4⟩, f, e _ hB.hb fun hm => ?_⟩
  simp only [List.mem_cons, List.not_mem_nil, or_false] at hm
  rcases hm with z | z | z | z | z | z
  · exact below (by assumption) z
  · exact below (by assumption) z
  · exact below (by assumption) z
  · exact Nat.ne_of_gt h21 z
  · exact Nat.ne_of_lt bmr z
  · exact Nat.ne_of_lt (Nat.lt_trans bmr w1) z
/-- what kill asks of the other buffers -/
theorem St.kill_apart (S : St w news t0 dT R O tt lb lb ns nm c bf mk) (hn : num ∈ ns) : ∀ n ∈ ns, n ≠ num → ∃ db es k, ((bf n).b, instObj 359 db) ∈ news ∧ (db, dictOf es k) ∈ news ∧ LiveD es n (nm n) ∧ db ≠ (bf num).db ∧ db ≠ (bf num).mr ∧ db ≠ (mk num).dm ∧ db ≠ R ∧ db ≠ dT := fun n h hne => by
  have r1 := S.rng n h; have r2 := S.rng num hn
  have hB := S.bufs n h
  obtain ⟨eb, nb, b2, b3⟩ := hB.hdb
  have z := S.apartB r1.1 r1.2 r2.1 r2.2 hne
  have z2 := S.apartM r2.1 r2.2 r1.1 r1.2
  have a1 := S.o2 n r1.1 r1.2; have a2 := S.o2 num r2.1 r2.2
  have w2 := S.o3 num r2.1 r2.2
  have bl := S.buf_lt r1.1 r1.2
  have bl2 := S.buf_lt r2.1 r2.2
  obtain ⟨u1, u2, u3, u4⟩ := S.o1
  refine ⟨_, eb, nb, hB.hb, b2, ⟨b3.number, b3.name, b3.live⟩, ?_, ?_, ?_, Nat.ne_of_gt (Nat.lt_trans u3 a1.1), Nat.ne_of_gt (Nat.lt_trans u2 a1.1)⟩
  · exact z.elim (fun q => Nat.ne_of_lt (Nat.lt_trans bl q)) fun q => Nat.ne_of_gt (Nat.lt_trans bl2 q)
  · exact z.elim (fun q => Nat.ne_of_lt (Nat.lt_trans bl (Nat.lt_trans q bl2))) fun q => Nat.ne_of_gt q
  · exact z2.elim (fun q => Nat.ne_of_lt (Nat.lt_trans bl q)) fun q => Nat.ne_of_gt (Nat.lt_trans w2.2 q)
theorem off_lt {x : Addr} {oO : Obj} {nm' : Int → Str} {mk' : Int → MA} (H : LawN w K L DK t0 O tt ML SM OL lb ns' nm' mk' news) (hO : (O, oO) ∈ news) (h : ∀ p ∈ news, @LT.lt Nat _ p.1 x) : x ∉ [DK, O, tt, ML, 525, L + 1 + 1, L + 1 + 1 + 1, L + 1 + 1 + 1 + 1] := off_all H hO fun p hp => Nat.ne_of_lt (h p hp)
theorem lt_of_all {a x : Addr} {o : Obj} (h : ∀ p ∈ news, @LT.lt Nat _ p.1 x) (hm : (a, o) ∈ news) : LtA a x := h _ hm
theorem ne_of_all {a x : Addr} {o : Obj} (h : ∀ p ∈ news, @LT.lt Nat _ p.1 x) (hm : (a, o) ∈ news) : x ≠ a := Nat.ne_of_gt (h _ hm)
end
section
variable {w : World} {K : List (Addr × Obj)} {L DK t0 dT R O tt ML SM OL VA : Addr} {lb lm : Int} {ns ns' : List Int} {nm : Int → Str} {c : Int} {bf : Int → BA} {mk : Int → MA} {news X : List (Addr × Obj)} {num : Int}
theorem OrdC.framed (H : OrdC L DK O tt ML VA ns news) (f : Framed O tt news X) : OrdC L DK O tt ML VA ns X := let ⟨vs, n, h1, h2, h3, h4⟩ := H; ⟨vs, n, f _ h1 (.inl ⟨notD_list, fun z => h3 (z ▸ .tail _ (.head _))⟩), h2, h3, h4⟩
theorem OrdC.make {nso : List Int} {nmo : Int → Str} {mko : Int → MA} {vs : List Value} {n : Nat} (H : LawS w K L DK t0 dT R O tt ML SM OL lb lm nso nmo mko ns nm c bf mk news) (off : ∀ p ∈ news, p.1 ≠ VA) (hs : IntsAre vs ns') : OrdC L DK O tt ML VA ns' ((VA, listOf (List.toArray vs) n) :: news) := by
  obtain ⟨es, nT, oR, vs, nO, kvs, S, hval, hperm⟩ := H.2.T
  obtain ⟨mvs, nM, a1, a2, a3⟩ := H.1.mar
  exact ⟨_, n, .head _, hs, off_all H.1 S.hO off, fun z => off _ a1 z.symm⟩
def visB (nm : Int → Str) (o : Int) : Bool := !(Txt.startswith (nm o) (Str.ofString " "))
def DeadC (b : Addr) (num : Int) (news : List (Addr × Obj)) : Prop := ∃ db eb nb, (b, instObj 359 db) ∈ news ∧ (db, dictOf eb nb) ∈ news ∧ getL "is_live" eb = some (some (.bool false)) ∧ ∃ t, getL "number" eb = some (some (.int num t))
theorem DeadC.sub {b : Addr} (h : DeadC b num news) (hs : ∀ p ∈ news, p ∈ X) : DeadC b num X := let ⟨db, eb, nb, h1, h2, h3⟩ := h; ⟨db, eb, nb, hs _ h1, hs _ h2, h3⟩
theorem vis_find : (ns.find? fun n => n != num && !(Txt.startswith (nm n) (Str.ofString " "))).getD 0 = ((ns.filter (fun o => o != num)).filter (visB nm)).headD 0 := by
  rw [List.filter_filter, ← List.head?_filter, List.headD_eq_head?_getD]
  congr 2
  apply List.filter_congr
  intro x _
  unfold visB
  rw [Bool.and_comm]
def newC (c num : Int) (ns : List Int) (nm : Int → Str) : Int := if c = num then ((ns.filter (fun o => o != num)).filter (visB nm)).headD 0 else c
end
/-- not the object of a loop over a range -/
def NI (o : Obj) : Prop := ∀ x1 x2 x3 : Int, o.data ≠ .fields #[rawInt x1, rawInt x2, rawInt x3]
theorem ni_inst {C d : Addr} : NI (instObj C d) := fun _ _ _ h => nomatch h
theorem ni_dict {es : List DictEntry} {n : Nat} : NI (dictOf es n) := fun _ _ _ h => nomatch h
theorem ni_list {vs : Array Value} {n : Nat} : NI (listOf vs n) := fun _ _ _ h => nomatch h
theorem ni_isD {o : Obj} (h : IsD o) : NI o := fun _ _ _ h2 => by
  obtain ⟨es, ep, h1⟩ := h
  rw [h1] at h2; cases h2
theorem ni_cell {o : Obj} {v : Option Value} (h : o.data = .cell v) : NI o := fun _ _ _ h2 => by rw [h] at h2; cases h2
section
variable {w : World} {K : List (Addr × Obj)} {L DK t0 dT R O tt ML SM OL : Addr} {lb lm : Int} {ns : List Int} {nm : Int → Str} {c : Int} {bf : Int → BA} {mk : Int → MA} {news X : List (Addr × Obj)} {k : Int} {m : Str → Option Value}
theorem St.but (S : St w news t0 dT R O tt lb lm ns nm c bf mk) (k : ∀ p ∈ news, NI p.2 → p ∈ X) : St w X t0 dT R O tt lb lm ns nm c bf mk := by
  obtain ⟨⟨es, nT, oR, vs, nO, kvs, T, h1, h2⟩, nd, rng, lms, bufs, mks, o1, o2, o3, o4, o5⟩ := S
  refine ⟨⟨es, nT, oR, vs, nO, kvs, ⟨k _ T.hT ni_inst, k _ T.hdT ni_dict, T.D, k _ T.hR (ni_isD (isD_of T.hRd)), T.lo, T.hRd, k _ T.hO ni_list, T.hI, T.ap⟩, h1, h2⟩, nd, rng, lms, fun n hn => ?_, fun n h1 h2 => ?_, o1, o2, o3, o4, o5⟩
  · obtain ⟨b1, ⟨es1, n1, b2, b2'⟩, b3, ⟨es2, n2, b4, b4'⟩, ⟨vs, n3, b5, b5'⟩, b6, ⟨es3, n4, b7, b7'⟩, ⟨o, b8, b8'⟩, lo, ord⟩ := bufs n hn
    exact ⟨k _ b1 ni_inst, ⟨es1, n1, k _ b2 ni_dict, b2'⟩, k _ b3 ni_inst, ⟨es2, n2, k _ b4 ni_dict, b4'⟩, ⟨vs, n3, k _ b5 ni_list, b5'⟩, k _ b6 ni_inst, ⟨es3, n4, k _ b7 ni_dict, b7'⟩, ⟨o, k _ b8 (ni_isD (isD_of b8')), b8'⟩, lo, ord⟩
  · obtain ⟨b1, ⟨es1, n1, b2, b2'⟩, ord⟩ := mks n h1 h2
    exact ⟨k _ b1 ni_inst, ⟨es1, n1, k _ b2 ni_dict, b2'⟩, ord⟩
theorem LawN.but (H : LawN w K L DK t0 O tt ML SM OL lb ns nm mk news) (k : ∀ p ∈ news, NI p.2 ∨ p.1 = 525 → p ∈ X) : LawN w [] L DK t0 O tt ML SM OL lb ns nm mk X := by
  obtain ⟨⟨dvs, nD, ds, d1, d2, d3⟩, ⟨svs, sn, s1, s2⟩, ⟨oT, tks, t1, t2, t3, t5, t4⟩, ⟨mvs, nM, a1, a2, a3⟩, ⟨ovs, on, o1, o2, o3, o4⟩, ⟨ob1, b1, b2⟩, ⟨ob5, b5, b6⟩, cel, ⟨ps, p1, p2, p3, p4⟩⟩ := H
  refine ⟨⟨dvs, nD, ds, k _ d1 (.inl ni_list), d2, d3⟩, ⟨svs, sn, k _ s1 (.inl ni_list), s2⟩, ⟨oT, tks, k _ t1 (.inl (ni_isD (isD_of t2))), t2, t3, t5, t4⟩, ⟨mvs, nM, k _ a1 (.inl ni_list), a2, fun v hv => ?_⟩, ⟨ovs, on, k _ o1 (.inl ni_list), o2, o3, o4⟩, ⟨ob1, k _ b1 (.inl (ni_cell b2)), b2⟩, ⟨ob5, k _ b5 (.inl (ni_cell b6)), b6⟩, fun x hx => ?_, ⟨ps, k _ p1 (.inr rfl), p2, fun pos => ?_, fun p hp => nomatch hp⟩⟩
  · obtain ⟨ti, n, t, e1, e2, e3, e4⟩ := a3 v hv
    exact ⟨ti, n, t, e1, e2, k _ e3 (.inl fun _ _ _ h => nomatch h), e4⟩
  · obtain ⟨o, v, q1, q2⟩ := cel x hx
    exact ⟨o, v, k _ q1 (.inl (ni_cell q2)), q2⟩
  · rcases p3 pos with q | ⟨c', oc, vs, t, q1, q2, q3, q4, q5⟩
    · exact .inl q
    · refine .inr ⟨c', oc, vs, t, q1, k _ q2 (.inl fun x1 x2 x3 h => ?_), q3, q4, q5⟩
      rw [q3] at h
      injection h with h
      rw [h] at q4
      simp [rawInt] at q4
theorem law_own {own nx : List (Addr × Obj)} (C : Chain L DK dT t0 R O tt ML SM) {OL : Addr} (H : LawS w [] L DK t0 dT R O tt ML SM OL lb lb ns nm mk ns nm c bf mk nx) (ho : ∀ p ∈ own, LtA SM p.1 ∧ ¬ IsD p.2) : LawS w own L DK t0 dT R O tt ML SM OL lb lb ns nm mk ns nm c bf mk (own ++ nx) := by
  have H1 := law_sub (X := own ++ nx) C H fun p hp => List.mem_append_right _ hp
  obtain ⟨⟨a1, a2, a3, a4, a5, a6, a7, a8, ps, p1, p2, p3, p4⟩, S⟩ := H1
  exact ⟨⟨a1, a2, a3, a4, a5, a6, a7, a8, ps, p1, p2, p3, fun p hp => ⟨List.mem_append_left _ hp, ho p hp⟩⟩, S⟩
end
section
local macro_rules | `(tactic| walk_at "ne") => alts [side0 'a', sub `Ne.symm "a", sub `Nat.ne_of_lt "a", sub `Nat.ne_of_gt "a", sub `ne_lt "aa", sub `ne_gt "aa", sub `neN "o", sub `ne_lt2 "aaa", sub `ne_gt2 "aaa"]
local macro_rules | `(tactic| walk_at "setAttr ref") => lnI `setA "AAamniiiilz"
section
local macro_rules | `(tactic| walk_at "call ref") => stops [359]
local macro_rules | `(tactic| walk_at "setItem ref") => lnI `dict_setA "@AamaKz"
local macro_rules | `(tactic| walk_at "compareOp IsNot ref ref") => ln `isnot_news "ammas"
section
local macro_rules | `(tactic| k_enter) => enterT `code_def "AAAAArrbiivfh?rrrd" "fghabcdeijklrmopq"
section
variable {w : World} {loose : List Str} {mean : ExcName → Option Value} {mg mb : Str → Option Value} {dp un : Nat} {gd : Option (List Code)} {cn : Str} {cs : Scope} {a : Addr} {ccd : Value} {cl : List (Str × Addr)} {outer : List Env} {A₀ : Around} {base h₀ : Heap} {L : Addr} {m : Str → Option Value} {news : List (Addr × Obj)} {s : Shared} {Q E : Value → Shared → Prop}
  {t0 dT R O : Addr} {es : List DictEntry} {nT : Nat} {oR : Obj} {vs : List Value} {nO : Nat} {c l k : Int} {kvs : List (Int × Value)} {ns : List Int}
theorem marker_spec (B : Below A₀ base outer h₀) (F : Fr h₀ L s.heap m) (X : (heapK w.params).In h₀) (N : News h₀ L s.heap news) (T : Top topProg loose mean mg mb h₀) (hk : cs.kind = .function) (hdp : dp + 20 < recursionLimit) (hu : un + 100 < cLine) (S : Tbl w news t0 dT R O es nT oR vs nO c l k kvs ns) {A : BA} {num : Int} {nm : Str} (hA : BufO w news A num nm true []) (hlt : LtA dT A.db) {tp : Tok}
    (hq : ∀ (M : MA) h' tk' news2 es1 n1 om ed nd, TabD es1 R O c l (k + 1) → om.IsDictOf (IK w) [(k + 1, .ref M.mi)] → MkD ed (k + 1) (.ref A.b) 1 → LtA M.dm M.mi → (∀ p ∈ news, LtA p.1 M.dm) → Fr h₀ L h' m → News h₀ L h' news2 → Ext [dT, A.mr] news news2 → (dT, dictOf es1 n1) ∈ news2 → (A.mr, om) ∈ news2 → (M.mi, instObj 185 M.dm) ∈ news2 → (M.dm, dictOf ed nd) ∈ news2 → Q (.ref M.mi) { s with heap := h', toks := tk' }) :
    wpAny (model PySem.Challenge.pw_np0064_01 w) (ktrTop dp un gd cn cs L a ccd cl outer) (call (.ref 487) [.ref t0, .ref A.b, .int 1 tp, .bool false]) Q E s := by
  obtain ⟨n1, n2, n3, n4, n5⟩ := S.apart N
  have n6 : R ≠ dT := S.ap
  have S' := S
  obtain ⟨hT, hdT, D, hR, lo, hRd, hO, hI, _⟩ := S
  obtain ⟨tl, g3⟩ := D.mark
  have hes := D.len
  have gm : getL "new_marker" es = some none := D.other _ (by decide)
  obtain ⟨b1, ⟨eb, nb, b2, bD⟩, b3, ⟨etx, ntx, b4, tD⟩, ⟨ces, nce, b5, b5'⟩, b6, ⟨ems, nms, b7, mD⟩, ⟨omr, b8, b8'⟩, lo2, o1, o2, o3, o4, o5, o6, o7⟩ := hA
  have q1 := bD.text
  have q2 := bD.markers
  have q3 := bD.size
  have q4 := tD.cells
  obtain ⟨_, q5⟩ := tD.gs
  obtain ⟨_, q6⟩ := tD.ge
  have q7 := tD.size
  have q8 := mD.rows
  have q9 := mD.other "put" (by decide)
  have t1 := Nat.lt_trans (show @LT.lt Nat _ dT A.db from hlt) o1
  have t2 := Nat.lt_trans t1 o2
  have t3 := Nat.lt_trans t2 o3
  have t4 := Nat.lt_trans t3 o4
  have t5 := Nat.lt_trans t4 o5
  have t6 := Nat.lt_trans t5 o6
  have a8 : A.mr ≠ dT := Nat.ne_of_gt (Nat.lt_trans t6 o7)
  have a1 : A.b ≠ dT := Nat.ne_of_gt t1
  have a2 : A.db ≠ dT := Nat.ne_of_gt hlt
  have a3 : A.dtx ≠ dT := Nat.ne_of_gt t2
  have a4 : A.tx ≠ dT := Nat.ne_of_gt t3
  have a5 : A.ce ≠ dT := Nat.ne_of_gt t4
  have a6 : A.dms ≠ dT := Nat.ne_of_gt t5
  have a7 : A.ms ≠ dT := Nat.ne_of_gt t6
  refine wpAny_call ?_
  k_dflt k_enter
  k_steps
  rename ∀ q ∈ news, _ => lN
  rename News h₀ L _ _ => kN
  rename ∀ y, y ≠ Str.ofString "last_marker" → _ => go1
  rename ∀ y, y ≠ Str.ofString "position" → _ => go2
  rename getL (Str.ofString "position") _ = _ => gs2
  have gs3 := pos_one (p := 1) gs2 (by simp [b5'])
  refine mk_end kN lN (by assumption) (by assumption) (lN _ b8) a8 ?_
  intro news2 N2 hx m1 m2 m3 m4
  refine hq ⟨_, _⟩ _ _ _ _ _ _ _ _ (D.mark_of (by assumption) go1 (by assumption)) (by assumption) (MkD.of ⟨_, rfl⟩ rfl rfl gs3 go2 (by assumption)) (by assumption) lN (by assumption) N2 hx m1 m2 m3 m4
end
section
local macro_rules | `(tactic| walk_at "call builtin:sorted") => lnLt "call ( Value.builtin #sorted ) ( List.cons ( Value.ref _ ) List.nil )" (fill `sorted_dictA "rAamaaz") 12 8
section
variable {w : World} {loose : List Str} {mean : ExcName → Option Value} {mg mb : Str → Option Value} {dp un : Nat} {gd : Option (List Code)} {cn : Str} {cs : Scope} {a : Addr} {ccd : Value} {cl : List (Str × Addr)} {outer : List Env} {A₀ : Around} {base h₀ : Heap} {L : Addr} {m : Str → Option Value} {news : List (Addr × Obj)} {s : Shared} {Q E : Value → Shared → Prop}
  {t0 dT R O : Addr} {es : List DictEntry} {nT : Nat} {oR : Obj} {vs : List Value} {nO : Nat} {c l k : Int} {kvs : List (Int × Value)} {ns : List Int}
theorem numbers_spec (B : Below A₀ base outer h₀) (F : Fr h₀ L s.heap m) (X : (heapK w.params).In h₀) (N : News h₀ L s.heap news) (T : Top topProg loose mean mg mb h₀) (hk : cs.kind = .function) (hdp : dp + 20 < recursionLimit) (hu : un + 100 < cLine) {A : BA} {num : Int} {ems : List DictEntry} {nms : Nat} {omr : Obj} {v : Value} (hms : (A.ms, instObj 253 A.dms) ∈ news) (hdms : (A.dms, dictOf ems nms) ∈ news) (mD : MsD ems A.mr) (hmr : (A.mr, omr) ∈ news) (hd8 : omr.IsDictOf (IK w) [(num, v)]) (lo : (A.mr == sysModules) = false)
    (hq : ∀ D t e h' tk', Fr h₀ L h' m → News h₀ L h' ((D, listOf #[.int num t] e) :: news) → (∀ p ∈ news, LtA p.1 D) → Q (.ref D) { s with heap := h', toks := tk' }) :
    wpAny (model PySem.Challenge.pw_np0064_01 w) (ktrTop dp un gd cn cs L a ccd cl outer) (call (.ref 208) [.ref A.ms]) Q E s := by
  have q8 := mD.rows
  refine wpAny_call ?_
  k_dflt k_enter
  k_steps
  rename List.Perm _ _ => hP
  rename IntsAre _ _ => hI
  have e1 := List.perm_singleton.mp hP
  subst e1
  cases hI with
  | cons i t hI =>
    cases hI
    rename ∀ q ∈ news, _ => lN
    exact hq _ _ _ _ _ (by assumption) (by assumption) lN
end
section
local macro_rules | `(tactic| walk_at "call ref") => stops [208]
local macro_rules | `(tactic| walk_at "GenPost") => dsT `GenPost
local macro_rules | `(tactic| walk_at "call builtin:list.append") => lnI `list_append0 "Aam"
section
variable {w : World} {loose : List Str} {mean : ExcName → Option Value} {mg mb : Str → Option Value} {dp un : Nat} {gd : Option (List Code)} {cn : Str} {cs : Scope} {a : Addr} {ccd : Value} {cl : List (Str × Addr)} {outer : List Env} {A₀ : Around} {base h₀ : Heap} {L : Addr} {m : Str → Option Value} {news : List (Addr × Obj)} {s : Shared} {Q E : Value → Shared → Prop}
  {t0 dT R O : Addr} {es : List DictEntry} {nT : Nat} {oR : Obj} {vs : List Value} {nO : Nat} {c l k : Int} {kvs : List (Int × Value)} {ns : List Int}
theorem within_spec (B : Below A₀ base outer h₀) (F : Fr h₀ L s.heap m) (X : (heapK w.params).In h₀) (N : News h₀ L s.heap news) (T : Top topProg loose mean mg mb h₀) (hk : cs.kind = .function) (hdp : dp + 25 < recursionLimit) (hu : un + 150 < cLine) {A : BA} {num : Int} {ems : List DictEntry} {nms : Nat} {omr : Obj} {M : MA} {em : List DictEntry} {nmk : Nat} {bv : Value} (hms : (A.ms, instObj 253 A.dms) ∈ news) (hdms : (A.dms, dictOf ems nms) ∈ news) (mD : MsD ems A.mr) (hmr : (A.mr, omr) ∈ news) (hd8 : omr.IsDictOf (IK w) [(num, .ref M.mi)]) (lo : (A.mr == sysModules) = false)
    (hmi : (M.mi, instObj 185 M.dm) ∈ news) (hmd : (M.dm, dictOf em nmk) ∈ news) (kD : MkD em num bv 1) {t1 t2 : Tok} {e2 : Int} (he2 : e2 = 1)
    (hq : ∀ D e h' tk', Fr h₀ L h' m → News h₀ L h' ((D, listOf #[.ref M.mi] e) :: news) → (∀ p ∈ news, LtA p.1 D) → Q (.ref D) { s with heap := h', toks := tk' }) :
    wpAny (model PySem.Challenge.pw_np0064_01 w) (ktrTop dp un gd cn cs L a ccd cl outer) (call (.ref 229) [.ref A.ms, .int 1 t1, .int e2 t2]) Q E s := by
  subst he2
  have q8 := mD.rows
  have q9 := mD.other "numbers" (by decide)
  obtain ⟨_, q10⟩ := kD.pos
  have hv : valueAt [(num, Value.ref M.mi)] num = some (.ref M.mi) := by simp [valueAt]
  refine wpAny_call ?_
  k_dflt k_enter
  k_steps
  refine stopE (numbers_spec (by assumption) (by assumption) (by assumption) (by assumption) (by assumption) rfl (dlt (j := 21) hdp (by decide)) (dlt (j := 103) hu (by decide)) (by k_mem) (by k_mem) mD (by k_mem) hd8 lo ?_)
  intro D t e h' tk' F1 N1 l1
  k_steps
  rename Fr _ _ _ _ => F7
  rename News _ _ _ _ => N7
  refine iter_one rfl (.head _) F7 N7 ?_
  intro ia own h5 tk5 hia hown F5 N5
  clear F7 N7
  k_steps
  rename News _ _ _ _ => N8
  refine .intro _ (by assumption) N8 (put_own hown ?_ ?_) (fun p hp => ⟨?_, put_app p hp⟩) ?_
  · exact Nat.ne_of_gt (hia _ (.tail _ (.head _)))
  · exact Nat.ne_of_gt (l1 _ (.head _))
  · exact put_lt hia (.tail _ (.head _)) p hp
  intro h9 tk9 F9 N9
  clear N8
  k_steps
  rename News h₀ L _ _ => kN
  rename ∀ p ∈ news, _ => lN
  refine news_within kN lN fun kN2 => ?_
  exact hq _ _ _ _ (by assumption) kN2 lN
end
end
end
section
local macro_rules | `(tactic| walk_at "compareOp In") => lnP "compareOp CmpOp.In ( Value.int _ _ ) ( Value.ref _ )" (fill `kda_in "@amaaKTa")
local macro_rules | `(tactic| walk_at "call builtin:dict.pop") => lnI `dict_popA "@AamaKRaz"
section
variable {w : World} {loose : List Str} {mean : ExcName → Option Value} {mg mb : Str → Option Value} {dp un : Nat} {gd : Option (List Code)} {cn : Str} {cs : Scope} {a : Addr} {ccd : Value} {cl : List (Str × Addr)} {outer : List Env} {A₀ : Around} {base h₀ : Heap} {L : Addr} {m : Str → Option Value} {news : List (Addr × Obj)} {s : Shared} {Q E : Value → Shared → Prop}
  {t0 dT R O : Addr} {es : List DictEntry} {nT : Nat} {oR : Obj} {vs : List Value} {nO : Nat} {c l k : Int} {kvs : List (Int × Value)} {ns : List Int}
theorem unmark_spec (B : Below A₀ base outer h₀) (F : Fr h₀ L s.heap m) (X : (heapK w.params).In h₀) (N : News h₀ L s.heap news) (T : Top topProg loose mean mg mb h₀) (hk : cs.kind = .function) (hdp : dp + 20 < recursionLimit) (hu : un + 100 < cLine) {A : BA} {num : Int} {eb ems : List DictEntry} {nb nms : Nat} {omr : Obj} {M : MA} {em : List DictEntry} {nmk : Nat} (hb : (A.b, instObj 359 A.db) ∈ news) (hdb : (A.db, dictOf eb nb) ∈ news) (q2 : getL "markers" eb = some (some (.ref A.ms))) (hms : (A.ms, instObj 253 A.dms) ∈ news) (hdms : (A.dms, dictOf ems nms) ∈ news) (mD : MsD ems A.mr) (hmr : (A.mr, omr) ∈ news) (hd8 : omr.IsDictOf (IK w) [(num, .ref M.mi)]) (lo : (A.mr == sysModules) = false)
    (hmi : (M.mi, instObj 185 M.dm) ∈ news) (hmd : (M.dm, dictOf em nmk) ∈ news) (kD : MkD em num (.ref A.b) 1) (hlm : LtA A.mr M.dm) (ok : LtA M.dm M.mi) (hlb : LtA A.b A.mr) {t1 : Tok}
    (hq : ∀ h' tk' news2 om ed nd, Fr h₀ L h' m → News h₀ L h' news2 → Ext [M.dm, M.dm, A.mr] news news2 → (A.mr, om) ∈ news2 → (M.dm, dictOf ed nd) ∈ news2 → MkD ed num .none 0 → Q .none { s with heap := h', toks := tk' }) :
    wpAny (model PySem.Challenge.pw_np0064_01 w) (ktrTop dp un gd cn cs L a ccd cl outer) (call (.ref 388) [.ref M.mi, .none, .int 0 t1]) Q E s := by
  simp only [LtA] at hlm ok hlb
  have q8 := mD.rows
  have q9 := mD.other "drop" (by decide)
  have q10 := kD.buffer
  obtain ⟨_, q11⟩ := kD.number
  obtain ⟨_, q12⟩ := kD.pos
  have hek := kD.len
  have hv : valueAt [(num, Value.ref M.mi)] num = some (.ref M.mi) := by simp [valueAt]
  have hvs : (valueAt [(num, Value.ref M.mi)] num).isSome = true := by rw [hv]; rfl
  refine wpAny_call ?_
  k_dflt k_enter
  k_steps
  rename getL (Str.ofString "buffer") _ = _ => ga
  rename ∀ y, y ≠ Str.ofString "buffer" → _ => go1
  rename _ = em.length => gl1
  have r1 := (go1 "position" (by decide)).trans q12
  have r2 := (go1 "number" (by decide)).trans q11
  k_steps
  rename getL (Str.ofString "position") _ = some (some (Value.int 0 _)) => gb
  rename ∀ y, y ≠ Str.ofString "position" → _ => go2
  rename News h₀ L _ _ => kN
  exact hq _ _ _ _ _ _ (by assumption) kN (Ext.put (Ext.put (Ext.put (Ext.refl _)))) (mem_put_ne (mem_put_ne (mem_put_self _ _ _) (Nat.ne_of_lt hlm)) (Nat.ne_of_lt hlm)) (mem_put_self _ _ _) (MkD.of ⟨_, r2⟩ ga (gl1.trans hek) ⟨_, gb⟩ go2 (by assumption))
end
end
section
local macro_rules | `(tactic| walk_at "call ref") => stops [229, 388]
local macro_rules | `(tactic| walk_at "GenPost") => dsT `GenPost
local macro_rules | `(tactic| walk_at "call builtin:dict.pop") => lnI `dict_popA "@AamaKRaz"
section
variable {w : World} {loose : List Str} {mean : ExcName → Option Value} {mg mb : Str → Option Value} {dp un : Nat} {gd : Option (List Code)} {cn : Str} {cs : Scope} {a : Addr} {ccd : Value} {cl : List (Str × Addr)} {outer : List Env} {A₀ : Around} {base h₀ : Heap} {L : Addr} {m : Str → Option Value} {news : List (Addr × Obj)} {s : Shared} {Q E : Value → Shared → Prop}
  {t0 dT R O : Addr} {es : List DictEntry} {nT : Nat} {oR : Obj} {vs : List Value} {nO : Nat} {c l k : Int} {kvs : List (Int × Value)} {ns : List Int}
theorem kill_spec (B : Below A₀ base outer h₀) (F : Fr h₀ L s.heap m) (X : (heapK w.params).In h₀) (N : News h₀ L s.heap news) (T : Top topProg loose mean mg mb h₀) (hk : cs.kind = .function) (hdp : dp + 30 < recursionLimit) (hu : un + 200 < cLine) (S : Tbl w news t0 dT R O es nT oR vs nO c l k kvs ns) (bf : Int → Addr) (nm : Int → Str) (hB : Bufs news kvs ns bf nm) (hz : ns.length ≤ 20) (hzk : kvs.length ≤ 20)
    {A : BA} {M : MA} {num : Int} {nmA : Str} (hA : BufO w news A num nmA true [(num, .ref M.mi)]) (hM : MkO news M num (.ref A.b) 1) (hm : num ∈ ns) (hv : valueAt kvs num = some (.ref A.b)) (hlt : LtA t0 A.db ∧ LtA dT A.db ∧ LtA R A.db ∧ LtA O A.db) (hlm : LtA A.mr M.dm)
    (hap : ∀ n ∈ ns, n ≠ num → ∃ db es k, (bf n, instObj 359 db) ∈ news ∧ (db, dictOf es k) ∈ news ∧ LiveD es n (nm n) ∧ db ≠ A.db ∧ db ≠ A.mr ∧ db ≠ M.dm ∧ db ≠ R ∧ db ≠ dT)
    (hq : ∀ h' tk' news2 es2 n2 oR' vs' nO' ed nd eb' nb', TabD es2 R O (if c = num then (ns.find? fun n => n != num && !(Txt.startswith (nm n) (Str.ofString " "))).getD 0 else c) l k → oR'.IsDictOf (IK w) (without kvs num) → IntsAre vs' (ns.erase num) → MkD ed num .none 0 → getL "is_live" eb' = some (some (.bool false)) → (∃ t, getL "number" eb' = some (some (.int num t))) → Fr h₀ L h' m → News h₀ L h' news2 → Ext [dT, O, R, A.db, A.mr, M.dm] news news2 → (dT, dictOf es2 n2) ∈ news2 → (R, oR') ∈ news2 → (O, listOf vs'.toArray nO') ∈ news2 → (M.dm, dictOf ed nd) ∈ news2 → (A.db, dictOf eb' nb') ∈ news2 →
      Q (findV bf (ns.find? fun n => n != num && !(Txt.startswith (nm n) (Str.ofString " ")))) { s with heap := h', toks := tk' }) :
    wpAny (model PySem.Challenge.pw_np0064_01 w) (ktrTop dp un gd cn cs L a ccd cl outer) (call (.ref 473) [.ref t0, .ref A.b]) Q E s := by
  obtain ⟨n1, n2, n3, n4, n5⟩ := S.apart N
  have n6 : R ≠ dT := S.ap
  have S' := S
  have hA' := hA
  have hM' := hM
  have hLive : LiveBuf news A.b num nmA := let ⟨es, k, a, b⟩ := hA.hdb; ⟨_, es, k, hA.hb, a, b.number, b.name, b.live⟩
  obtain ⟨hT, hdT, D, hR, lo, hRd, hO, hI, _⟩ := S
  have g1 := D.rows
  have g2 := D.order
  obtain ⟨tl, g3⟩ := D.current
  have hes := D.len
  have hvl := hI.length
  have gm : getL "other" es = some none := D.other _ (by decide)
  obtain ⟨b1, ⟨eb, nb, b2, bD⟩, b3, ⟨etx, ntx, b4, tD⟩, ⟨ces, nce, b5, b5'⟩, b6, ⟨ems, nms, b7, mD⟩, ⟨omr, b8, b8'⟩, lo2, o1, o2, o3, o4, o5, o6, o7⟩ := hA
  obtain ⟨c1, ⟨ek0, nk, c2, kD⟩, ok⟩ := hM
  obtain ⟨lt1, lt2, lt3, lt4⟩ := hlt
  simp only [LtA] at lt1 lt2 lt3 lt4 hlm ok
  have v1 := Nat.lt_trans o1 o2
  have v2 := Nat.lt_trans v1 o3
  have v3 := Nat.lt_trans v2 o4
  have v4 := Nat.lt_trans v3 o5
  have v5 := Nat.lt_trans v4 o6
  have v6 := Nat.lt_trans v5 o7
  have v7 := Nat.lt_trans v6 hlm
  have v8 := Nat.lt_trans v7 ok
  have v9 := Nat.lt_trans o2 (Nat.lt_trans o3 (Nat.lt_trans o4 (Nat.lt_trans o5 (Nat.lt_trans o6 o7))))
  have q0 := bD.live
  obtain ⟨_, q00⟩ := bD.number
  have heb := bD.len
  have q1 := bD.text
  have q2 := bD.markers
  have q3 := bD.size
  have q4 := tD.cells
  obtain ⟨_, q5⟩ := tD.gs
  obtain ⟨_, q6⟩ := tD.ge
  have q7 := tD.size
  have q8 := mD.rows
  have q9 := mD.other "within" (by decide)
  have q10 := kD.buffer
  obtain ⟨_, q11⟩ := kD.number
  obtain ⟨_, q12⟩ := kD.pos
  have hek := kD.len
  refine wpAny_call ?_
  k_dflt k_enter
  k_steps
  refine stopE (other_spec (by assumption) (by assumption) (by assumption) (by assumption) (by assumption) rfl (dlt (j := 6) hdp (by decide)) (dlt (j := 23) hu (by decide)) S' bf nm hB hLive ?_)
  rintro r h1 tk1 rfl F1 N1
  k_steps
  rename getL (Str.ofString "is_live") _ = _ => ga
  rename ∀ y, y ≠ Str.ofString "is_live" → _ => go1
  have r0 := (go1 "number" (by decide)).trans q00
  have r1 := (go1 "text" (by decide)).trans q1
  have r2 := (go1 "markers" (by decide)).trans q2
  have r3 := (go1 "size" (by decide)).trans q3
  k_steps
  refine stopE (within_spec (by assumption) (by assumption) (by assumption) (by assumption) (by assumption) rfl (dlt (j := 26) hdp (by decide)) (dlt (j := 153) hu (by decide)) (by k_mem) (by k_mem) mD (by k_mem) b8' lo2 (by k_mem) (by k_mem) kD (by simp [b5']) ?_)
  intro D2 e2 h2 tk2 F2 N2 l2
  k_steps
  rename Fr _ _ _ _ => F7
  rename News _ _ _ _ => N7
  refine iter_one rfl (.head _) F7 N7 ?_
  intro ia own h5 tk5 hia hown F5 N5
  clear F7 N7
  k_steps
  refine stopE (unmark_spec (by assumption) (by assumption) (by assumption) (by assumption) (by assumption) rfl (dlt (j := 21) hdp (by decide)) (dlt (j := 103) hu (by decide)) (by k_mem) (by k_mem) r2 (by k_mem) (by k_mem) mD (by k_mem) b8' lo2 (by k_mem) (by k_mem) kD hlm ok ?_ ?_)
  · exact v9
  intro h6 tk6 news2 om ed nd F6 N6 hx6 m1 m2 kD6
  k_steps
  have w1 : LtA M.dm D2 := l2 _ (mem_put_ne c2 (Nat.ne_of_gt (by omega)))
  have w2 : LtA A.mr D2 := l2 _ (mem_put_ne b8 (Nat.ne_of_gt (by omega)))
  have w3 : LtA D2 ia := hia _ (.head _)
  simp only [LtA] at w1 w2 w3
  refine .intro _ F6 N6 (fun p hp => hx6 p (List.mem_append_left _ hp) fun hm => ?_) off_ne ?_
  · simp only [List.mem_cons, List.not_mem_nil, or_false] at hm
    rcases hown p hp with e | e <;> rcases hm with z | z | z <;> (rw [e] at z; first | exact Nat.ne_of_gt (by assumption) z | exact Nat.ne_of_gt (Nat.lt_trans (by assumption) w3) z | exact Nat.ne_of_gt (by omega) z)
  have hx9 := loop_ext hx6 hia
  have m1' := mem_off m1 (Nat.ne_of_lt (Nat.lt_trans w2 w3))
  have m2' := mem_off m2 (Nat.ne_of_lt (Nat.lt_trans w1 w3))
  clear m1 m2 hx6 N6 F6 N5 F5
  generalize (news2.filter fun p => p.1 != ia) = news3 at hx9 m1' m2' ⊢
  intro h9 tk9 F9 N9
  have up : ∀ p ∈ news, p.1 ≠ A.db → p.1 ≠ A.mr → p.1 ≠ M.dm → p ∈ news3 := fun p hp a b c => hx9 p (mem_put_ne hp a) (by simp [b, c])
  have p1 : (t0, instObj 490 dT) ∈ news3 := up _ hT (Nat.ne_of_lt lt1) (Nat.ne_of_lt (Nat.lt_trans lt1 v6)) (Nat.ne_of_lt (Nat.lt_trans lt1 v7))
  have p2 : (dT, dictOf es nT) ∈ news3 := up _ hdT (Nat.ne_of_lt lt2) (Nat.ne_of_lt (Nat.lt_trans lt2 v6)) (Nat.ne_of_lt (Nat.lt_trans lt2 v7))
  have p3 : (R, oR) ∈ news3 := up _ hR (Nat.ne_of_lt lt3) (Nat.ne_of_lt (Nat.lt_trans lt3 v6)) (Nat.ne_of_lt (Nat.lt_trans lt3 v7))
  have p4 : (O, listOf vs.toArray nO) ∈ news3 := up _ hO (Nat.ne_of_lt lt4) (Nat.ne_of_lt (Nat.lt_trans lt4 v6)) (Nat.ne_of_lt (Nat.lt_trans lt4 v7))
  have p5 : (A.b, instObj 359 A.db) ∈ news3 := up _ b1 (Nat.ne_of_gt o1) (Nat.ne_of_lt v9) (Nat.ne_of_lt (Nat.lt_trans v9 hlm))
  have p6 := hx9 _ (mem_put_self _ _ _) (by simp only [List.mem_cons, List.not_mem_nil, or_false]; rintro (z | z | z) <;> first | exact absurd z (Nat.ne_of_lt v6) | exact absurd z (Nat.ne_of_lt v7) | exact absurd z (Nat.ne_of_lt (by omega)))
  have d1 : A.b ≠ R := Nat.ne_of_gt (Nat.lt_trans lt3 o1)
  have d2 : A.db ≠ R := Nat.ne_of_gt lt3
  have d3 : A.b ≠ O := Nat.ne_of_gt (Nat.lt_trans lt4 o1)
  have d4 : A.db ≠ O := Nat.ne_of_gt lt4
  have hvl9 := hI.length
  have hx3 : Ext [A.db, A.mr, M.dm] news news3 := fun p hp hm => by
    simp only [List.mem_cons, List.not_mem_nil, or_false, not_or] at hm
    exact up p hp hm.1 hm.2.1 hm.2.2
  have e1 : M.dm ≠ dT := Nat.ne_of_gt (Nat.lt_trans lt2 v7)
  have e2 : M.dm ≠ O := Nat.ne_of_gt (Nat.lt_trans lt4 v7)
  have e3 : M.dm ≠ R := Nat.ne_of_gt (Nat.lt_trans lt3 v7)
  have e4 : A.db ≠ dT := Nat.ne_of_gt lt2
  cases hf : ns.find? (fun n => n != num && !(Txt.startswith (nm n) (Str.ofString " "))) with
  | none =>
    rw [hf] at F9 hq
    dsimp only [findV] at F9 hq
    k_steps
    · rename getL (Str.ofString "current") _ = some (some (Value.int 0 _)) => gc
      rename ∀ y, y ≠ Str.ofString "current" → _ => goc
      rename News h₀ L _ _ => kN
      obtain ⟨z1, z2, z3, z4, z5, z6⟩ := kill_pos hx3 n4 n5 n6 m2' p6 e1 e2 e3 e4 d4 d2
      exact hq _ _ _ _ _ _ _ _ _ _ _ _ (by rw [if_pos ‹c = num›]; exact D.current_of gc goc (by assumption)) (by assumption) (by assumption) kD6 ga ⟨_, r0⟩ (by assumption) kN z1 z2 z3 z4 z5 z6
    · rename News h₀ L _ _ => kN
      obtain ⟨z1, z2, z3, z4, z5, z6⟩ := kill_neg hx3 n4 n5 n6 p2 m2' p6 e2 e3 d4 d2
      exact hq _ _ _ _ _ _ _ _ _ _ _ _ (by rw [if_neg ‹¬ c = num›]; exact D) (by assumption) (by assumption) kD6 ga ⟨_, r0⟩ (by assumption) kN z1 z2 z3 z4 z5 z6
  | some n =>
    rw [hf] at F9 hq
    dsimp only [findV] at F9 hq
    have hnn : n ∈ ns ∧ n ≠ num := ⟨List.mem_of_find?_eq_some hf, fun e => by have := List.find?_some hf; simp [e] at this⟩
    obtain ⟨dn, en, kn, y1, y2, ⟨⟨_, y3⟩, _, _⟩, v1, v2, v3, v4, v5⟩ := hap n hnn.1 hnn.2
    have u1 : bf n ≠ A.db := ne_obj N y1 b2 (by simp)
    have u2 : bf n ≠ A.mr := ne_obj N y1 b8 (by rw [dictOf_cls b8']; simp)
    have u3 : bf n ≠ M.dm := ne_obj N y1 c2 (by simp)
    have u4 : bf n ≠ R := ne_obj N y1 hR (by rw [dictOf_cls hRd]; simp)
    have u5 : bf n ≠ O := ne_obj N y1 hO (by simp)
    have u6 : dn ≠ O := ne_obj N y2 hO (by simp)
    have y1' := up _ y1 u1 u2 u3
    have y2' := up _ y2 v1 v2 v3
    k_steps
    · rename getL (Str.ofString "current") _ = some (some (Value.int n _)) => gc
      rename ∀ y, y ≠ Str.ofString "current" → _ => goc
      rename News h₀ L _ _ => kN
      obtain ⟨z1, z2, z3, z4, z5, z6⟩ := kill_pos hx3 n4 n5 n6 m2' p6 e1 e2 e3 e4 d4 d2
      exact hq _ _ _ _ _ _ _ _ _ _ _ _ (by rw [if_pos ‹c = num›]; exact D.current_of gc goc (by assumption)) (by assumption) (by assumption) kD6 ga ⟨_, r0⟩ (by assumption) kN z1 z2 z3 z4 z5 z6
    · rename News h₀ L _ _ => kN
      obtain ⟨z1, z2, z3, z4, z5, z6⟩ := kill_neg hx3 n4 n5 n6 p2 m2' p6 e2 e3 d4 d2
      exact hq _ _ _ _ _ _ _ _ _ _ _ _ (by rw [if_neg ‹¬ c = num›]; exact D) (by assumption) (by assumption) kD6 ga ⟨_, r0⟩ (by assumption) kN z1 z2 z3 z4 z5 z6
end
section
local macro_rules | `(tactic| walk_at "exec While") => stopR
local macro_rules | `(tactic| walk_at "formatField str") => hereY [patY "formatField ( Value.str _ _ ) _", refN `SB.field_str [argY `hsz (lftY (idY `c)), lftY], caseY `c (side 'w'), introsY]
local macro_rules | `(tactic| walk_at "TurnEnd") => dsT `TurnEnd
local macro_rules | `(tactic| walk_at "call builtin:list.pop") => lnI `list_pop0A "Aamo"
local macro_rules | `(tactic| walk_at "setItem ref int") => hereY [patY "setItem ( Value.ref _ ) ( Value.int 0 _ ) ( Value.int _ _ )", dfltY (fill `list_set0A "Aamas"), introsY]
section
variable {w : World} {loose : List Str} {mean : ExcName → Option Value} {mg mb : Str → Option Value} {dp un : Nat} {gd : Option (List Code)} {cn : Str} {cs : Scope} {a : Addr} {ccd : Value} {cl : List (Str × Addr)} {outer : List Env} {A₀ : Around} {base h₀ : Heap} {L : Addr} {m : Str → Option Value} {news : List (Addr × Obj)} {s : Shared} {Q E : Value → Shared → Prop}
  {t0 dT R O : Addr} {es : List DictEntry} {nT : Nat} {oR : Obj} {vs : List Value} {nO : Nat} {c l k : Int} {kvs : List (Int × Value)} {ns : List Int}
theorem draw_spec (B : Below A₀ base outer h₀) (F : Fr h₀ L s.heap m) (X : (heapK w.params).In h₀) (N : News h₀ L s.heap news) (T : Top topProg loose mean mg mb h₀) (hk : cs.kind = .function) (hdp : dp + 20 < recursionLimit) (hu : un + 100 < cLine) {D : Addr} {ds : List Int} {nD : Nat} (hD : (D, listOf vs.toArray nD) ∈ news) (hI : IntsAre vs ds) (hp : Deck ds) {many : Int} {tm : Tok} (hm1 : 1 ≤ many) (hm2 : many ≤ 20)
    (hq : ∀ r t h' tk' vs' ds' n', 0 ≤ r → r < many → IntsAre vs' ds' → Deck ds' → Fr h₀ L h' m → News h₀ L h' (put news D (listOf vs'.toArray n')) → Q (.int r t) { s with heap := h', toks := tk' }) :
    wpAny (model PySem.Challenge.pw_np0064_01 w) (ktrTop dp un gd cn cs L a ccd cl outer) (call (.ref 506) [.ref D, .int many tm]) Q E s := by
  refine wpAny_call ?_
  k_dflt k_enter
  k_steps
  rename Fr _ _ _ _ => F7
  rename News _ _ _ _ => N7
  refine stopE (while_deck (D := D) (by passes_own) F7 (put_same N7 hD) hI hp ?_)
  intro Rst vs ds n h2 tk2 hI hp F2 N2 rest
  clear F7 N7
  cases hI with
  | nil =>
    k_steps
    rename News h₀ L _ _ => kN
    exact hq _ _ _ _ [] [] _ (by decide) (by omega) .nil hp (by assumption) (nsub kN fun p hp => .tail _ (.tail _ hp))
  | cons d t hI =>
    rename_i vs ds
    have hlen := hI.length
    have hz2 := hp.2
    simp only [List.length_cons] at hz2
    have hI' := IntsAre.cons d t hI
    k_steps
    · rename decide (d :: ds = []) = true => hh
      simp at hh
    · rename News _ _ _ _ => kN
      exact rest _ _ _ _ _ (by simp) hI hp.tail (by assumption) (nsub kN (put_sub fun p hp hn => .tail _ (mem_put_ne hp hn)))
    · rename News h₀ L _ _ => kN
      have hd := fmod_in (hp.1 d (.head _)).1 hm1
      exact hq _ _ _ _ (_ :: vs) (_ :: ds) _ hd.1 hd.2 (.cons _ _ hI) (hp.div hm1) (by assumption) (nsub kN (put_sub fun p hp hn => .tail _ (.tail _ (mem_put_ne hp hn))))
end
end
end
end
section
local macro_rules | `(tactic| walk_at "call builtin:dict.pop") => lnI `dict_popA "@AamaKRaz"
local macro_rules | `(tactic| k_enter) => enterC `code_defC "AAAAArrbiiverD?rrr" "fghabcdeijklmnpqr"
local macro_rules | `(tactic| walk_at "eval ListComp") => lnP "eval ( Expr.ListComp _ ( List.cons ( Comprehension.mk _ _ List.nil _ ) List.nil ) _ _ ) _" (fill `LCg.ListComp_U "!AWdqdq?")
local macro_rules | `(tactic| walk_at "eval ListComp") => lnP "eval ( Expr.ListComp _ ( List.cons ( Comprehension.mk _ _ ( List.cons _ _ ) _ ) List.nil ) _ _ ) _" (fill `LCt.ListComp_T "!AWdqdq?")
local macro_rules | `(tactic| walk_at "CompSrc") => pure stopT
local macro_rules | `(tactic| walk_at "CompSrcT") => pure stopT
local macro_rules | `(tactic| walk_at "call builtin:len") => lnP "call ( Value.builtin #len ) ( List.cons ( Value.ref _ ) List.nil )" (fill `len_newsA "amao")
local macro_rules | `(tactic| walk_at "compareOp NotIn") => lnP "compareOp CmpOp.NotIn ( Value.str _ _ ) ( Value.ref _ )" (fill `notin_strsA "ama")
local macro_rules | `(tactic| walk_at "compareOp NotIn") => lnP "compareOp CmpOp.NotIn ( Value.int _ _ ) ( Value.ref _ )" (fill `notin_intsA "ama")
local macro_rules | `(tactic| walk_at "compareOp In") => lnP "compareOp CmpOp.In ( Value.str _ _ ) ( Value.ref _ )" (fill `in_strsA "ama")
section
local macro_rules | `(tactic| walk_at "call ref") => stops [229, 388]
local macro_rules | `(tactic| walk_at "GenPost") => dsT `GenPost
local macro_rules | `(tactic| walk_at "call builtin:list.pop") => lnI `list_pop0A "Aamo"
local macro_rules | `(tactic| walk_at "setItem ref int") => hereY [patY "setItem ( Value.ref _ ) ( Value.int 0 _ ) ( Value.int _ _ )", dfltY (fill `list_set0A "Aamas"), introsY]
section
variable {w : World} {loose : List Str} {mean : ExcName → Option Value} {mg mb : Str → Option Value} {dp un : Nat} {gd : Option (List Code)} {cn : Str} {cs : Scope} {a : Addr} {ccd : Value} {cl : List (Str × Addr)} {outer : List Env} {A₀ : Around} {base h₀ : Heap} {L : Addr} {m : Str → Option Value} {news : List (Addr × Obj)} {s : Shared} {Q E : Value → Shared → Prop}
  {t0 dT R O : Addr} {es : List DictEntry} {nT : Nat} {oR : Obj} {vs : List Value} {nO : Nat} {c l k : Int} {kvs : List (Int × Value)} {ns : List Int}
theorem lfresh_spec (B : Below A₀ base outer h₀) (F : Fr h₀ L s.heap m) (X : (heapK w.params).In h₀) (N : News h₀ L s.heap news) (T : Top topProg loose mean mg mb h₀) (hk : cs.kind = .function) (hdp : dp + 20 < recursionLimit) (hu : un + 100 < cLine) {US : Addr} {us : List Str} {nU : Nat} (hU : (US, listOf vs.toArray nU) ∈ news) (hS : StrsAre vs us) (hz : us.length ≤ 10) {q g : Str} {tq tg : Tok} (hql : q.length ≤ 100) {r : Str} {rest : List Str} (hr : (q :: (rangeKs 2 (us.length + 2)).map (candS q)).filter (fun o => o == g || !us.any (· == o)) = r :: rest)
    (hq : ∀ t h' tk', Fr h₀ L h' m → News h₀ L h' news → Q (.str r t) { s with heap := h', toks := tk' }) :
    wpAny (model PySem.Challenge.pw_np0064_01 w) (ktrTop dp un gd cn cs L a ccd cl outer) (call (.ref 518) [.ref US, .str q tq, .str g tg]) Q E s := by
  have hvl := hS.length
  refine wpAny_call ?_
  k_dflt k_enter
  k_steps
  refine stopE (LCg.CompSrc.range (n := us.length + 2) rfl (by assumption) (by assumption) (by assumption) ?hsm ?hrs ?hsz ?_)
  case hsm => exact small_one (by decide) (by decide) (by omega) (by omega)
  case hrs => rw [rangeSize_nat]; omega
  case hsz => rw [sizeLine_eq]; omega
  intro g'
  refine compU (as := rangeKs 2 (us.length + 2)) isI isS (candS q) (rangeKs_length _ _) (fun i v hi hv => ?_) ?_ ?_
  · obtain ⟨t, e⟩ := hv
    exact ⟨2 + (i : Int), by simp [rangeKs, hi], t, e⟩
  · rintro k v I oI C oC D m₂ ys h tk E' hk ⟨t, rfl⟩ hC hx F' N' off ne
    obtain ⟨hk1, hk2⟩ := mem_rangeKs hk
    k_steps
    exact ⟨_, _, _, rfl, by assumption, by assumption, off, trivial, rfl, _, rfl⟩
  intro ys hys
  have hys' := hys.strs
  have hysl := hys.length
  rw [List.length_map, rangeKs_length] at hysl
  unfold LCg.FinE
  intro D2 h2 tk2
  k_steps
  rename StrsAre ys _ => hys'
  refine stopE (LCt.CompSrcT.ledger rfl (by assumption) (by assumption) (.head _) ?hsz2 ?_)
  case hsz2 => rw [sizeLine_eq]; simp; omega
  intro g2
  have hall := Are.cons (dec := isS) (y := .str q tq) (b := q) ⟨tq, rfl⟩ hys
  refine compT (as := q :: (rangeKs 2 (us.length + 2)).map (candS q)) isS isS (fun o => o == g || !us.any (· == o)) id ?hn2 (fun i v hi hv => hall.at i v ?hv2) ?_ ?_
  case hn2 => simp [rangeKs_length]; omega
  case hv2 => simpa using hv
  · rintro o v I oI C oC D m₂ ys2 h3 tk3 E' ho ⟨t, rfl⟩ hC hx F' N' off ne
    k_steps
    · exact ⟨_, _, _, rfl, by assumption, by assumption, off, .inr ⟨_, .head _, rfl, _, rfl⟩, rfl, by simp [*], _, rfl⟩
    · exact ⟨_, _, _, rfl, by assumption, by assumption, off, .inr ⟨_, .head _, rfl, _, rfl⟩, rfl, by simp only [*]; rfl⟩
    · exact ⟨_, _, _, rfl, by assumption, by assumption, off, .inr ⟨_, .head _, rfl, _, rfl⟩, rfl, by simp only [*]; rfl, _, rfl⟩
  intro ys2 hys2
  unfold LCg.FinE
  intro D3 h4 tk4 F8 N8 _
  rw [List.map_id, hr] at hys2
  have hys3 := hys2.strs
  k_steps
  rename News h₀ L _ _ => kN
  exact hq _ _ _ (by assumption) (nsub kN fun p hp => by simp [hp])
end
end
section
local macro_rules | `(tactic| walk_at "compareOp NotEq ref ref") => ln `ne_intsA "ammaau"
local macro_rules | `(tactic| walk_at "call builtin:sorted") => lnLt "call ( Value.builtin #sorted ) ( List.cons ( Value.ref _ ) List.nil )" (fill `sorted_intsA "Aamao") 11 7
local macro_rules | `(tactic| walk_at "call ref") => stops [506, 409, 513, 518, 523, 431, 487, 445, 459, 473, 416, 452]
local macro_rules | `(tactic| walk_at "subscriptTail Name Slice str ref") => hereY [patY "subscriptTail _ ( Expr.Slice none ( some _ ) none _ ) _ _", refN `slice_strN_ns [argY `hsz (lftY (idY `c)), argY `s (trm "Shared.mk _ _ _ _ _"), byY asmY, byY asmY, lftY], caseY `c (side 'w'), introsY]
local macro_rules | `(tactic| walk_at "storeName") => hereY [dfltY (fill `storeC_A "aaqma?qq" "ghabcde"), introsY]
local macro_rules | `(tactic| walk_at "compareOp NotIn") => lnP "compareOp CmpOp.NotIn ( Value.int _ _ ) ( Value.ref _ )" (firstY [fill `notin_yes "amaa", fill `notin_no "amaa"])
section
local macro_rules | `(tactic| walk_at "call builtin:sorted") => lnLt "call ( Value.builtin #sorted ) ( List.cons ( Value.ref _ ) List.nil )" (fill `sorted_dictA "rAamaaz") 12 8
local macro_rules | `(tactic| walk_at "exec For") => hereY [refN `For_any [lftY]]
local macro_rules | `(tactic| walk_at "pyIter ref") => hereY [redY [refN `stopFor [lftY]]]
local macro_rules | `(tactic| walk_at "CPost") => dsT `CPost
section
variable {w : World} {loose : List Str} {mean : ExcName → Option Value} {mg mb : Str → Option Value} {dp un : Nat} {gd : Option (List Code)} {cn : Str} {cs : Scope} {a : Addr} {ccd : Value} {cl : List (Str × Addr)} {outer : List Env} {A₀ : Around} {base h₀ : Heap} {L : Addr} {m : Str → Option Value} {news : List (Addr × Obj)} {s : Shared} {Q E : Value → Shared → Prop}
  {t0 dT R O : Addr} {es : List DictEntry} {nT : Nat} {oR : Obj} {vs : List Value} {nO : Nat} {c l k : Int} {kvs : List (Int × Value)} {ns : List Int}
theorem isso_spec (B : Below A₀ base outer h₀) (F : Fr h₀ L s.heap m) (X : (heapK w.params).In h₀) (N : News h₀ L s.heap news) (T : Top topProg loose mean mg mb h₀) (hk : cs.kind = .function) (hdp : dp + 20 < recursionLimit) (hu : un + 100 < cLine) (S : Tbl w news t0 dT R O es nT oR vs nO c l k kvs ns) (bf : Int → Addr) (nm : Int → Str) (hB : Bufs news kvs ns bf nm) (hz : ns.length ≤ 10) (hzk : kvs.length ≤ 10) (hperm : (kvs.map (·.1)).Perm ns)
    {OL tt ML : Addr} {ovs : List Value} {nOL : Nat} (hOL : (OL, listOf ovs.toArray nOL) ∈ news) (hOI : IntsAre ovs ns) {oT : Obj} {tks : List (Int × Value)} (htt : (tt, oT) ∈ news) (htd : oT.IsDictOf (IK w) tks) (hlt : (tt == sysModules) = false) (htv : ∀ n ∈ ns, ∃ t, valueAt tks n = some (.str (nm n) t)) (hnl : ∀ n ∈ ns, (nm n).length ≤ 1000) (hdist : ∀ n ∈ ns, (ns.find? fun n' => nm n' == nm n) = some n)
    {mvs : List Value} {nM : Nat} (hML : (ML, listOf mvs.toArray nM) ∈ news) (hM : ∀ (i : Nat) v, mvs[i]? = some v → ∃ ti mi dm em kk n t bv, v = .ref ti ∧ (ti, ({ cls := .type "tuple", data := .seq #[.ref mi, .int n t] } : Obj)) ∈ news ∧ (mi, instObj 185 dm) ∈ news ∧ (dm, dictOf em kk) ∈ news ∧ getL "buffer" em = some (some bv) ∧ (n ∈ ns ∧ bv = .ref (bf n) ∨ n ∉ ns ∧ bv = .none))
    (hno : (ns.find? fun n => nm n == Str.ofString "nowhere") = none) (h99 : valueAt kvs 99 = none)
    (hq : ∀ h' tk', Fr h₀ L h' m → News h₀ L h' news → Q (.bool true) { s with heap := h', toks := tk' }) :
    wpAny (model PySem.Challenge.pw_np0064_01 w) (ktrTop dp un gd cn cs L a ccd cl outer) (call (.ref 523) [.ref t0, .ref OL, .ref tt, .ref ML]) Q E s := by
  have S' := S
  obtain ⟨hT, hdT, DT, hR, lo, hRd, hO, hI, _⟩ := S
  have g1 := DT.rows
  have g2 := DT.order
  have hvl := hI.length
  have hvl2 := hOI.length
  have gm : getL "by_number" es = some none := DT.other _ (by decide)
  have gm2 : getL "by_name" es = some none := DT.other _ (by decide)
  have gm3 : getL "other" es = some none := DT.other _ (by decide)
  refine wpAny_call ?_
  k_dflt k_enter
  rename ∀ p ∈ news, p.1 < _ => lL
  k_steps
  · rename Fr _ _ _ _ => F7
    rename News _ _ _ _ => N7
    refine stopE (for_listC ["own", "other", "some"] [_] (fun _ => True) rfl (by passes_own) (by k_mem) F7 N7 (cellsIn_one (.tail _ (.tail _ (.head _))) (by assumption)) trivial ?_ ?_ goes_name)
    · intro i v ia own u nx h2 tk2 hv _ hb hc hia ho F2 N2 Qx Ex hQx
      clear F7 N7
      obtain ⟨n, hn⟩ : ∃ n, ns[i]? = some n := ⟨ns[i]'(by have := (List.getElem?_eq_some_iff.mp hv).1; omega), by simp⟩
      obtain ⟨t, ht⟩ := hOI.get i n hn
      rw [hv] at ht
      cases ht
      have hnn : n ∈ ns := List.mem_of_getElem? hn
      obtain ⟨hvn, db, eb, kb, hb1, hb2, ⟨_, hb3⟩, ⟨_, hb4⟩, hb5⟩ := hB n hnn
      obtain ⟨tt1, htn⟩ := htv n hnn
      obtain ⟨oN, vN, hcN, hdN⟩ := hc _ (.head _)
      have up : ∀ p ∈ news, p ∈ nx := fun p hp => hb p (.tail _ (.tail _ (.tail _ (.tail _ hp)))) (by
        intro z
        have z' := List.mem_singleton.mp z
        exact absurd z' (Nat.ne_of_lt (Nat.lt_succ_of_lt (Nat.lt_succ_of_lt (lL p hp)))))
      have hT2 := hb _ (.tail _ (.tail _ (.tail _ (.head _)))) (by simp)
      refine wpAny_assign_Name (storeC_A F2 N2 rfl (List.mem_append_right _ hcN) hdN ?_)
      intro h3 oN2 F3 N3 hdN2
      refine cell_turn N3 up (fun p hp => Nat.ne_of_lt (Nat.lt_succ_of_lt (Nat.lt_succ_of_lt (lL p hp)))) hT2 (by simp) ho (Nat.ne_of_gt (hia _ (.tail _ (.tail _ (.head _))))) (Nat.ne_of_lt (Nat.lt_succ_of_lt (Nat.lt_succ_of_lt (lL _ hOL)))) hb ?_
      intro nw N4 hs hcN2 hT3 ho3 hb9
      clear N3 N2 F2 hcN hdN
      have S2 := S'.mono hs
      have hB2 := hB.mono hs
      have x1 := hs _ hT; have x2 := hs _ hdT; have x3 := hs _ hR; have x4 := hs _ hO; have x5 := hs _ hOL; have x6 := hs _ htt; have x7 := hs _ hb1; have x8 := hs _ hb2
      k_steps
      refine stopE (by_number_spec (by assumption) (by assumption) (by assumption) (by assumption) (by assumption) rfl (dlt (j := 6) hdp (by decide)) (dlt (j := 23) hu (by decide)) S2 ?_)
      intro h5 tk5 F5 N5
      rw [hvn]
      dsimp only [Option.getD]
      k_steps
      · exfalso
        simp at *
      refine stopE (by_name_spec (by assumption) (by assumption) (by assumption) (by assumption) (by assumption) rfl (dlt (j := 6) hdp (by decide)) (dlt (j := 23) hu (by decide)) S2 bf nm hB2 ?_)
      rintro r h6 tk6 rfl F6 N6
      rw [hdist n hnn]
      dsimp only [findV]
      k_steps
      refine stopE (LCt.CompSrcT.ledger rfl (by assumption) (by assumption) x5 (by rw [sizeLine_eq]; simp; omega) ?_)
      intro g2
      refine compT (as := ns) isI isI (fun o => o != n && !(Txt.startswith (nm o) (Str.ofString " "))) id (by simp [hvl2]) (fun i v hi hv => (are_ints hOI).at i v (by simpa using hv)) ?_ ?_
      · rintro o v I oI C oC D m₂ ys h3 tk3 E' ho ⟨t, rfl⟩ hC hx F' N' off ne
        obtain ⟨tt2, hto⟩ := htv o ho
        have hnlo := hnl o ho
        k_steps
        · exact ⟨_, _, _, rfl, by assumption, by assumption, off, .inr ⟨_, x5, rfl, _, rfl⟩, rfl, by
            rw [← slice_one]
            simp_all, _, rfl⟩
        · exact ⟨_, _, _, rfl, by assumption, by assumption, off, .inr ⟨_, x5, rfl, _, rfl⟩, rfl, by
            rw [← slice_one]
            simp_all⟩
        · exact ⟨_, _, _, rfl, by assumption, by assumption, off, .inr ⟨_, x5, rfl, _, rfl⟩, rfl, by simp_all⟩
      intro ys hys
      rw [List.map_id] at hys
      have hys2 := hys.ints
      clear hys
      unfold LCg.FinA
      intro D3 h4 tk4 F8 N8 _
      k_steps
      have hLv2 : LiveBuf ((D3, LCg.lst ys) :: nw) (bf n) n (nm n) := ⟨db, eb, kb, .tail _ x7, .tail _ x8, ⟨_, hb3⟩, ⟨_, hb4⟩, hb5⟩
      refine stopE (other_spec (by assumption) (by assumption) (by assumption) (by assumption) (by assumption) rfl (dlt (j := 6) hdp (by decide)) (dlt (j := 23) hu (by decide)) (S2.mono fun p hp => .tail _ hp) bf nm (hB2.mono fun p hp => .tail _ hp) hLv2 ?_)
      rintro r h7 tk7 rfl F7 N7
      cases hf : ns.find? (fun n' => n' != n && !(Txt.startswith (nm n') (Str.ofString " "))) with
      | none =>
        dsimp only [findV]
        rw [filter_none hf] at hys2
        k_steps
        rename News _ _ _ _ => kN
        refine hQx (.intro (by assumption) kN (fun p hp => .tail _ (.tail _ (ho3 p hp))) (fun p hp hn => .tail _ (.tail _ (hb9 p hp hn))) (cellsIn_one (.tail _ (.tail _ hcN2)) hdN2) (fun z hz => ?_) trivial)
        have hz3 := not_in3 hz
        simp [hz3.1, hz3.2.1, hz3.2.2]
      | some n2 =>
        dsimp only [findV]
        obtain ⟨rr, er⟩ := filter_some hf
        rw [er] at hys2
        obtain ⟨_, db2, eb2, kb2, hc1, hc2, ⟨_, hc3⟩, _, _⟩ := hB2 n2 (List.mem_of_find?_eq_some hf)
        k_steps
        · exfalso
          rename decide (n2 :: rr = []) = true => hh
          simp at hh
        · exfalso
          simp at *
        · skip
          rename News _ _ _ _ => kN
          refine hQx (.intro (by assumption) kN (fun p hp => .tail _ (.tail _ (ho3 p hp))) (fun p hp hn => .tail _ (.tail _ (hb9 p hp hn))) (cellsIn_one (.tail _ (.tail _ hcN2)) hdN2) (fun z hz => ?_) trivial)
          have hz3 := not_in3 hz
          simp [hz3.1, hz3.2.1, hz3.2.2]
    · intro u nx h2 tk2 _ hb hc F2 N2
      clear F7 N7
      obtain ⟨oN, vN, hcN, hdN⟩ := hc _ (.head _)
      have up : ∀ p ∈ news, p ∈ nx := fun p hp => hb p (.tail _ (.tail _ (.tail _ (.tail _ hp)))) (by
        intro z
        have z' := List.mem_singleton.mp z
        exact absurd z' (Nat.ne_of_lt (Nat.lt_succ_of_lt (Nat.lt_succ_of_lt (lL p hp)))))
      have x1 := up _ hT; have x2 := up _ hdT; have x3 := up _ hR; have x4 := up _ hO; have x5 := up _ hOL; have x6 := up _ htt; have x7 := up _ hML
      have S2 := S'.mono up
      have hB2 := hB.mono up
      k_steps
      rename Fr _ _ _ _ => F7
      rename News _ _ _ _ => N7
      refine stopE (for_listC ["own", "other", "some", "marker"] [_] (fun _ => True) rfl (by passes_own) x7 F7 N7 (cellsIn_one hcN hdN) trivial ?_ ?_ goes_tuple)
      · intro i v ia own u2 nx2 h3 tk3 hv _ hb2 hc2 hia ho F3 N3 Qx Ex hQx
        obtain ⟨ti, mi, dm, em, kk, n, t, bv, rfl, hti, hmi, hdm, hem, hbv⟩ := hM i v hv
        obtain ⟨oN2, vN2, hcN2, hdN2⟩ := hc2 _ (.head _)
        clear F7 N7
        have up2 : ∀ p ∈ news, p ∈ nx2 := fun p hp => hb2 p (up p hp) (by
          intro z
          have z' := List.mem_singleton.mp z
          exact absurd z' (Nat.ne_of_lt (Nat.lt_succ_of_lt (Nat.lt_succ_of_lt (lL p hp)))))
        have hTn := hb2 _ (hb _ (.tail _ (.tail _ (.tail _ (.head _)))) (by simp)) (by simp)
        have m1 := up2 _ hti
        k_steps
        rename Fr _ _ _ _ => F9
        rename News _ _ _ _ => N9
        rename _ = Data.cell (some (Value.int n _)) => hdN3
        refine cell_turn (nb := nx) N9 up2 (fun p hp => Nat.ne_of_lt (Nat.lt_succ_of_lt (Nat.lt_succ_of_lt (lL p hp)))) hTn (by simp) ho (Nat.ne_of_gt (hia _ hcN)) (Nat.ne_of_lt (Nat.lt_succ_of_lt (Nat.lt_succ_of_lt (lL _ hML)))) hb2 ?_
        intro nw N4 hs hcN3 hT3 ho3 hb9
        clear N9
        have y1 := hs _ hmi; have y2 := hs _ hdm; have y3 := hs _ hOL
        rcases hbv with ⟨h1, rfl⟩ | ⟨h1, rfl⟩
        · obtain ⟨_, db, eb, kb, hb1, hbb2, ⟨_, hb3⟩, _, _⟩ := hB n h1
          have y4 := hs _ hb1; have y5 := hs _ hbb2
          k_steps
          · exact absurd rfl ‹n ≠ n›
          refine hQx (.intro (by assumption) N4 ho3 hb9 (cellsIn_one hcN3 hdN3) (fun z hz => ?_) trivial)
          have hz4 := not_in4 hz
          simp only [hz4.2.2.2, if_false, hz, Bool.false_eq_true]
        · k_steps
          refine hQx (.intro (by assumption) N4 ho3 hb9 (cellsIn_one hcN3 hdN3) (fun z hz => ?_) trivial)
          have hz4 := not_in4 hz
          simp only [hz4.2.2.2, if_false, hz, Bool.false_eq_true]
      · intro u2 nx2 h3 tk3 _ hb2 hc2 F3 N3
        clear F7 N7
        have up2 : ∀ p ∈ news, p ∈ nx2 := fun p hp => hb2 p (up p hp) (by
          intro z
          have z' := List.mem_singleton.mp z
          exact absurd z' (Nat.ne_of_lt (Nat.lt_succ_of_lt (Nat.lt_succ_of_lt (lL p hp)))))
        have w1 := up2 _ hT; have w2 := up2 _ hdT
        dsimp only
        k_steps
        refine stopE (by_name_spec (by assumption) (by assumption) (by assumption) (by assumption) (by assumption) rfl (dlt (j := 6) hdp (by decide)) (dlt (j := 23) hu (by decide)) (S'.mono up2) bf nm (hB.mono up2) ?_)
        rintro r h6 tk6 rfl F6 N6
        rw [hno]
        dsimp only [findV]
        k_steps
        refine stopE (by_number_spec (by assumption) (by assumption) (by assumption) (by assumption) (by assumption) rfl (dlt (j := 6) hdp (by decide)) (dlt (j := 23) hu (by decide)) (S'.mono up2) ?_)
        intro h7 tk7 F7 N7
        rw [h99]
        dsimp only [Option.getD]
        k_steps
        rename News h₀ L _ _ => kN
        exact hq _ _ (by assumption) (nsub kN up2)
  · exfalso
    rename List.Perm _ ns => hp2
    rename List.Perm _ (List.map _ _) => hp1
    rename ¬ _ = _ => hne
    exact hne (ksm_same (hp1.trans (hperm.trans hp2.symm)) (by assumption) (by assumption))
  · exfalso
    simp at *
end
end
section
local macro_rules | `(tactic| walk_at "subscriptTail") => stopP "subscriptTail _ ( Expr.Call _ _ _ _ ) ( Value.ref _ ) ( Value.int _ _ )"
local macro_rules | `(tactic| walk_at "mget") => alts [side0 'a', sub `mget_eq "", sub' `mget_ne "dg"]
local macro_rules | `(tactic| walk_at "eval Name") => hereY [dfltY (fill `nameX_L "Ag?qq" "deab")]
section
variable {w : World} {loose : List Str} {mean : ExcName → Option Value} {mg mb : Str → Option Value} {dp un : Nat} {gd : Option (List Code)} {a : Addr} {A₀ : Around} {base h₀ : Heap} {L : Addr} {m : Str → Option Value} {news : List (Addr × Obj)} {s : Shared} {Q : Flow → Shared → Prop} {E : Value → Shared → Prop}
  {K : List (Addr × Obj)} {DK t0 dT R O tt ML SM OL : Addr} {c lb : Int} {ns : List Int} {nm : Int → Str} {bf : Int → BA} {mk : Int → MA}
theorem lap0_spec (B : Below A₀ base [] h₀) (F : Fr h₀ L s.heap m) (X : (heapK w.params).In h₀) (N : News h₀ L s.heap news) (T : Top topProg loose mean mg mb h₀) (hdp : dp + 40 < recursionLimit) (hu : un + 300 < cLine) (C : Chain L DK dT t0 R O tt ML SM) (M : LawM DK SM ML OL c m) (H : LawS w K L DK t0 dT R O tt ML SM OL lb lb ns nm mk ns nm c bf mk news)
    (hq : ∀ h' tk' news' wy tw q tq, 0 ≤ wy → wy < 6 → (ns = [] → wy = 0) → q ∈ somes → Fr h₀ L h' (fun y => if y = Str.ofString "way" then some (.int wy tw) else m y) → News h₀ L h' news' → LawS w K L DK t0 dT R O tt ML SM OL lb lb ns nm mk ns nm c bf mk news' → CellC (L + 1 + 1 + 1) (.str q tq) news' → Q .next { s with heap := h', toks := tk' }) :
    wpAny (model PySem.Challenge.pw_np0064_01 w) (ktrTop dp un gd (Str.ofString "law") lawScope L a (.ref 527) (lawCl L) []) (exec (lapS 0) (lawEnv L a)) Q E s := by
  unfold lawEnv lawCl
  conv in lapS 0 => whnf
  conv in (occs := *) lawScope => all_goals whnf
  obtain ⟨dvs, nD, ds, d1, d2, d3⟩ := H.1.deck
  obtain ⟨svs, sn, s1, s2⟩ := H.1.som
  obtain ⟨ovs, on, o1, o2, o3, o4⟩ := H.1.ord
  obtain ⟨ob1, v1, b1, b2⟩ := H.1.cel (L + 1 + 1 + 1) (by simp)
  obtain ⟨n1, n2, n3, n4, n5, n6, n7, n8, n9, n10, n11, n12⟩ := C.apart
  obtain ⟨y1, y2, y3, y4, y5⟩ := C.cells
  have hm1 := M.mdk; have hm2 := M.msm; have hm3 := M.mor
  have hnil : IntsAre [] [] := .nil
  have hol := o2.length
  have hsl := s2.length
  k_steps
  · rename decide (ns = []) = true => hns
    have hns' : ns = [] := of_decide_eq_true hns
    refine stopE (draw_spec (by assumption) (by assumption) (by assumption) (by assumption) (by assumption) rfl (dlt (j := 20) hdp (by decide)) (dlt (j := 100) hu (by decide)) (D := DK) (by k_mem) d2 d3 (by decide) (by decide) ?_)
    intro r t h1 tk1 vs1 ds1 n1' r0 r1 I1 P1 F1 N1
    have H1 := law_putDeck N1 C H (fun p hp => .tail _ hp) I1 P1
    k_steps
    refine stopE (item_at N1 (l := SM) (by k_mem) r0 (by simp only [hsl, somes, List.length_cons, List.length_nil]; omega) (by simp only [hsl, somes, List.length_cons, List.length_nil]; omega) ?_)
    intro v hv
    obtain ⟨q, tq, hqm, rfl⟩ := strs_at s2 hv
    k_steps
    rename News _ _ _ _ => kN
    rename _ = Data.cell (some (Value.str q tq)) => hdn
    obtain ⟨H2, c2⟩ := law_putCell kN C H1 (fun p hp => .tail _ hp) (.inr (.inl rfl)) hdn
    exact hq _ _ _ 0 _ q tq (by decide) (by decide) (fun _ => rfl) hqm (by assumption) kN H2 c2
  · rename decide (ns = []) = false => hns
    have hns' : ns ≠ [] := of_decide_eq_false hns
    refine stopE (draw_spec (by assumption) (by assumption) (by assumption) (by assumption) (by assumption) rfl (dlt (j := 20) hdp (by decide)) (dlt (j := 100) hu (by decide)) (D := DK) (by k_mem) d2 d3 (by decide) (by decide) ?_)
    intro r t h1 tk1 vs1 ds1 n1' r0 r1 I1 P1 F1 N1
    have H1 := law_putDeck N1 C H (fun p hp => .tail _ hp) I1 P1
    k_steps
    refine stopE (draw_spec (by assumption) (by assumption) (by assumption) (by assumption) (by assumption) rfl (dlt (j := 20) hdp (by decide)) (dlt (j := 100) hu (by decide)) (D := DK) (by k_mem) I1 P1 (by decide) (by decide) ?_)
    intro r2 t2 h2 tk2 vs2 ds2 n2' r02 r12 I2 P2 F2 N2
    have H2 := law_putDeck N2 C H1 (fun p hp => hp) I2 P2
    k_steps
    refine stopE (item_at N2 (l := SM) (by k_mem) r02 (by simp only [hsl, somes, List.length_cons, List.length_nil]; omega) (by simp only [hsl, somes, List.length_cons, List.length_nil]; omega) ?_)
    intro v hv
    obtain ⟨q, tq, hqm, rfl⟩ := strs_at s2 hv
    k_steps
    rename News _ _ _ _ => kN
    rename _ = Data.cell (some (Value.str q tq)) => hdn
    obtain ⟨H3, c3⟩ := law_putCell kN C H2 (fun p hp => .tail _ hp) (.inr (.inl rfl)) hdn
    exact hq _ _ _ r _ q tq r0 r1 (fun z => absurd z hns') hqm (by assumption) kN H3 c3
end
section
local macro_rules | `(tactic| walk_at "exec Assign cons ListComp") => lnP "exec ( Stmt.Assign _ ( Expr.ListComp _ ( List.cons ( Comprehension.mk _ _ List.nil _ ) List.nil ) _ _ ) _ ) _" (fill `LCg.Assign_ListComp_U "!AqWWdqdqqq?")
local macro_rules | `(tactic| walk_at "exec Assign cons ListComp") => lnP "exec ( Stmt.Assign _ ( Expr.ListComp _ ( List.cons ( Comprehension.mk _ _ ( List.cons _ _ ) _ ) List.nil ) _ _ ) _ ) _" (fill `LCt.Assign_ListComp_T "!AqWWdqdqqq?")
local macro_rules | `(tactic| walk_at "eval Lambda") => stopR
section
variable {w : World} {loose : List Str} {mean : ExcName → Option Value} {mg mb : Str → Option Value} {dp un : Nat} {gd : Option (List Code)} {a : Addr} {A₀ : Around} {base h₀ : Heap} {L : Addr} {m : Str → Option Value} {news : List (Addr × Obj)} {s : Shared} {Q : Flow → Shared → Prop} {E : Value → Shared → Prop}
  {K : List (Addr × Obj)} {DK t0 dT R O tt ML SM OL : Addr} {c lb : Int} {ns : List Int} {nm : Int → Str} {bf : Int → BA} {mk : Int → MA}
theorem lap1_spec (B : Below A₀ base [] h₀) (F : Fr h₀ L s.heap m) (X : (heapK w.params).In h₀) (N : News h₀ L s.heap news) (T : Top topProg loose mean mg mb h₀) (hdp : dp + 40 < recursionLimit) (hu : un + 300 < cLine) (C : Chain L DK dT t0 R O tt ML SM) (M : LawM DK SM ML OL c m) (H : LawS w K L DK t0 dT R O tt ML SM OL lb lb ns nm mk ns nm c bf mk news) (hz : ns.length ≤ 10)
    (hq : ∀ h' tk' news' US, UsedC L DK O tt ML US (ns.map nm) news' → (∀ p ∈ news, p ∈ news') → Fr h₀ L h' (fun y => if y = Str.ofString "used" then some (.ref US) else m y) → News h₀ L h' news' → Q .next { s with heap := h', toks := tk' }) :
    wpAny (model PySem.Challenge.pw_np0064_01 w) (ktrTop dp un gd (Str.ofString "law") lawScope L a (.ref 527) (lawCl L) []) (exec (lapS 1) (lawEnv L a)) Q E s := by
  unfold lawEnv lawCl
  conv in lapS 1 => whnf
  conv in (occs := *) lawScope => all_goals whnf
  obtain ⟨svs, sn, s1, s2⟩ := H.1.som
  obtain ⟨oT, tks, t1, t2, t3, t5, t4⟩ := H.1.tit
  obtain ⟨ovs, on, o1, o2, o3, o4⟩ := H.1.ord
  obtain ⟨ob1, b1, b2⟩ := H.1.ctt
  obtain ⟨n1, n2, n3, n4, n5, n6, n7, n8, n9, n10, n11, n12⟩ := C.apart
  obtain ⟨y1, y2, y3, y4, y5⟩ := C.cells
  have hm1 := M.mdk; have hm2 := M.msm; have hm3 := M.mor
  have hol := o2.length
  k_steps
  refine stopE (LCg.CompSrc.ledger rfl (by assumption) (by assumption) o1 (by rw [sizeLine_eq]; simp; omega) ?_)
  intro g2
  refine compU (as := ns) isI isS nm (by simp [hol]) (fun i v hi hv => (are_ints o2).at i v (by simpa using hv)) ?_ ?_
  · rintro o v I oI C' oC D m₂ ys h3 tk3 E' ho ⟨t, rfl⟩ hC hx F' N' off ne
    obtain ⟨tt2, hto⟩ := t4 o ho
    k_steps
    exact ⟨_, _, _, rfl, by assumption, by assumption, off, .inr ⟨_, o1, rfl, _, rfl⟩, rfl, _, rfl⟩
  intro ys hys
  unfold LCg.FinA
  intro D3 h4 tk4 F8 N8 l8
  exact hq _ _ _ D3 (.make H (off1_ne l8) hys.strs) (fun p hp => .tail _ hp) F8 N8
end
section
variable {w : World} {loose : List Str} {mean : ExcName → Option Value} {mg mb : Str → Option Value} {dp un : Nat} {gd : Option (List Code)} {a : Addr} {A₀ : Around} {base h₀ : Heap} {L : Addr} {m : Str → Option Value} {news : List (Addr × Obj)} {s : Shared} {Q : Flow → Shared → Prop} {E : Value → Shared → Prop}
  {K : List (Addr × Obj)} {DK t0 dT R O tt ML SM OL : Addr} {c lb : Int} {ns : List Int} {nm : Int → Str} {bf : Int → BA} {mk : Int → MA}
theorem lap2_spec (B : Below A₀ base [] h₀) (F : Fr h₀ L s.heap m) (X : (heapK w.params).In h₀) (N : News h₀ L s.heap news) (T : Top topProg loose mean mg mb h₀) (hdp : dp + 40 < recursionLimit) (hu : un + 300 < cLine) (C : Chain L DK dT t0 R O tt ML SM) (M : LawM DK SM ML OL c m) (H : LawS w K L DK t0 dT R O tt ML SM OL lb lb ns nm mk ns nm c bf mk news)
    (hq : ∀ h' tk' news' v, (ns = [] ∧ v = .none ∨ ∃ num ∈ ns, v = .ref (bf num).b) → Ext [DK, L + 1 + 1 + 1 + 1] news news' → Fr h₀ L h' m → News h₀ L h' news' → LawS w K L DK t0 dT R O tt ML SM OL lb lb ns nm mk ns nm c bf mk news' → CellC (L + 1 + 1 + 1 + 1) v news' → Q .next { s with heap := h', toks := tk' }) :
    wpAny (model PySem.Challenge.pw_np0064_01 w) (ktrTop dp un gd (Str.ofString "law") lawScope L a (.ref 527) (lawCl L) []) (exec (lapS 2) (lawEnv L a)) Q E s := by
  unfold lawEnv lawCl
  conv in lapS 2 => whnf
  conv in (occs := *) lawScope => all_goals whnf
  obtain ⟨dvs, nD, ds, d1, d2, d3⟩ := H.1.deck
  obtain ⟨ovs, on, o1, o2, o3, o4⟩ := H.1.ord
  obtain ⟨ob1, b1, b2⟩ := H.1.ctb
  obtain ⟨ob2, v2, c1, c2⟩ := H.1.cel (L + 1 + 1 + 1 + 1) (by simp)
  obtain ⟨n1, n2, n3, n4, n5, n6, n7, n8, n9, n10, n11, n12⟩ := C.apart
  obtain ⟨y1, y2, y3, y4, y5⟩ := C.cells
  have hm1 := M.mdk; have hm2 := M.msm; have hm3 := M.mor
  have hnil : IntsAre [] [] := .nil
  have hol := o2.length
  have hsm := H.2.small
  have ndo : DK ≠ OL := fun z => o3 (z ▸ .head _)
  have n13 : t0 ∉ [DK] ∧ dT ∉ [DK] ∧ R ∉ [DK] ∧ O ∉ [DK] := by
    obtain ⟨z1, z2, z3, z4, z5, z6, z7, z8, z9⟩ := C.h
    simp only [LtA] at *
    refine ⟨?_, ?_, ?_, ?_⟩ <;> (intro h; have e' : @Eq Nat _ _ := List.mem_singleton.mp h; omega)
  have nd5 : L + 1 + 1 + 1 + 1 + 1 ≠ DK := y5
  obtain ⟨es, nT, oR, vs, nO, kvs, S, hval, hperm⟩ := H.2.T
  have S' := S
  obtain ⟨hT, hdT, DT, hR, lo, hRd, hO, hI, _⟩ := S
  have gm : getL "by_number" es = some none := DT.other _ (by decide)
  have eD : ∀ {o : Obj}, Ext [DK] news (put news DK o) := (Ext.refl news).put
  k_steps
  trace_state
  · rename decide (ns = []) = true => hns
    have hns' : ns = [] := of_decide_eq_true hns
    trace_state
    rename News _ _ _ _ => kN
    rename _ = Data.cell (some Value.none) => hdn
    obtain ⟨H2, c2⟩ := law_putCell kN C H (fun p hp => .tail _ hp) (.inr (.inr rfl)) hdn
    exact hq _ _ _ _ (.inl ⟨hns', rfl⟩) (fun p hp hn => mem_put_ne (.tail _ hp) fun z => hn (z ▸ .tail _ (.head _))) (by assumption) kN H2 c2
  · rename decide (ns = []) = false => hns
    have hns' : ns ≠ [] := of_decide_eq_false hns
    have hpos : 0 < ns.length := List.length_pos_iff.mpr hns'
    trace_state
    refine stopE (draw_spec (by assumption) (by assumption) (by assumption) (by assumption) (by assumption) rfl (dlt (j := 20) hdp (by decide)) (dlt (j := 100) hu (by decide)) (D := DK) (by k_mem) d2 d3 (by omega) (by omega) ?_)
    intro r t h1 tk1 vs1 ds1 n1' r0 r1 I1 P1 F1 N1
    have H1 := law_putDeck N1 C H (fun p hp => .tail _ hp) I1 P1
    k_steps
    refine stopE (item_at N1 (l := OL) (mem_put_ne (.tail _ o1) (Ne.symm ndo)) r0 (by omega) (by omega) ?_)
    intro v hv
    obtain ⟨n, tn, hnm, rfl⟩ := ints_at o2 hv
    k_steps
    trace_state
    refine stopE (by_number_spec (by assumption) (by assumption) (by assumption) (by assumption) (by assumption) rfl (dlt (j := 5) hdp (by decide)) (dlt (j := 20) hu (by decide)) (S'.ext (news' := put ((_, _) :: news) DK _) (fun p hp hn => mem_put_ne (.tail _ hp) fun z => hn (z ▸ .head _)) n13.1 n13.2.1 n13.2.2.1 n13.2.2.2) ?_)
    intro h7 tk7 F7 N7
    rw [hval n hnm]
    dsimp only [Option.getD]
    k_steps
    trace_state
    rename News _ _ _ _ => kN
    rename _ = Data.cell (some (Value.ref _)) => hdn
    obtain ⟨H3, c3⟩ := law_putCell kN C H1 (fun p hp => hp) (.inr (.inr rfl)) hdn
    exact hq _ _ _ _ (.inr ⟨n, hnm, rfl⟩) (fun p hp hn => mem_put_ne ((mem_put_ne (.tail _ hp) fun z => hn (z ▸ .head _))) fun z => hn (z ▸ .tail _ (.head _))) (by assumption) kN H3 c3
end
section
local macro_rules | `(tactic| walk_at "call builtin:str.split") => stopR
section
variable {w : World} {loose : List Str} {mean : ExcName → Option Value} {mg mb : Str → Option Value} {dp un : Nat} {gd : Option (List Code)} {a : Addr} {A₀ : Around} {base h₀ : Heap} {L : Addr} {m : Str → Option Value} {news : List (Addr × Obj)} {s : Shared} {Q : Flow → Shared → Prop} {E : Value → Shared → Prop}
  {K : List (Addr × Obj)} {DK t0 dT R O tt ML SM OL : Addr} {c lb : Int} {ns : List Int} {nm : Int → Str} {bf : Int → BA} {mk : Int → MA}
theorem create0_spec (B : Below A₀ base [] h₀) (F : Fr h₀ L s.heap m) (X : (heapK w.params).In h₀) (N : News h₀ L s.heap news) (T : Top topProg loose mean mg mb h₀) (hdp : dp + 40 < recursionLimit) (hu : un + 300 < cLine) (C : Chain L DK dT t0 R O tt ML SM) (M : LawM DK SM ML OL c m) (H : LawS w K L DK t0 dT R O tt ML SM OL lb lb ns nm mk ns nm c bf mk news)
    {US : Addr} {q : Str} {tq tw : Tok} {wy : Int} (hU : UsedC L DK O tt ML US (ns.map nm) news) (hw : m (Str.ofString "way") = some (.int wy tw)) (hus : m (Str.ofString "used") = some (.ref US)) (hwy : wy = 0 ∨ wy = 1) (hqs : q ∈ somes) (hc : CellC (L + 1 + 1 + 1) (.str q tq) news)
    (hq : ∀ h' tk' news' q' tq', (q' = Str.ofString "" ∨ q' ∈ allN) → UsedC L DK O tt ML US (ns.map nm) news' → CellC (L + 1 + 1 + 1) (.str q' tq') news' → LawS w K L DK t0 dT R O tt ML SM OL lb lb ns nm mk ns nm c bf mk news' → Fr h₀ L h' m → News h₀ L h' news' → Q .next { s with heap := h', toks := tk' }) :
    wpAny (model PySem.Challenge.pw_np0064_01 w) (ktrTop dp un gd (Str.ofString "law") lawScope L a (.ref 527) (lawCl L) []) (exec (createS 0) (lawEnv L a)) Q E s := by
  unfold lawEnv lawCl
  conv in createS 0 => whnf
  conv in (occs := *) lawScope => all_goals whnf
  have hqa : q = Str.ofString "" ∨ q ∈ allN := by
    by_cases z : q = Str.ofString ""
    · exact .inl z
    · exact .inr (bases_allN (somes_bases hqs z))
  obtain ⟨ob1, b1, b2⟩ := H.1.ctb
  obtain ⟨ob2, c1, c2⟩ := id hc
  obtain ⟨⟨uvs, un1, u1, u2⟩, u3⟩ := id hU
  obtain ⟨y1, y2, y3, y4, y5⟩ := C.cells
  have hsm := H.2.small
  have hul : (ns.map nm).length ≤ 10 := by simpa using hsm
  have hal := u2.length
  obtain ⟨es, nT, oR, vs, nO, kvs, S, hB, hperm, hkl⟩ := H.2.table
  have S' := S
  obtain ⟨hT, hdT, DT, hR, lo, hRd, hO, hI, _⟩ := S
  have gm : getL "fresh_name" es = some none := DT.other _ (by decide)
  rcases hwy with rfl | rfl
  · k_steps
    exact hq _ _ _ q tq hqa hU hc H (by assumption) N
  · k_steps
    · rename (q != _) = true => hqn
      have hqb : q ∈ bases := somes_bases hqs fun z => by rw [z] at hqn; exact absurd hqn (by decide)
      obtain ⟨r, rest, hr, hrc⟩ := lf_ex (us := ns.map nm) (q := q) (g := Str.ofString "") hul (somes_nodup q hqs)
      have hra := good_cand hqb hrc
      refine stopE (lfresh_spec (by assumption) (by assumption) (by assumption) (by assumption) (by assumption) rfl (dlt (j := 20) hdp (by decide)) (dlt (j := 100) hu (by decide)) u1 u2 hul (somes_len q hqs) hr ?_)
      intro tr h1 tk1 F1 N1
      refine storeC_A F1 N1 rfl c1 c2 ?_
      intro h2 o2 F2 N2 d2
      obtain ⟨H2, e2⟩ := law_putCell N2 C H (fun p hp => hp) (.inr (.inl rfl)) d2
      have hU2 := hU.ext (news' := put news (L + 1 + 1 + 1) o2) (mods := [L + 1 + 1 + 1]) (Ext.refl news).put (by simp)
      generalize put news (L + 1 + 1 + 1) o2 = news2 at *
      clear hT hdT DT hR lo hRd hO hI gm S' hB hperm hkl u1 u2 c1 c2 b1 b2 N F N1 F1
      obtain ⟨ob1, b1, b2⟩ := H2.1.ctb
      obtain ⟨ob2, c1, c2⟩ := id e2
      obtain ⟨⟨uvs, un1, u1, u2⟩, u3⟩ := id hU2
      have hal := u2.length
      obtain ⟨es, nT, oR, vs, nO, kvs, S, hB, hperm, hkl⟩ := H2.2.table
      have S' := S
      obtain ⟨hT, hdT, DT, hR, lo, hRd, hO, hI, _⟩ := S
      have gm : getL "fresh_name" es = some none := DT.other _ (by decide)
      k_steps
      refine stopE (split_at (by assumption) (by assumption) hra ?_)
      intro D3 vs3 p rest3 h3 k3 hs3 hr3 hp hpe F3 N3 l3
      k_steps
      rw [show (p :: rest3).getD (Int.toNat 0) Str.empty = p from rfl]
      refine stopE (fresh_spec0 (by assumption) (by assumption) (by assumption) (by assumption) (by assumption) rfl (dlt (j := 12) hdp (by decide)) (dlt (j := 60) hu (by decide)) (S'.mono fun p hp => .tail _ hp) (fun n => (bf n).b) nm (hB.mono fun p hp => .tail _ hp) (by have := somes_len p (bases_somes hp); omega) (hex_of hsm (somes_nodup p (bases_somes hp))) ?_)
      intro r4 t4 h4 tk4 fr4 F4 N4
      k_steps
      refine stopE (split_at (by assumption) (by assumption) hra ?_)
      intro D5 vs5 p5 rest5 h5 k5 hs5 hr5 hp5 hpe5 F5 N5 l5
      k_steps
      rw [show (p5 :: rest5).getD (Int.toNat 0) Str.empty = p5 from rfl, hpe5, ← hpe]
      obtain ⟨r6, rest6, hr6, hrc6⟩ := lf_ex (us := ns.map nm) (q := p) (g := Str.ofString "") hul (somes_nodup p (bases_somes hp))
      have e46 := fresh_eq fr4 hr6
      subst e46
      refine stopE (lfresh_spec (by assumption) (by assumption) (by assumption) (by assumption) (by assumption) rfl (dlt (j := 20) hdp (by decide)) (dlt (j := 100) hu (by decide)) (.tail _ (.tail _ u1)) u2 hul (somes_len p (bases_somes hp)) hr6 ?_)
      intro t6 h6 tk6 F6 N6
      k_steps
      · rename (r4 != r4) = true => hh
        simp at hh
      · exact hq _ _ _ r tr (.inr hra) (hU2.ext (mods := []) (fun p hp _ => .tail _ (.tail _ hp)) (by simp)) (CellC.ext e2 (mods := []) (fun p hp _ => .tail _ (.tail _ hp)) (by simp)) (law_sub C H2 fun p hp => .tail _ (.tail _ hp)) F6 N6
      trace_state
    · exact hq _ _ _ q tq hqa hU hc H (by assumption) N
end
section
local macro_rules | `(tactic| walk_at "call ref") => stops [423, 438]
local macro_rules | `(tactic| k_enter) => enterT `kla_code "AAAAArrbpcvrh?rrrd" "fghabcdeijklrmopq"
section
variable {w : World} {loose : List Str} {mean : ExcName → Option Value} {mg mb : Str → Option Value} {dp un : Nat} {gd : Option (List Code)} {a : Addr} {A₀ : Around} {base h₀ : Heap} {L : Addr} {m : Str → Option Value} {news : List (Addr × Obj)} {s : Shared} {Q : Flow → Shared → Prop} {E : Value → Shared → Prop}
  {K : List (Addr × Obj)} {DK t0 dT R O tt ML SM OL : Addr} {c lb : Int} {ns : List Int} {nm : Int → Str} {bf : Int → BA} {mk : Int → MA}
theorem create1_bad (B : Below A₀ base [] h₀) (F : Fr h₀ L s.heap m) (X : (heapK w.params).In h₀) (N : News h₀ L s.heap news) (T : Top topProg loose mean mg mb h₀) (XB : (heapK w.params).In base) (TB : Top topProg loose mean mg mb base) (Ch : CodeHd h₀ 527 525) (hdp : dp + 40 < recursionLimit) (hu : un + 300 < cLine) (C : Chain L DK dT t0 R O tt ML SM) (M : LawM DK SM ML OL c m) (H : LawS w K L DK t0 dT R O tt ML SM OL lb lb ns nm mk ns nm c bf mk news)
    {US : Addr} {q : Str} {tq : Tok} (hU : UsedC L DK O tt ML US (ns.map nm) news) (hc : CellC (L + 1 + 1 + 1) (.str q tq) news) (hbad : q = Str.ofString "" ∨ q ≠ Str.ofString "" ∧ q ∈ ns.map nm)
    (hq : ∀ h' tk' news' t, UsedC L DK O tt ML US (ns.map nm) news' → CellC (L + 1 + 1 + 1) (.str q tq) news' → LawS w K L DK t0 dT R O tt ML SM OL lb lb ns nm mk ns nm c bf mk news' → Fr h₀ L h' (fun y => if y = Str.ofString "tale" then some (.str (Str.ofString "refused") t) else m y) → News h₀ L h' news' → Q .next { s with heap := h', toks := tk' }) :
    wpAny (model PySem.Challenge.pw_np0064_01 w) (ktrTop dp un gd (Str.ofString "law") lawScope L a (.ref 527) (lawCl L) []) (exec (createS 1) (lawEnv L a)) Q E s := by
  unfold lawEnv lawCl
  conv in createS 1 => whnf
  conv in (occs := *) lawScope => all_goals whnf
  obtain ⟨svs, sn, sm1, sm2⟩ := H.1.som
  k_steps
  refine stopE (lam_eval F N T Ch H.1.ct sm1 C.sm rfl rfl ?_)
  intro lam c' oc vs' t ctv news1 h1 tk1 F1 N1 e1 hlam ho hdt hv ll ct1
  have H1 := law_code C H e1 ct1
  have hU1 := hU.ext e1 (by simp)
  have hc1 := hc.ext e1 C.code.2.2.1
  clear N F hc
  obtain ⟨ob1, b1, b2⟩ := H1.1.ctb
  obtain ⟨ob2, c1, c2⟩ := id hc1
  obtain ⟨es, nT, oR, vs, nO, kvs, S, hB, hperm, hkl⟩ := H1.2.table
  have S' := S
  obtain ⟨hT, hdT, DT, hR, lo, hRd, hO, hI, _⟩ := S
  have gm : getL "create" es = some none := DT.other _ (by decide)
  k_steps
  refine stopE (told_spec B F1 X N1 T XB TB rfl (by omega) (by omega) hlam (fun _ _ => False) (fun nx => ∀ p ∈ news1, p ∈ nx) ?_ ?_ ?_)
  · intro dp1 un1 gd1 cn1 cs1 a1 ccd1 A1 L1 g1 m1 s1 Q1 E1 hdp1 hun1 hk1 B1 FF1 X1 NN1 T1 hQ hE
    rcases hbad with rfl | ⟨hqe, hqu⟩
    · refine wpAny_call ?_
      k_dflt k_enter
      k_steps
      refine stopE (create_empty (by assumption) (by assumption) (by assumption) (by assumption) (by assumption) rfl (dlt2 (j := 13) hdp (by assumption) (by decide)) (dlt2 (j := 63) hu (by assumption) (by decide)) ?_)
      intro e de h' tk' g₂ es n tn F6 R6 hs6
      refine fly_on (by assumption) F6 rfl R6 ?_
      intro h7 R7
      exact hE _ _ _ _ _ _ _ _ _ (fun p hp => hp) (by assumption) R7 hs6
    · obtain ⟨nq, hnq⟩ := used_find hqu
      refine wpAny_call ?_
      k_dflt k_enter
      k_steps
      refine stopE (create_used (by assumption) (by assumption) (by assumption) (by assumption) (by assumption) rfl (dlt2 (j := 13) hdp (by assumption) (by decide)) (dlt2 (j := 63) hu (by assumption) (by decide)) S' (fun n => (bf n).b) nm hB (by simpa using hqe) hnq ?_)
      intro e de h' tk' g₂ es n tn F6 R6 hs6
      refine fly_on (by assumption) F6 rfl R6 ?_
      intro h7 R7
      exact hE _ _ _ _ _ _ _ _ _ (fun p hp => hp) (by assumption) R7 hs6
  · exact fun _ _ _ _ h _ _ => h.elim
  · intro t5 h5 tk5 news5 p5 F5 N5
    k_steps
    rename News h₀ L _ _ => kN
    exact hq _ _ _ t5 (hU1.ext (mods := []) (fun p hp _ => p5 p hp) (by simp)) (CellC.ext hc1 (mods := []) (fun p hp _ => p5 p hp) (by simp)) (law_sub C H1 p5) (by assumption) kN
end
section
variable {w : World} {loose : List Str} {mean : ExcName → Option Value} {mg mb : Str → Option Value} {dp un : Nat} {gd : Option (List Code)} {a : Addr} {A₀ : Around} {base h₀ : Heap} {L : Addr} {m : Str → Option Value} {news : List (Addr × Obj)} {s : Shared} {Q : Flow → Shared → Prop} {E : Value → Shared → Prop}
  {K : List (Addr × Obj)} {DK t0 dT R O tt ML SM OL : Addr} {c lb : Int} {ns : List Int} {nm : Int → Str} {bf : Int → BA} {mk : Int → MA}
theorem create1_ok (B : Below A₀ base [] h₀) (F : Fr h₀ L s.heap m) (X : (heapK w.params).In h₀) (N : News h₀ L s.heap news) (T : Top topProg loose mean mg mb h₀) (XB : (heapK w.params).In base) (TB : Top topProg loose mean mg mb base) (Ch : CodeHd h₀ 527 525) (hdp : dp + 40 < recursionLimit) (hu : un + 300 < cLine) (C : Chain L DK dT t0 R O tt ML SM) (M : LawM DK SM ML OL c m) (H : LawS w K L DK t0 dT R O tt ML SM OL lb lb ns nm mk ns nm c bf mk news)
    {US : Addr} {q : Str} {tq : Tok} (hU : UsedC L DK O tt ML US (ns.map nm) news) (hc : CellC (L + 1 + 1 + 1) (.str q tq) news) (hqe : (q == Str.ofString "") = false) (hqu : q ∉ ns.map nm) (h10 : lb + 1 ≤ 10)
    (hq : ∀ h' tk' news' t bf', UsedC L DK O tt ML US (ns.map nm) news' → CellC (L + 1 + 1 + 1) (.str q tq) news' → LawN w K L DK t0 O tt ML SM OL lb ns nm mk news' → St w news' t0 dT R O SM (lb + 1) lb (ns ++ [lb + 1]) (fun n => if n = lb + 1 then q else nm n) c bf' mk → Fr h₀ L h' (fun y => if y = Str.ofString "tale" then some (.int (lb + 1) t) else m y) → News h₀ L h' news' → Q .next { s with heap := h', toks := tk' }) :
    wpAny (model PySem.Challenge.pw_np0064_01 w) (ktrTop dp un gd (Str.ofString "law") lawScope L a (.ref 527) (lawCl L) []) (exec (createS 1) (lawEnv L a)) Q E s := by
  unfold lawEnv lawCl
  conv in createS 1 => whnf
  conv in (occs := *) lawScope => all_goals whnf
  obtain ⟨svs, sn, sm1, sm2⟩ := H.1.som
  k_steps
  refine stopE (lam_eval F N T Ch H.1.ct sm1 C.sm rfl rfl ?_)
  intro lam c' oc vs' t ctv news1 h1 tk1 F1 N1 e1 hlam ho hdt hv ll ct1
  have H1 := law_code C H e1 ct1
  have hU1 := hU.ext e1 (by simp)
  have hc1 := hc.ext e1 C.code.2.2.1
  clear N F hc
  obtain ⟨ob1, b1, b2⟩ := H1.1.ctb
  obtain ⟨ob2, c1, c2⟩ := id hc1
  obtain ⟨es, nT, oR, vs, nO, kvs, S, hval, hperm⟩ := H1.2.T
  have hsm := H1.2.small
  have hB : Bufs news1 kvs ns (fun n => (bf n).b) nm := fun n hn => ⟨hval n hn, H1.2.liveBuf hn⟩
  have hkl : kvs.length = ns.length := by have := hperm.length_eq; rwa [List.length_map] at this
  have S' := S
  obtain ⟨hT, hdT, DT, hR, lo, hRd, hO, hI, _⟩ := S
  have gm : getL "create" es = some none := DT.other _ (by decide)
  k_steps
  refine stopE (told_spec B F1 X N1 T XB TB rfl (by omega) (by omega) hlam (fun v nx => ∃ t bf', v = .int (lb + 1) t ∧ UsedC L DK O tt ML US (ns.map nm) nx ∧ CellC (L + 1 + 1 + 1) (.str q tq) nx ∧ LawN w K L DK t0 O tt ML SM OL lb ns nm mk nx ∧ St w nx t0 dT R O SM (lb + 1) lb (ns ++ [lb + 1]) (fun n => if n = lb + 1 then q else nm n) c bf' mk) (fun _ => False) ?_ ?_ ?_)
  · intro dp1 un1 gd1 cn1 cs1 a1 ccd1 A1 L1 g1 m1 s1 Q1 E1 hdp1 hun1 hk1 B1 FF1 X1 NN1 T1 hQ hE
    refine wpAny_call ?_
    k_dflt k_enter
    k_steps
    refine stopE (create_ok (by assumption) (by assumption) (by assumption) (by assumption) (by assumption) rfl (dlt2 (j := 17) hdp (by assumption) (by decide)) (dlt2 (j := 83) hu (by assumption) (by decide)) S' (fun n => (bf n).b) nm hB (by omega) (by omega) hqe (unused_find hqu) ?_)
    intro A h6 tk6 news2 es1 n1 oR' nO' tn D1 hR' F6 N6 hs6 hlt6 hA
    obtain ⟨H6, f6⟩ := law_create (tn := tn) (nO' := nO') C H1 S' hval hperm h10 N1 D1 hR' hs6 hlt6 hA
    have hU6 := hU1.framed f6
    have hc6 := hc1.framed f6 C.cellsO.2.2.1
    have hLB := H6.2.bufs (lb + 1) (List.mem_append_right _ (.head _))
    have hb1 := hLB.hb
    obtain ⟨eb, kb, hb2, hb3⟩ := hLB.hdb
    obtain ⟨tb, hb4⟩ := hb3.number
    simp only [if_true] at hb1 hb2
    generalize put (put news2 R oR') O (listOf (vs ++ [Value.int (lb + 1) tn]).toArray nO') = news3 at *
    k_steps
    rename News _ _ _ news3 => kN
    exact hQ _ _ _ _ ⟨_, _, rfl, hU6, hc6, H6⟩ (by assumption) kN
  · rintro v h5 tk5 news5 ⟨t5, bf', rfl, p1, p2, p3, p4⟩ F5 N5
    k_steps
    rename News h₀ L _ _ => kN
    exact hq _ _ _ t5 bf' p1 p2 p3 p4 (by assumption) kN
  · exact fun _ _ _ _ h _ _ => h.elim
end
section
variable {w : World} {loose : List Str} {mean : ExcName → Option Value} {mg mb : Str → Option Value} {dp un : Nat} {gd : Option (List Code)} {a : Addr} {A₀ : Around} {base h₀ : Heap} {L : Addr} {m : Str → Option Value} {news : List (Addr × Obj)} {s : Shared} {Q : Flow → Shared → Prop} {E : Value → Shared → Prop}
  {K : List (Addr × Obj)} {DK t0 dT R O tt ML SM OL : Addr} {c lb : Int} {ns : List Int} {nm : Int → Str} {bf : Int → BA} {mk : Int → MA}
theorem create2_bad (B : Below A₀ base [] h₀) (F : Fr h₀ L s.heap m) (X : (heapK w.params).In h₀) (N : News h₀ L s.heap news) (T : Top topProg loose mean mg mb h₀) (hdp : dp + 40 < recursionLimit) (hu : un + 300 < cLine) 
    {US : Addr} {q : Str} {tq t : Tok} (hU : UsedC L DK O tt ML US (ns.map nm) news) (hc : CellC (L + 1 + 1 + 1) (.str q tq) news) (hus : m (Str.ofString "used") = some (.ref US)) (hta : m (Str.ofString "tale") = some (.str (Str.ofString "refused") t)) (hbad : q = Str.ofString "" ∨ q ≠ Str.ofString "" ∧ q ∈ ns.map nm)
    (hq : ∀ h' tk', Fr h₀ L h' m → News h₀ L h' news → Q .next { s with heap := h', toks := tk' }) :
    wpAny (model PySem.Challenge.pw_np0064_01 w) (ktrTop dp un gd (Str.ofString "law") lawScope L a (.ref 527) (lawCl L) []) (exec (createS 2) (lawEnv L a)) Q E s := by
  unfold lawEnv lawCl
  conv in createS 2 => whnf
  conv in (occs := *) lawScope => all_goals whnf
  obtain ⟨ob2, c1, c2⟩ := id hc
  obtain ⟨⟨uvs, un1, u1, u2⟩, u3⟩ := id hU
  have hal := u2.length
  rcases hbad with rfl | ⟨hqe, hqu⟩
  · k_steps
    exact hq _ _ (by assumption) N
  · have hin : (ns.map nm).any (· == q) = true := any_mem.mpr hqu
    k_steps
    · rename (q == _) = true => hh
      exact absurd (eq_of_beq hh) hqe
    · exact hq _ _ (by assumption) N
end
section
variable {w : World} {loose : List Str} {mean : ExcName → Option Value} {mg mb : Str → Option Value} {dp un : Nat} {gd : Option (List Code)} {a : Addr} {A₀ : Around} {base h₀ : Heap} {L : Addr} {m : Str → Option Value} {news : List (Addr × Obj)} {s : Shared} {Q : Flow → Shared → Prop} {E : Value → Shared → Prop}
  {K : List (Addr × Obj)} {DK t0 dT R O tt ML SM OL : Addr} {c lb : Int} {ns : List Int} {nm : Int → Str} {bf : Int → BA} {mk : Int → MA}
theorem rename0_spec (B : Below A₀ base [] h₀) (F : Fr h₀ L s.heap m) (X : (heapK w.params).In h₀) (N : News h₀ L s.heap news) (T : Top topProg loose mean mg mb h₀) (hdp : dp + 40 < recursionLimit) (hu : un + 300 < cLine) (C : Chain L DK dT t0 R O tt ML SM) (M : LawM DK SM ML OL c m) (H : LawS w K L DK t0 dT R O tt ML SM OL lb lb ns nm mk ns nm c bf mk news)
    {US : Addr} {q : Str} {tq : Tok} {num : Int} (hn : num ∈ ns) (hU : UsedC L DK O tt ML US (ns.map nm) news) (hc : CellC (L + 1 + 1 + 1) (.str q tq) news) (ho : CellC (L + 1 + 1 + 1 + 1) (.ref (bf num).b) news)
    (hq : ∀ h' tk' news' b OT, UsedC L DK O tt ML US (ns.map nm) news' → UsedC L DK O tt ML OT ((ns.filter (· != num)).map nm) news' → CellC (L + 1 + 1 + 1) (.str q tq) news' → CellC (L + 1 + 1 + 1 + 1) (.ref (bf num).b) news' → CellC (L + 1 + 1) (.bool b) news' → LawS w K L DK t0 dT R O tt ML SM OL lb lb ns nm mk ns nm c bf mk news' → Fr h₀ L h' (fun y => if y = Str.ofString "others" then some (.ref OT) else m y) → News h₀ L h' news' → Q .next { s with heap := h', toks := tk' }) :
    wpAny (model PySem.Challenge.pw_np0064_01 w) (ktrTop dp un gd (Str.ofString "law") lawScope L a (.ref 527) (lawCl L) []) (exec (renameS 0) (lawEnv L a)) Q E s := by
  unfold lawEnv lawCl
  conv in renameS 0 => whnf
  conv in (occs := *) lawScope => all_goals whnf
  obtain ⟨dvs, nD, ds, d1, d2, d3⟩ := H.1.deck
  have hm1 := M.mdk; have hm3 := M.mor
  k_steps
  refine stopE (draw_spec (by assumption) (by assumption) (by assumption) (by assumption) (by assumption) rfl (dlt (j := 20) hdp (by decide)) (dlt (j := 100) hu (by decide)) (D := DK) (by k_mem) d2 d3 (by decide) (by decide) ?_)
  intro r t h1 tk1 vs1 ds1 n1' r0 r1 I1 P1 F1 N1
  have H1 := law_putDeck N1 C H (fun p hp => hp) I1 P1
  have hU1 := hU.ext (news' := put news DK (listOf vs1.toArray n1')) (mods := [DK]) (Ext.refl news).put (by simp)
  have q1 := C.cells
  have hc1 := hc.ext (news' := put news DK (listOf vs1.toArray n1')) (mods := [DK]) (Ext.refl news).put fun z => q1.2.2.1 (List.mem_singleton.mp z)
  have ho1 := ho.ext (news' := put news DK (listOf vs1.toArray n1')) (mods := [DK]) (Ext.refl news).put fun z => q1.2.2.2.1 (List.mem_singleton.mp z)
  generalize put news DK (listOf vs1.toArray n1') = news1 at *
  clear d1 d2 d3 N F hc ho hU H
  obtain ⟨oT, tks, t1, t2, t3, t5, t4⟩ := H1.1.tit
  obtain ⟨ovs, on, o1, o2, o3, o4⟩ := H1.1.ord
  obtain ⟨ob1, b1, b2⟩ := H1.1.ctt
  obtain ⟨ob3, e1, e2⟩ := id ho1
  obtain ⟨ob2, vb2, c1, c2⟩ := H1.1.cel (L + 1 + 1) (by simp)
  have hol := o2.length
  have hsm := H1.2.small
  have hLB := H1.2.bufs num hn
  have hb1 := hLB.hb
  obtain ⟨eb, kb, hb2, hb3⟩ := hLB.hdb
  obtain ⟨tb, hb4⟩ := hb3.number
  k_steps
  refine stopE (LCt.CompSrcT.ledger rfl (by assumption) (by assumption) o1 (by rw [sizeLine_eq]; simp; omega) ?_)
  intro g2
  refine compT (as := ns) isI isS (fun o => o != num) nm (by simp [hol]) (fun i v hi hv => (are_ints o2).at i v (by simpa using hv)) ?_ ?_
  · rintro o v I oI C' oC D m₂ ys h3 tk3 E' ho ⟨t, rfl⟩ hC hx F' N' off ne
    obtain ⟨tt2, hto⟩ := t4 o ho
    k_steps
    · exact ⟨_, _, _, rfl, by assumption, by assumption, off, .inr ⟨_, o1, rfl, _, rfl⟩, rfl, by simp_all, _, rfl⟩
    · exact ⟨_, _, _, rfl, by assumption, by assumption, off, .inr ⟨_, o1, rfl, _, rfl⟩, rfl, by simp_all⟩
  intro ys hys
  have hys2 := hys.strs
  unfold LCg.FinE
  intro D3 h4 tk4 F8 N8 l8
  have hO8 : UsedC L DK O tt ML D3 ((ns.filter (· != num)).map nm) ((D3, LCg.lst ys) :: news1) := UsedC.make H1 (off1_ne l8) hys2
  k_steps
  rename News h₀ L _ (put _ _ _) => kN
  rename _ = Data.cell (some (Value.bool _)) => hdn
  obtain ⟨H9, c9⟩ := law_putCell kN C H1 (fun p hp => .tail _ (.tail _ hp)) (.inl rfl) hdn
  have e9 : ∀ {d e : Addr × Obj} {o : Obj}, Ext [L + 1 + 1] news1 (put (d :: e :: news1) (L + 1 + 1) o) := fun p hp hn => mem_put_ne (.tail _ (.tail _ hp)) fun z => hn (z ▸ .head _)
  have e8 : ∀ {d e : Addr × Obj} {o : Obj}, Ext [L + 1 + 1] (e :: news1) (put (d :: e :: news1) (L + 1 + 1) o) := fun p hp hn => mem_put_ne (.tail _ hp) fun z => hn (z ▸ .head _)
  exact hq _ _ _ (r == 1) D3 (hU1.ext e9 (by simp)) (hO8.ext e8 (by simp)) (hc1.ext e9 fun z => absurd (List.mem_singleton.mp z) (neN (by omega))) (ho1.ext e9 fun z => absurd (List.mem_singleton.mp z) (neN (by omega))) c9 H9 (by assumption) kN
end
section
variable {w : World} {loose : List Str} {mean : ExcName → Option Value} {mg mb : Str → Option Value} {dp un : Nat} {gd : Option (List Code)} {a : Addr} {A₀ : Around} {base h₀ : Heap} {L : Addr} {m : Str → Option Value} {news : List (Addr × Obj)} {s : Shared} {Q : Flow → Shared → Prop} {E : Value → Shared → Prop}
  {K : List (Addr × Obj)} {DK t0 dT R O tt ML SM OL : Addr} {c lb : Int} {ns : List Int} {nm : Int → Str} {bf : Int → BA} {mk : Int → MA}
theorem rename1_spec (B : Below A₀ base [] h₀) (F : Fr h₀ L s.heap m) (X : (heapK w.params).In h₀) (N : News h₀ L s.heap news) (T : Top topProg loose mean mg mb h₀) (hdp : dp + 40 < recursionLimit) (hu : un + 300 < cLine) (C : Chain L DK dT t0 R O tt ML SM) (H : LawS w K L DK t0 dT R O tt ML SM OL lb lb ns nm mk ns nm c bf mk news)
    {US : Addr} {q : Str} {tq : Tok} {num : Int} (hn : num ∈ ns) (hqs : q ∈ somes) (hU : UsedC L DK O tt ML US (ns.map nm) news) (hc : CellC (L + 1 + 1 + 1) (.str q tq) news) (ho : CellC (L + 1 + 1 + 1 + 1) (.ref (bf num).b) news) (hus : m (Str.ofString "used") = some (.ref US))
    (hq : ∀ h' tk' r t rest, (q :: (rangeKs 2 ((ns.map nm).length + 2)).map (candS q)).filter (fun o => o == nm num || !(ns.map nm).any (· == o)) = r :: rest → r ∈ cands q → Fr h₀ L h' (fun y => if y = Str.ofString "due" then some (.str r t) else m y) → News h₀ L h' news → Q .next { s with heap := h', toks := tk' }) :
    wpAny (model PySem.Challenge.pw_np0064_01 w) (ktrTop dp un gd (Str.ofString "law") lawScope L a (.ref 527) (lawCl L) []) (exec (renameS 1) (lawEnv L a)) Q E s := by
  unfold lawEnv lawCl
  conv in renameS 1 => whnf
  conv in (occs := *) lawScope => all_goals whnf
  obtain ⟨⟨uvs, un1, u1, u2⟩, u3⟩ := id hU
  obtain ⟨ob3, e1, e2⟩ := id ho
  obtain ⟨ob2, c1, c2⟩ := id hc
  have hsm := H.2.small
  have hul : (ns.map nm).length ≤ 10 := by simpa using hsm
  have hLB := H.2.bufs num hn
  have hb1 := hLB.hb
  obtain ⟨eb, kb, hb2, hb3⟩ := hLB.hdb
  obtain ⟨tb, hb4⟩ := hb3.name
  obtain ⟨r, rest, hr, hrc⟩ := lf_ex (us := ns.map nm) (q := q) (g := nm num) hul (somes_nodup q hqs)
  k_steps
  refine stopE (lfresh_spec (by assumption) (by assumption) (by assumption) (by assumption) (by assumption) rfl (dlt (j := 20) hdp (by decide)) (dlt (j := 100) hu (by decide)) u1 u2 hul (somes_len q hqs) hr ?_)
  intro tr h1 tk1 F1 N1
  k_steps
  rename News h₀ L _ _ => kN
  exact hq _ _ r tr rest hr hrc (by assumption) kN
theorem rename3_bad (B : Below A₀ base [] h₀) (F : Fr h₀ L s.heap m) (X : (heapK w.params).In h₀) (N : News h₀ L s.heap news) (T : Top topProg loose mean mg mb h₀) (hdp : dp + 40 < recursionLimit) (hu : un + 300 < cLine) (C : Chain L DK dT t0 R O tt ML SM) (H : LawS w K L DK t0 dT R O tt ML SM OL lb lb ns nm mk ns nm c bf mk news)
    {OT : Addr} {q : Str} {tq t : Tok} {num : Int} {b : Bool} (hO : UsedC L DK O tt ML OT ((ns.filter (· != num)).map nm) news) (hc : CellC (L + 1 + 1 + 1) (.str q tq) news) (hf : CellC (L + 1 + 1) (.bool b) news) (hot : m (Str.ofString "others") = some (.ref OT)) (hta : m (Str.ofString "tale") = some (.str (Str.ofString "refused") t)) (hbad : q = Str.ofString "" ∨ q ≠ Str.ofString "" ∧ b = false ∧ q ∈ (ns.filter (· != num)).map nm)
    (hq : ∀ h' tk', Fr h₀ L h' m → News h₀ L h' news → Q .next { s with heap := h', toks := tk' }) :
    wpAny (model PySem.Challenge.pw_np0064_01 w) (ktrTop dp un gd (Str.ofString "law") lawScope L a (.ref 527) (lawCl L) []) (exec (renameS 3) (lawEnv L a)) Q E s := by
  unfold lawEnv lawCl
  conv in renameS 3 => whnf
  conv in (occs := *) lawScope => all_goals whnf
  obtain ⟨ob2, c1, c2⟩ := id hc
  obtain ⟨ob4, f1, f2⟩ := id hf
  obtain ⟨⟨uvs, un1, u1, u2⟩, u3⟩ := id hO
  have hal := u2.length
  rcases hbad with rfl | ⟨hqe, rfl, hqu⟩
  · k_steps
    exact hq _ _ (by assumption) N
  · have hin : ((ns.filter (· != num)).map nm).any (· == q) = true := any_mem.mpr hqu
    k_steps
    · rename (q == _) = true => hh
      exact absurd (eq_of_beq hh) hqe
    · exact hq _ _ (by assumption) N
end
section
variable {w : World} {loose : List Str} {mean : ExcName → Option Value} {mg mb : Str → Option Value} {dp un : Nat} {gd : Option (List Code)} {a : Addr} {A₀ : Around} {base h₀ : Heap} {L : Addr} {m : Str → Option Value} {news : List (Addr × Obj)} {s : Shared} {Q : Flow → Shared → Prop} {E : Value → Shared → Prop}
  {K : List (Addr × Obj)} {DK t0 dT R O tt ML SM OL : Addr} {c lb : Int} {ns : List Int} {nm : Int → Str} {bf : Int → BA} {mk : Int → MA}
theorem rename2_bad (B : Below A₀ base [] h₀) (F : Fr h₀ L s.heap m) (X : (heapK w.params).In h₀) (N : News h₀ L s.heap news) (T : Top topProg loose mean mg mb h₀) (XB : (heapK w.params).In base) (TB : Top topProg loose mean mg mb base) (Ch : CodeHd h₀ 527 525) (hdp : dp + 40 < recursionLimit) (hu : un + 300 < cLine) (C : Chain L DK dT t0 R O tt ML SM) (H : LawS w K L DK t0 dT R O tt ML SM OL lb lb ns nm mk ns nm c bf mk news) (G : Good ns nm)
    {US OT : Addr} {q : Str} {tq : Tok} {num : Int} {b : Bool} (hn : num ∈ ns) (hU : UsedC L DK O tt ML US (ns.map nm) news) (hO : UsedC L DK O tt ML OT ((ns.filter (· != num)).map nm) news) (hc : CellC (L + 1 + 1 + 1) (.str q tq) news) (ho : CellC (L + 1 + 1 + 1 + 1) (.ref (bf num).b) news) (hf : CellC (L + 1 + 1) (.bool b) news) (hbad : q = Str.ofString "" ∨ q ≠ Str.ofString "" ∧ b = false ∧ q ∈ (ns.filter (· != num)).map nm)
    (hq : ∀ h' tk' news' t, UsedC L DK O tt ML US (ns.map nm) news' → UsedC L DK O tt ML OT ((ns.filter (· != num)).map nm) news' → CellC (L + 1 + 1 + 1) (.str q tq) news' → CellC (L + 1 + 1 + 1 + 1) (.ref (bf num).b) news' → CellC (L + 1 + 1) (.bool b) news' → LawS w K L DK t0 dT R O tt ML SM OL lb lb ns nm mk ns nm c bf mk news' → Fr h₀ L h' (fun y => if y = Str.ofString "tale" then some (.str (Str.ofString "refused") t) else m y) → News h₀ L h' news' → Q .next { s with heap := h', toks := tk' }) :
    wpAny (model PySem.Challenge.pw_np0064_01 w) (ktrTop dp un gd (Str.ofString "law") lawScope L a (.ref 527) (lawCl L) []) (exec (renameS 2) (lawEnv L a)) Q E s := by
  unfold lawEnv lawCl
  conv in renameS 2 => whnf
  conv in (occs := *) lawScope => all_goals whnf
  obtain ⟨svs, sn, sm1, sm2⟩ := H.1.som
  k_steps
  refine stopE (lam_eval F N T Ch H.1.ct sm1 C.sm rfl rfl ?_)
  intro lam c' oc vs' t ctv news1 h1 tk1 F1 N1 e1 hlam hoc hdt hv ll ct1
  have H1 := law_code C H e1 ct1
  have hU1 := hU.ext e1 (by simp)
  have hO1 := hO.ext e1 (by simp)
  have hc1 := hc.ext e1 C.code.2.2.1
  have ho1 := ho.ext e1 C.code.2.2.2.1
  have hf1 := hf.ext e1 C.code.2.1
  clear N F hc hU hO ho hf
  obtain ⟨ob1, b1, b2⟩ := H1.1.ctb
  obtain ⟨ob2, c1, c2⟩ := id hc1
  obtain ⟨ob3, i1, i2⟩ := id ho1
  obtain ⟨ob4, j1, j2⟩ := id hf1
  obtain ⟨es, nT, oR, vs, nO, kvs, S, hval, hperm⟩ := H1.2.T
  have hsm := H1.2.small
  have hB : Bufs news1 kvs ns (fun n => (bf n).b) nm := fun n hn => ⟨hval n hn, H1.2.liveBuf hn⟩
  have S' := S
  obtain ⟨hT, hdT, DT, hR, lo, hRd, hO, hI, _⟩ := S
  have gm : getL "rename" es = some none := DT.other _ (by decide)
  have hLB := H1.2.bufs num hn
  have hb1 := hLB.hb
  obtain ⟨eb, kb, hb2, hb3⟩ := hLB.hdb
  k_steps
  refine stopE (told_spec B F1 X N1 T XB TB rfl (by omega) (by omega) hlam (fun _ _ => False) (fun nx => ∀ p ∈ news1, p ∈ nx) ?_ ?_ ?_)
  · intro dp1 un1 gd1 cn1 cs1 a1 ccd1 A1 L1 g1 m1 s1 Q1 E1 hdp1 hun1 hk1 B1 FF1 X1 NN1 T1 hQ hE
    rcases hbad with rfl | ⟨hqe, rfl, hqu⟩
    · skip
      refine wpAny_call ?_
      k_dflt k_enter
      k_steps
      refine stopE (rename_empty (by assumption) (by assumption) (by assumption) (by assumption) (by assumption) rfl (dlt2 (j := 21) hdp (by assumption) (by decide)) (dlt2 (j := 103) hu (by assumption) (by decide)) S' (fun n => (bf n).b) nm hB ?_)
      intro e de h' tk' g₂ es n tn F6 R6 hs6
      refine fly_on (by assumption) F6 rfl R6 ?_
      intro h7 R7
      exact hE _ _ _ _ _ _ _ _ _ (fun p hp => hp) (by assumption) R7 hs6
    · obtain ⟨n2, hn2, he2⟩ := List.mem_map.mp hqu
      have hn3 := List.mem_filter.mp hn2
      have hnq := find_self G.inj hn3.1
      rw [he2] at hnq
      have hne2 : n2 ≠ num := by simpa using hn3.2
      refine wpAny_call ?_
      k_dflt k_enter
      k_steps
      refine stopE (rename_used (by assumption) (by assumption) (by assumption) (by assumption) (by assumption) rfl (dlt2 (j := 21) hdp (by assumption) (by decide)) (dlt2 (j := 103) hu (by assumption) (by decide)) S' (fun n => (bf n).b) nm hB hb1 (by simpa using hqe) hnq (H1.2.b_ne hn3.1 hn hne2) ?_)
      intro e de h' tk' g₂ es n tn F6 R6 hs6
      refine fly_on (by assumption) F6 rfl R6 ?_
      intro h7 R7
      exact hE _ _ _ _ _ _ _ _ _ (fun p hp => hp) (by assumption) R7 hs6
  · exact fun _ _ _ _ h _ _ => h.elim
  · intro t5 h5 tk5 news5 p5 F5 N5
    k_steps
    rename News h₀ L _ _ => kN
    have ee : Ext [] news1 news5 := fun p hp _ => p5 p hp
    exact hq _ _ _ t5 (hU1.ext ee (by simp)) (hO1.ext ee (by simp)) (hc1.ext ee (by simp)) (ho1.ext ee (by simp)) (hf1.ext ee (by simp)) (law_sub C H1 p5) (by assumption) kN
end
section
variable {w : World} {loose : List Str} {mean : ExcName → Option Value} {mg mb : Str → Option Value} {dp un : Nat} {gd : Option (List Code)} {a : Addr} {A₀ : Around} {base h₀ : Heap} {L : Addr} {m : Str → Option Value} {news : List (Addr × Obj)} {s : Shared} {Q : Flow → Shared → Prop} {E : Value → Shared → Prop}
  {K : List (Addr × Obj)} {DK t0 dT R O tt ML SM OL : Addr} {c lb : Int} {ns : List Int} {nm : Int → Str} {bf : Int → BA} {mk : Int → MA}
theorem rename2_ok (B : Below A₀ base [] h₀) (F : Fr h₀ L s.heap m) (X : (heapK w.params).In h₀) (N : News h₀ L s.heap news) (T : Top topProg loose mean mg mb h₀) (XB : (heapK w.params).In base) (TB : Top topProg loose mean mg mb base) (Ch : CodeHd h₀ 527 525) (hdp : dp + 40 < recursionLimit) (hu : un + 300 < cLine) (C : Chain L DK dT t0 R O tt ML SM) (H : LawS w K L DK t0 dT R O tt ML SM OL lb lb ns nm mk ns nm c bf mk news) (G : Good ns nm)
    {US OT : Addr} {q r : Str} {rest : List Str} {tq : Tok} {num : Int} {b : Bool} (hn : num ∈ ns) (hqs : q ∈ somes) (hU : UsedC L DK O tt ML US (ns.map nm) news) (hO : UsedC L DK O tt ML OT ((ns.filter (· != num)).map nm) news) (hc : CellC (L + 1 + 1 + 1) (.str q tq) news) (ho : CellC (L + 1 + 1 + 1 + 1) (.ref (bf num).b) news) (hf : CellC (L + 1 + 1) (.bool b) news) (hqe : (q == Str.ofString "") = false) (hok : b = true ∨ q ∉ (ns.filter (· != num)).map nm) (hr : (q :: (rangeKs 2 ((ns.map nm).length + 2)).map (candS q)).filter (fun o => o == nm num || !(ns.map nm).any (· == o)) = r :: rest)
    (hq : ∀ h' tk' news' t, UsedC L DK O tt ML US (ns.map nm) news' → UsedC L DK O tt ML OT ((ns.filter (· != num)).map nm) news' → CellC (L + 1 + 1 + 1) (.str q tq) news' → CellC (L + 1 + 1 + 1 + 1) (.ref (bf num).b) news' → CellC (L + 1 + 1) (.bool b) news' → LawS w K L DK t0 dT R O tt ML SM OL lb lb ns nm mk ns (fun n => if n = num then r else nm n) c bf mk news' → Fr h₀ L h' (fun y => if y = Str.ofString "tale" then some (.str r t) else m y) → News h₀ L h' news' → Q .next { s with heap := h', toks := tk' }) :
    wpAny (model PySem.Challenge.pw_np0064_01 w) (ktrTop dp un gd (Str.ofString "law") lawScope L a (.ref 527) (lawCl L) []) (exec (renameS 2) (lawEnv L a)) Q E s := by
  unfold lawEnv lawCl
  conv in renameS 2 => whnf
  conv in (occs := *) lawScope => all_goals whnf
  obtain ⟨svs, sn, sm1, sm2⟩ := H.1.som
  k_steps
  refine stopE (lam_eval F N T Ch H.1.ct sm1 C.sm rfl rfl ?_)
  intro lam c' oc vs' t ctv news1 h1 tk1 F1 N1 e1 hlam hoc hdt hv ll ct1
  have H1 := law_code C H e1 ct1
  have hU1 := hU.ext e1 (by simp)
  have hO1 := hO.ext e1 (by simp)
  have hc1 := hc.ext e1 C.code.2.2.1
  have ho1 := ho.ext e1 C.code.2.2.2.1
  have hf1 := hf.ext e1 C.code.2.1
  clear N F hc hU hO ho hf
  obtain ⟨ob1, b1, b2⟩ := H1.1.ctb
  obtain ⟨ob2, c1, c2⟩ := id hc1
  obtain ⟨ob3, i1, i2⟩ := id ho1
  obtain ⟨ob4, j1, j2⟩ := id hf1
  obtain ⟨es, nT, oR, vs, nO, kvs, S, hval, hperm⟩ := H1.2.T
  have hsm := H1.2.small
  have hB : Bufs news1 kvs ns (fun n => (bf n).b) nm := fun n hn => ⟨hval n hn, H1.2.liveBuf hn⟩
  have S' := S
  obtain ⟨hT, hdT, DT, hR, lo, hRd, hO, hI, _⟩ := S
  have gm : getL "rename" es = some none := DT.other _ (by decide)
  have hLB := H1.2.bufs num hn
  have hb1 := hLB.hb
  obtain ⟨eb, kb, hb2, hb3⟩ := hLB.hdb
  k_steps
  have hdt : (bf num).db ≠ dT := fun z => by
    have rn := H1.2.rng num hn
    exact Nat.lt_irrefl _ (Nat.lt_trans (z ▸ (H1.2.o2 num rn.1 rn.2).1) H1.2.o1.2.1)
  have hfr : b = true ∨ (ns.find? fun n => nm n == q) = none ∨ ∃ n, (ns.find? fun n => nm n == q) = some n ∧ (bf n).b = (bf num).b := by
    rcases hok with z | z
    · exact .inl z
    · cases hz : ns.find? (fun n => nm n == q) with
      | none => exact .inr (.inl rfl)
      | some n2 =>
        have h1 := List.find?_some hz
        have h2 := List.mem_of_find?_eq_some hz
        by_cases h3 : n2 = num
        · exact .inr (.inr ⟨n2, rfl, by rw [h3]⟩)
        · exact absurd (List.mem_map.mpr ⟨n2, List.mem_filter.mpr ⟨h2, by simpa using h3⟩, eq_of_beq h1⟩) z
  refine stopE (told_spec B F1 X N1 T XB TB rfl (by omega) (by omega) hlam (fun v nx => ∃ t, v = .str r t ∧ UsedC L DK O tt ML US (ns.map nm) nx ∧ UsedC L DK O tt ML OT ((ns.filter (· != num)).map nm) nx ∧ CellC (L + 1 + 1 + 1) (.str q tq) nx ∧ CellC (L + 1 + 1 + 1 + 1) (.ref (bf num).b) nx ∧ CellC (L + 1 + 1) (.bool b) nx ∧ LawS w K L DK t0 dT R O tt ML SM OL lb lb ns nm mk ns (fun n => if n = num then r else nm n) c bf mk nx) (fun _ => False) ?_ ?_ ?_)
  · intro dp1 un1 gd1 cn1 cs1 a1 ccd1 A1 L1 g1 m1 s1 Q1 E1 hdp1 hun1 hk1 B1 FF1 X1 NN1 T1 hQ hE
    · skip
      refine wpAny_call ?_
      k_dflt k_enter
      k_steps
      refine stopE (rename_ok (by assumption) (by assumption) (by assumption) (by assumption) (by assumption) rfl (dlt2 (j := 21) hdp (by assumption) (by decide)) (dlt2 (j := 103) hu (by assumption) (by decide)) S' (fun n => (bf n).b) nm hB hb1 hb2 hb3 hdt (by have := somes_len q hqs; omega) (hex_of hsm (somes_nodup q hqs)) hqe hfr ?_)
      intro r6 t6 h6 tk6 eb' nb' t2 fr6 g1 g2 g3 F6 N6
      have er := fresh_eq fr6 hr
      subst er
      obtain ⟨H6, f6⟩ := law_rename (nb' := nb') C H1 hn hb2 hb3 g1 g2 g3 N1
      have hU6 := hU1.framed f6
      have hO6 := hO1.framed f6
      have hc6 := hc1.framed f6 C.cellsO.2.2.1
      have ho6 := ho1.framed f6 C.cellsO.2.2.2.1
      have hf6 := hf1.framed f6 C.cellsO.2.1
      generalize put news1 (bf num).db (dictOf eb' nb') = news3 at *
      k_steps
      rename News _ _ _ news3 => kN
      exact hQ _ _ _ _ ⟨_, rfl, hU6, hO6, hc6, ho6, hf6, H6⟩ (by assumption) kN
  · rintro v h5 tk5 news5 ⟨t5, rfl, p1, p2, p3, p4, p5, p6⟩ F5 N5
    k_steps
    rename News h₀ L _ _ => kN
    exact hq _ _ _ t5 p1 p2 p3 p4 p5 p6 (by assumption) kN
  · exact fun _ _ _ _ h _ _ => h.elim
end
section
variable {w : World} {loose : List Str} {mean : ExcName → Option Value} {mg mb : Str → Option Value} {dp un : Nat} {gd : Option (List Code)} {a : Addr} {A₀ : Around} {base h₀ : Heap} {L : Addr} {m : Str → Option Value} {news : List (Addr × Obj)} {s : Shared} {Q : Flow → Shared → Prop} {E : Value → Shared → Prop}
  {K : List (Addr × Obj)} {DK t0 dT R O tt ML SM OL : Addr} {c lb : Int} {ns : List Int} {nm : Int → Str} {bf : Int → BA} {mk : Int → MA}
theorem select0_spec (B : Below A₀ base [] h₀) (F : Fr h₀ L s.heap m) (X : (heapK w.params).In h₀) (N : News h₀ L s.heap news) (T : Top topProg loose mean mg mb h₀) (hdp : dp + 40 < recursionLimit) (hu : un + 300 < cLine) (C : Chain L DK dT t0 R O tt ML SM) (H : LawS w K L DK t0 dT R O tt ML SM OL lb lb ns nm mk ns nm c bf mk news) {num : Int} (hn : num ∈ ns) (ho : CellC (L + 1 + 1 + 1 + 1) (.ref (bf num).b) news)
    (hq : ∀ h' tk' news', LawS w K L DK t0 dT R O tt ML SM OL lb lb ns nm mk (num :: ns.erase num) nm num bf mk news' → CellC (L + 1 + 1 + 1 + 1) (.ref (bf num).b) news' → Fr h₀ L h' m → News h₀ L h' news' → Q .next { s with heap := h', toks := tk' }) :
    wpAny (model PySem.Challenge.pw_np0064_01 w) (ktrTop dp un gd (Str.ofString "law") lawScope L a (.ref 527) (lawCl L) []) (exec (selectS 0) (lawEnv L a)) Q E s := by
  unfold lawEnv lawCl
  conv in selectS 0 => whnf
  conv in (occs := *) lawScope => all_goals whnf
  obtain ⟨ob1, b1, b2⟩ := H.1.ctb
  obtain ⟨ob3, i1, i2⟩ := id ho
  have hsm := H.2.small
  obtain ⟨es, nT, oR, vs, nO, kvs, S, hval, hperm⟩ := H.2.T
  have S' := S
  obtain ⟨hT, hdT, DT, hR, lo, hRd, hO, hI, _⟩ := S
  have gm : getL "select" es = some none := DT.other _ (by decide)
  k_steps
  refine stopE (select_spec (by assumption) (by assumption) (by assumption) (by assumption) (by assumption) rfl (dlt (j := 8) hdp (by decide)) (dlt (j := 40) hu (by decide)) S' (H.2.liveBuf hn) (H.2.b_own N hn) hn (by omega) ?_)
  intro h1 tk1 vs1 n1 es1 n2 hI1 D1 F1 N1
  obtain ⟨H1, f1⟩ := law_select (n2 := n2) (nO' := n1) C H hn S' hval hperm N D1 hI1
  have ho1 := ho.framed f1 C.cellsO.2.2.2.1
  generalize put (put news dT (dictOf es1 n2)) O (listOf vs1.toArray n1) = news1 at *
  k_steps
  exact hq _ _ _ H1 ho1 (by assumption) N1
theorem select1_spec (B : Below A₀ base [] h₀) (F : Fr h₀ L s.heap m) (X : (heapK w.params).In h₀) (N : News h₀ L s.heap news) (T : Top topProg loose mean mg mb h₀) (hdp : dp + 40 < recursionLimit) (hu : un + 300 < cLine) (C : Chain L DK dT t0 R O tt ML SM) (M : LawM DK SM ML OL c m) {num : Int} (H : LawS w K L DK t0 dT R O tt ML SM OL lb lb ns nm mk (num :: ns.erase num) nm num bf mk news) (hn : num ∈ ns) (ho : CellC (L + 1 + 1 + 1 + 1) (.ref (bf num).b) news)
    (hq : ∀ h' tk' news' OL' m', LawM DK SM ML OL' num m' → LawS w K L DK t0 dT R O tt ML SM OL' lb lb (num :: ns.erase num) nm mk (num :: ns.erase num) nm num bf mk news' → Fr h₀ L h' m' → News h₀ L h' news' → Q .next { s with heap := h', toks := tk' }) :
    wpAny (model PySem.Challenge.pw_np0064_01 w) (ktrTop dp un gd (Str.ofString "law") lawScope L a (.ref 527) (lawCl L) []) (exec (selectS 1) (lawEnv L a)) Q E s := by
  unfold lawEnv lawCl
  conv in selectS 1 => whnf
  conv in (occs := *) lawScope => all_goals whnf
  obtain ⟨ob3, i1, i2⟩ := id ho
  have hsm : ns.length ≤ 10 := by
    have := H.2.small
    rwa [(List.perm_cons_erase hn).symm.length_eq] at this
  obtain ⟨es, nT, oR, vs, nO, kvs, S, hval, hperm⟩ := H.2.T
  have hLB := H.2.bufs num (.head _)
  have hb1 := hLB.hb
  obtain ⟨eb, kb, hb2, hb3⟩ := hLB.hdb
  obtain ⟨tb, hb4⟩ := hb3.number
  obtain ⟨ovs, on, o1, o2, o3, o4⟩ := H.1.ord
  obtain ⟨mvs, nM, a1, a2, a3⟩ := H.1.mar
  have hol := o2.length
  have hm1 := M.mdk; have hm3 := M.mor
  k_steps
  refine stopE (LCt.CompSrcT.ledger rfl (by assumption) (by assumption) (.tail _ o1) (by rw [sizeLine_eq]; simp; omega) ?_)
  intro g2
  refine compT (as := ns) isI isI (fun o => o != num) id (by simp [hol]) (fun i v hi hv => (are_ints o2).at i v (by simpa using hv)) ?_ ?_
  · rintro o v I oI C' oC D m₂ ys h3 tk3 E' ho' ⟨t, rfl⟩ hC hx F' N' off ne
    k_steps
    · exact ⟨_, _, _, rfl, by assumption, by assumption, off, .inr ⟨_, .tail _ o1, rfl, _, rfl⟩, rfl, by simp_all, _, rfl⟩
    · exact ⟨_, _, _, rfl, by assumption, by assumption, off, .inr ⟨_, .tail _ o1, rfl, _, rfl⟩, rfl, by simp_all⟩
  intro ys hys
  rw [List.map_id] at hys
  have hys2 := hys.ints
  clear hys
  unfold LCg.FinE
  intro D3 h4 tk4 F8 N8 l8
  have hfl : (ns.filter (fun o => o != num)).length ≤ 10 := Nat.le_trans (List.length_filter_le _ _) hsm
  k_steps
  have hnd : ns.Nodup := ((List.perm_cons_erase hn).symm).nodup_iff.mp H.2.nd
  rename News h₀ L _ (_ :: _) => kN
  rename Fr h₀ L _ (fun y => if y = Str.ofString "order" then _ else _) => kF
  rename IntsAre _ ([num] ++ _) => hI9
  have up : ∀ {d1 d2 d3 d4 : Addr × Obj}, ∀ p ∈ news, p ∈ d1 :: d2 :: d3 :: d4 :: news := fun p hp => .tail _ (.tail _ (.tail _ (.tail _ hp)))
  refine hq _ _ _ _ _ (M.current).order ⟨books_order H.1 up (.tail _ (.head _)) (off_lt H.1 S.hO (by assumption)) (ne_of_all (by assumption) a1) (by rw [erase_filter hnd]; exact hI9) (fun n hn' => ((List.perm_cons_erase hn).symm).mem_iff.mp hn'), H.2.lawStep C ((Ext.refl news).sub up) (fun d hd => nomatch hd)⟩ kF kN
end
section
variable {w : World} {loose : List Str} {mean : ExcName → Option Value} {mg mb : Str → Option Value} {dp un : Nat} {gd : Option (List Code)} {a : Addr} {A₀ : Around} {base h₀ : Heap} {L : Addr} {m : Str → Option Value} {news : List (Addr × Obj)} {s : Shared} {Q : Flow → Shared → Prop} {E : Value → Shared → Prop}
  {K : List (Addr × Obj)} {DK t0 dT R O tt ML SM OL : Addr} {c lb : Int} {ns : List Int} {nm : Int → Str} {bf : Int → BA} {mk : Int → MA}
theorem bury0_spec (B : Below A₀ base [] h₀) (F : Fr h₀ L s.heap m) (X : (heapK w.params).In h₀) (N : News h₀ L s.heap news) (T : Top topProg loose mean mg mb h₀) (hdp : dp + 40 < recursionLimit) (hu : un + 300 < cLine) (C : Chain L DK dT t0 R O tt ML SM) (H : LawS w K L DK t0 dT R O tt ML SM OL lb lb ns nm mk ns nm c bf mk news) {num : Int} (hn : num ∈ ns) (ho : CellC (L + 1 + 1 + 1 + 1) (.ref (bf num).b) news)
    (hq : ∀ h' tk' news', LawS w K L DK t0 dT R O tt ML SM OL lb lb ns nm mk (ns.erase num ++ [num]) nm c bf mk news' → CellC (L + 1 + 1 + 1 + 1) (.ref (bf num).b) news' → Fr h₀ L h' m → News h₀ L h' news' → Q .next { s with heap := h', toks := tk' }) :
    wpAny (model PySem.Challenge.pw_np0064_01 w) (ktrTop dp un gd (Str.ofString "law") lawScope L a (.ref 527) (lawCl L) []) (exec (buryS 0) (lawEnv L a)) Q E s := by
  unfold lawEnv lawCl
  conv in buryS 0 => whnf
  conv in (occs := *) lawScope => all_goals whnf
  obtain ⟨ob1, b1, b2⟩ := H.1.ctb
  obtain ⟨ob3, i1, i2⟩ := id ho
  have hsm := H.2.small
  obtain ⟨es, nT, oR, vs, nO, kvs, S, hval, hperm⟩ := H.2.T
  have S' := S
  obtain ⟨hT, hdT, DT, hR, lo, hRd, hO, hI, _⟩ := S
  have gm : getL "bury" es = some none := DT.other _ (by decide)
  k_steps
  refine stopE (bury_spec (by assumption) (by assumption) (by assumption) (by assumption) (by assumption) rfl (dlt (j := 5) hdp (by decide)) (dlt (j := 20) hu (by decide)) S' (H.2.liveBuf hn) hn (by omega) ?_)
  intro h1 tk1 vs1 n1 hI1 F1 N1
  obtain ⟨H1, f1⟩ := law_bury (nO' := n1) C H hn S' hval hperm N hI1
  have ho1 := ho.framed f1 C.cellsO.2.2.2.1
  generalize put news O (listOf vs1.toArray n1) = news1 at *
  k_steps
  exact hq _ _ _ H1 ho1 (by assumption) N1
theorem bury1_spec (B : Below A₀ base [] h₀) (F : Fr h₀ L s.heap m) (X : (heapK w.params).In h₀) (N : News h₀ L s.heap news) (T : Top topProg loose mean mg mb h₀) (hdp : dp + 40 < recursionLimit) (hu : un + 300 < cLine) (C : Chain L DK dT t0 R O tt ML SM) (M : LawM DK SM ML OL c m) {num : Int} (H : LawS w K L DK t0 dT R O tt ML SM OL lb lb ns nm mk (ns.erase num ++ [num]) nm c bf mk news) (hn : num ∈ ns) (ho : CellC (L + 1 + 1 + 1 + 1) (.ref (bf num).b) news)
    (hq : ∀ h' tk' news' OL' m', LawM DK SM ML OL' c m' → LawS w K L DK t0 dT R O tt ML SM OL' lb lb (ns.erase num ++ [num]) nm mk (ns.erase num ++ [num]) nm c bf mk news' → Fr h₀ L h' m' → News h₀ L h' news' → Q .next { s with heap := h', toks := tk' }) :
    wpAny (model PySem.Challenge.pw_np0064_01 w) (ktrTop dp un gd (Str.ofString "law") lawScope L a (.ref 527) (lawCl L) []) (exec (buryS 1) (lawEnv L a)) Q E s := by
  unfold lawEnv lawCl
  conv in buryS 1 => whnf
  conv in (occs := *) lawScope => all_goals whnf
  obtain ⟨ob3, i1, i2⟩ := id ho
  have hp9 : (ns.erase num ++ [num]).Perm ns := (List.perm_append_comm).trans (List.perm_cons_erase hn).symm
  have hsm : ns.length ≤ 10 := by
    have := H.2.small
    rwa [hp9.length_eq] at this
  obtain ⟨es, nT, oR, vs, nO, kvs, S, hval, hperm⟩ := H.2.T
  have hLB := H.2.bufs num (List.mem_append_right _ (.head _))
  have hb1 := hLB.hb
  obtain ⟨eb, kb, hb2, hb3⟩ := hLB.hdb
  obtain ⟨tb, hb4⟩ := hb3.number
  obtain ⟨ovs, on, o1, o2, o3, o4⟩ := H.1.ord
  obtain ⟨mvs, nM, a1, a2, a3⟩ := H.1.mar
  have hol := o2.length
  have hm1 := M.mdk; have hm3 := M.mor
  k_steps
  refine stopE (LCt.CompSrcT.ledger rfl (by assumption) (by assumption) o1 (by rw [sizeLine_eq]; simp; omega) ?_)
  intro g2
  refine compT (as := ns) isI isI (fun o => o != num) id (by simp [hol]) (fun i v hi hv => (are_ints o2).at i v (by simpa using hv)) ?_ ?_
  · rintro o v I oI C' oC D m₂ ys h3 tk3 E' ho' ⟨t, rfl⟩ hC hx F' N' off ne
    k_steps
    · exact ⟨_, _, _, rfl, by assumption, by assumption, off, .inr ⟨_, o1, rfl, _, rfl⟩, rfl, by simp_all, _, rfl⟩
    · exact ⟨_, _, _, rfl, by assumption, by assumption, off, .inr ⟨_, o1, rfl, _, rfl⟩, rfl, by simp_all⟩
  intro ys hys
  rw [List.map_id] at hys
  have hys2 := hys.ints
  clear hys
  unfold LCg.FinE
  intro D3 h4 tk4 F8 N8 l8
  have hfl : (ns.filter (fun o => o != num)).length ≤ 10 := Nat.le_trans (List.length_filter_le _ _) hsm
  k_steps
  have hnd : ns.Nodup := (hp9).nodup_iff.mp H.2.nd
  rename News h₀ L _ (_ :: _) => kN
  rename Fr h₀ L _ (fun y => if y = Str.ofString "order" then _ else _) => kF
  rename IntsAre _ (_ ++ [num]) => hI9
  have up : ∀ {d1 d2 d3 : Addr × Obj}, ∀ p ∈ news, p ∈ d1 :: d2 :: d3 :: news := fun p hp => .tail _ (.tail _ (.tail _ hp))
  refine hq _ _ _ _ _ M.order ⟨books_order H.1 up (.head _) (off_lt H.1 S.hO (by assumption)) (ne_of_all (by assumption) a1) (by rw [erase_filter hnd]; exact hI9) (fun n hn' => hp9.mem_iff.mp hn'), H.2.lawStep C ((Ext.refl news).sub up) (fun d hd => nomatch hd)⟩ kF kN
end
section
variable {w : World} {loose : List Str} {mean : ExcName → Option Value} {mg mb : Str → Option Value} {dp un : Nat} {gd : Option (List Code)} {a : Addr} {A₀ : Around} {base h₀ : Heap} {L : Addr} {m : Str → Option Value} {news : List (Addr × Obj)} {s : Shared} {Q : Flow → Shared → Prop} {E : Value → Shared → Prop}
  {K : List (Addr × Obj)} {DK t0 dT R O tt ML SM OL : Addr} {c lb : Int} {ns : List Int} {nm : Int → Str} {bf : Int → BA} {mk : Int → MA}
theorem kill0_spec (B : Below A₀ base [] h₀) (F : Fr h₀ L s.heap m) (X : (heapK w.params).In h₀) (N : News h₀ L s.heap news) (T : Top topProg loose mean mg mb h₀) (hdp : dp + 40 < recursionLimit) (hu : un + 300 < cLine) (C : Chain L DK dT t0 R O tt ML SM) (M : LawM DK SM ML OL c m) (H : LawS w K L DK t0 dT R O tt ML SM OL lb lb ns nm mk ns nm c bf mk news) {num : Int} (hn : num ∈ ns) (ho : CellC (L + 1 + 1 + 1 + 1) (.ref (bf num).b) news)
    (hq : ∀ h' tk' news' LA, OrdC L DK O tt ML LA (ns.filter (fun o => o != num)) news' → (∀ p ∈ news, p ∈ news') → Fr h₀ L h' (fun y => if y = Str.ofString "left" then some (.ref LA) else m y) → News h₀ L h' news' → Q .next { s with heap := h', toks := tk' }) :
    wpAny (model PySem.Challenge.pw_np0064_01 w) (ktrTop dp un gd (Str.ofString "law") lawScope L a (.ref 527) (lawCl L) []) (exec (killS 0) (lawEnv L a)) Q E s := by
  unfold lawEnv lawCl
  conv in killS 0 => whnf
  conv in (occs := *) lawScope => all_goals whnf
  obtain ⟨ob3, i1, i2⟩ := id ho
  have hsm := H.2.small
  have hLB := H.2.bufs num hn
  have hb1 := hLB.hb
  obtain ⟨eb, kb, hb2, hb3⟩ := hLB.hdb
  obtain ⟨tb, hb4⟩ := hb3.number
  obtain ⟨ovs, on, o1, o2, o3, o4⟩ := H.1.ord
  have hol := o2.length
  have hm1 := M.mdk; have hm3 := M.mor
  k_steps
  refine stopE (LCt.CompSrcT.ledger rfl (by assumption) (by assumption) o1 (by rw [sizeLine_eq]; simp; omega) ?_)
  intro g2
  refine compT (as := ns) isI isI (fun o => o != num) id (by simp [hol]) (fun i v hi hv => (are_ints o2).at i v (by simpa using hv)) ?_ ?_
  · rintro o v I oI C' oC D m₂ ys h3 tk3 E' ho' ⟨t, rfl⟩ hC hx F' N' off ne
    k_steps
    · exact ⟨_, _, _, rfl, by assumption, by assumption, off, .inr ⟨_, o1, rfl, _, rfl⟩, rfl, by simp_all, _, rfl⟩
    · exact ⟨_, _, _, rfl, by assumption, by assumption, off, .inr ⟨_, o1, rfl, _, rfl⟩, rfl, by simp_all⟩
  intro ys hys
  rw [List.map_id] at hys
  have hys2 := hys.ints
  clear hys
  unfold LCg.FinA
  intro D3 h4 tk4 F8 N8 l8
  exact hq _ _ _ D3 (.make H (off1_ne l8) hys2) (fun p hp => .tail _ hp) F8 N8
theorem kill1_spec (B : Below A₀ base [] h₀) (F : Fr h₀ L s.heap m) (X : (heapK w.params).In h₀) (N : News h₀ L s.heap news) (T : Top topProg loose mean mg mb h₀) (hdp : dp + 40 < recursionLimit) (hu : un + 300 < cLine) (C : Chain L DK dT t0 R O tt ML SM) (G : Good ns nm) (H : LawS w K L DK t0 dT R O tt ML SM OL lb lb ns nm mk ns nm c bf mk news) {num : Int} {LA : Addr} (hL : OrdC L DK O tt ML LA (ns.filter (fun o => o != num)) news) (hml : m (Str.ofString "left") = some (.ref LA))
    (hq : ∀ h' tk' news' VA, OrdC L DK O tt ML VA ((ns.filter (fun o => o != num)).filter (visB nm)) news' → (∀ p ∈ news, p ∈ news') → Fr h₀ L h' (fun y => if y = Str.ofString "visible" then some (.ref VA) else m y) → News h₀ L h' news' → Q .next { s with heap := h', toks := tk' }) :
    wpAny (model PySem.Challenge.pw_np0064_01 w) (ktrTop dp un gd (Str.ofString "law") lawScope L a (.ref 527) (lawCl L) []) (exec (killS 1) (lawEnv L a)) Q E s := by
  unfold lawEnv lawCl
  conv in killS 1 => whnf
  conv in (occs := *) lawScope => all_goals whnf
  have hsm := H.2.small
  have hfl : (ns.filter (fun o => o != num)).length ≤ 10 := Nat.le_trans (List.length_filter_le _ _) hsm
  obtain ⟨oT, tks, t1, t2, t3, t5, t4⟩ := H.1.tit
  obtain ⟨ob1, b1, b2⟩ := H.1.ctt
  obtain ⟨lvs, ln, o1, o2, o3, o4⟩ := id hL
  have hol := o2.length
  k_steps
  refine stopE (LCt.CompSrcT.ledger rfl (by assumption) (by assumption) o1 (by rw [sizeLine_eq]; simp; omega) ?_)
  intro g2
  refine compT (as := (ns.filter (fun o => o != num))) isI isI (visB nm) id (by simp [hol]) (fun i v hi hv => (are_ints o2).at i v (by simpa using hv)) ?_ ?_
  · rintro o v I oI C' oC D m₂ ys h3 tk3 E' ho' ⟨t, rfl⟩ hC hx F' N' off ne
    have hon := (List.mem_filter.mp ho').1
    obtain ⟨tt2, hto⟩ := t4 o hon
    have hnlo : (nm o).length ≤ 1000 := Nat.le_trans (allN_len _ (G.mem o hon)) (by decide)
    k_steps
    · exact ⟨_, _, _, rfl, by assumption, by assumption, off, .inr ⟨_, o1, rfl, _, rfl⟩, rfl, by
        unfold visB
        rw [← slice_one]
        simp_all, _, rfl⟩
    · exact ⟨_, _, _, rfl, by assumption, by assumption, off, .inr ⟨_, o1, rfl, _, rfl⟩, rfl, by
        unfold visB
        rw [← slice_one]
        simp_all⟩
  intro ys hys
  rw [List.map_id] at hys
  have hys2 := hys.ints
  clear hys
  unfold LCg.FinA
  intro D3 h4 tk4 F8 N8 l8
  exact hq _ _ _ D3 (.make H (off1_ne l8) hys2) (fun p hp => .tail _ hp) F8 N8
end
section
variable {w : World} {loose : List Str} {mean : ExcName → Option Value} {mg mb : Str → Option Value} {dp un : Nat} {gd : Option (List Code)} {a : Addr} {A₀ : Around} {base h₀ : Heap} {L : Addr} {m : Str → Option Value} {news : List (Addr × Obj)} {s : Shared} {Q : Flow → Shared → Prop} {E : Value → Shared → Prop}
  {K : List (Addr × Obj)} {DK t0 dT R O tt ML SM OL : Addr} {c lb : Int} {ns : List Int} {nm : Int → Str} {bf : Int → BA} {mk : Int → MA}
theorem kill2_spec (B : Below A₀ base [] h₀) (F : Fr h₀ L s.heap m) (X : (heapK w.params).In h₀) (N : News h₀ L s.heap news) (T : Top topProg loose mean mg mb h₀) (hdp : dp + 40 < recursionLimit) (hu : un + 300 < cLine) (C : Chain L DK dT t0 R O tt ML SM) (H : LawS w K L DK t0 dT R O tt ML SM OL lb lb ns nm mk ns nm c bf mk news) {num : Int} {LA VA : Addr} (hn : num ∈ ns) (ho : CellC (L + 1 + 1 + 1 + 1) (.ref (bf num).b) news) (hL : OrdC L DK O tt ML LA (ns.filter (fun o => o != num)) news) (hV : OrdC L DK O tt ML VA ((ns.filter (fun o => o != num)).filter (visB nm)) news)
    (hq : ∀ h' tk' news', LawS w K L DK t0 dT R O tt ML SM OL lb lb ns nm mk (ns.erase num) nm (newC c num ns nm) bf mk news' → CellC (L + 1 + 1 + 1 + 1) (.ref (bf num).b) news' → OrdC L DK O tt ML LA (ns.filter (fun o => o != num)) news' → OrdC L DK O tt ML VA ((ns.filter (fun o => o != num)).filter (visB nm)) news' → DeadC (bf num).b num news' → Fr h₀ L h' m → News h₀ L h' news' → Q .next { s with heap := h', toks := tk' }) :
    wpAny (model PySem.Challenge.pw_np0064_01 w) (ktrTop dp un gd (Str.ofString "law") lawScope L a (.ref 527) (lawCl L) []) (exec (killS 2) (lawEnv L a)) Q E s := by
  unfold lawEnv lawCl
  conv in killS 2 => whnf
  conv in (occs := *) lawScope => all_goals whnf
  obtain ⟨ob1, b1, b2⟩ := H.1.ctb
  obtain ⟨ob3, i1, i2⟩ := id ho
  have hsm := H.2.small
  obtain ⟨es, nT, oR, vs, nO, kvs, S, hval, hperm⟩ := H.2.T
  have S' := S
  obtain ⟨hT, hdT, DT, hR, lo, hRd, hO, hI, _⟩ := S
  have gm : getL "kill" es = some none := DT.other _ (by decide)
  have rn := H.2.rng num hn
  have hA := H.2.bufs num hn
  rw [if_pos rn.2] at hA
  have hM := H.2.mks num rn.1 rn.2
  rw [if_pos hn, if_pos hn] at hM
  have hB : Bufs news kvs ns (fun n => (bf n).b) nm := fun n hn => ⟨hval n hn, H.2.liveBuf hn⟩
  have hkl : kvs.length = ns.length := by have := hperm.length_eq; rwa [List.length_map] at this
  have u0 := H.2.o1
  have u1 := (H.2.o2 num rn.1 rn.2).1
  k_steps
  refine stopE (kill_spec (by assumption) (by assumption) (by assumption) (by assumption) (by assumption) rfl (dlt (j := 30) hdp (by decide)) (dlt (j := 200) hu (by decide)) S' (fun n => (bf n).b) nm hB (by omega) (by omega) hA hM hn (hval num hn) ⟨Nat.lt_trans u0.1 u1, Nat.lt_trans u0.2.1 u1, Nat.lt_trans u0.2.2.1 u1, Nat.lt_trans u0.2.2.2 u1⟩ (H.2.o3 num rn.1 rn.2).1 (H.2.kill_apart hn) ?_)
  intro h1 tk1 news2 es2 n2 oR2 vs2 nO2 ed nd eb' nb' D2 hR2 hI2 hk2 gl gn F1 N1 e2 m1 m2 m3 m4 m5
  rw [vis_find] at D2
  obtain ⟨H1, f1, hb1⟩ := law_kill C H S' hval hperm hn N D2 hR2 hI2 hk2 e2 m1 m2 m3 m4
  have ho1 := ho.framed f1 C.cellsO.2.2.2.1
  have hL1 := hL.framed f1
  have hV1 := hV.framed f1
  k_steps
  exact hq _ _ _ H1 ho1 hL1 hV1 ⟨_, _, _, hb1, m5, gl, gn⟩ (by assumption) N1
end
section
variable {w : World} {loose : List Str} {mean : ExcName → Option Value} {mg mb : Str → Option Value} {dp un : Nat} {gd : Option (List Code)} {a : Addr} {A₀ : Around} {base h₀ : Heap} {L : Addr} {m : Str → Option Value} {news : List (Addr × Obj)} {s : Shared} {Q : Flow → Shared → Prop} {E : Value → Shared → Prop}
  {K : List (Addr × Obj)} {DK t0 dT R O tt ML SM OL : Addr} {c lb : Int} {ns : List Int} {nm : Int → Str} {bf : Int → BA} {mk : Int → MA}
theorem kill3_spec (B : Below A₀ base [] h₀) (F : Fr h₀ L s.heap m) (X : (heapK w.params).In h₀) (N : News h₀ L s.heap news) (T : Top topProg loose mean mg mb h₀) (hdp : dp + 40 < recursionLimit) (hu : un + 300 < cLine) (C : Chain L DK dT t0 R O tt ML SM) (M : LawM DK SM ML OL c m) {num : Int} {VA : Addr} (ho : CellC (L + 1 + 1 + 1 + 1) (.ref (bf num).b) news) (hV : OrdC L DK O tt ML VA ((ns.filter (fun o => o != num)).filter (visB nm)) news) (hz : ns.length ≤ 10) (hd : DeadC (bf num).b num news) (hmv : m (Str.ofString "visible") = some (.ref VA))
    (hq : ∀ h' tk' m', LawM DK SM ML OL (newC c num ns nm) m' → m' (Str.ofString "left") = m (Str.ofString "left") → Fr h₀ L h' m' → News h₀ L h' news → Q .next { s with heap := h', toks := tk' }) :
    wpAny (model PySem.Challenge.pw_np0064_01 w) (ktrTop dp un gd (Str.ofString "law") lawScope L a (.ref 527) (lawCl L) []) (exec (killS 3) (lawEnv L a)) Q E s := by
  unfold lawEnv lawCl
  conv in killS 3 => whnf
  conv in (occs := *) lawScope => all_goals whnf
  obtain ⟨ob3, i1, i2⟩ := id ho
  obtain ⟨db, eb, nb, d1, d2, d3, td, d4⟩ := hd
  obtain ⟨vvs, vn, o1, o2, o3, o4⟩ := hV
  have hol := o2.length
  obtain ⟨tc, hmc⟩ := M.mcu
  have hfl : ((ns.filter (fun o => o != num)).filter (visB nm)).length ≤ 10 := Nat.le_trans (List.length_filter_le _ _) (Nat.le_trans (List.length_filter_le _ _) hz)
  have hnil : IntsAre [] [] := .nil
  have hmd := M.mdk; have hms := M.msm; have hmm := M.mml; have hmo := M.mor
  generalize hvl : (ns.filter (fun o => o != num)).filter (visB nm) = vl at *
  k_steps
  · rename News h₀ L _ _ => kN
    rename decide (vl = []) = true => hd0
    have hc' : newC c num ns nm = 0 := by
      unfold newC
      rw [if_pos ‹c = num›, hvl, of_decide_eq_true hd0]
      rfl
    (rename Fr h₀ L _ _ => kF); (refine hq _ _ _ ?_ ?_ kF (nsub kN fun p hp => .tail _ hp)); (rw [hc']; exact M.current); (exact if_neg (by decide))
  · rename News h₀ L _ _ => kN
    rename decide (vl = []) = false => hd0
    cases vl with
    | nil => simp at hd0
    | cons n0 rest =>
      have hc' : newC c num ns nm = n0 := by
        unfold newC
        rw [if_pos ‹c = num›, hvl]
        rfl
      refine item_at kN (l := VA) (.tail _ o1) (by decide) (by simp only [hol, List.length_cons]; omega) (by omega) ?_
      intro v hv
      obtain ⟨b9, hb9, t9, rfl⟩ := (are_ints o2).at 0 v hv
      have hb9' : n0 = b9 := by simpa using hb9
      subst hb9'
      k_steps
      rename News h₀ L _ _ => kN
      (rename Fr h₀ L _ _ => kF); (refine hq _ _ _ ?_ ?_ kF (nsub kN fun p hp => .tail _ hp)); (rw [hc']; exact M.current); (exact if_neg (by decide))
  · have hc' : newC c num ns nm = c := by
      unfold newC
      rw [if_neg ‹c ≠ num›]
    exact hq _ _ _ (by rw [hc']; exact M) rfl (by assumption) (by assumption)
theorem kill4_spec (B : Below A₀ base [] h₀) (F : Fr h₀ L s.heap m) (X : (heapK w.params).In h₀) (N : News h₀ L s.heap news) (T : Top topProg loose mean mg mb h₀) (hdp : dp + 40 < recursionLimit) (hu : un + 300 < cLine) (C : Chain L DK dT t0 R O tt ML SM) (M : LawM DK SM ML OL c m) {num : Int} {LA : Addr} {c' : Int} (H : LawS w K L DK t0 dT R O tt ML SM OL lb lb ns nm mk (ns.erase num) nm c' bf mk news) (hL : OrdC L DK O tt ML LA (ns.filter (fun o => o != num)) news) (hnd : ns.Nodup) (hml : m (Str.ofString "left") = some (.ref LA))
    (hq : ∀ h' tk' m', LawM DK SM ML LA c m' → LawS w K L DK t0 dT R O tt ML SM LA lb lb (ns.erase num) nm mk (ns.erase num) nm c' bf mk news → Fr h₀ L h' m' → News h₀ L h' news → Q .next { s with heap := h', toks := tk' }) :
    wpAny (model PySem.Challenge.pw_np0064_01 w) (ktrTop dp un gd (Str.ofString "law") lawScope L a (.ref 527) (lawCl L) []) (exec (killS 4) (lawEnv L a)) Q E s := by
  unfold lawEnv lawCl
  conv in killS 4 => whnf
  conv in (occs := *) lawScope => all_goals whnf
  obtain ⟨lvs, ln, o1, o2, o3, o4⟩ := hL
  k_steps
  exact hq _ _ _ M.order ⟨books_order H.1 (fun p hp => hp) o1 o3 o4 (by rw [erase_filter hnd]; exact o2) (fun n hn => List.mem_of_mem_erase hn), H.2⟩ (by assumption) (by assumption)
end
section
variable {w : World} {loose : List Str} {mean : ExcName → Option Value} {mg mb : Str → Option Value} {dp un : Nat} {gd : Option (List Code)} {a : Addr} {A₀ : Around} {base h₀ : Heap} {L : Addr} {m : Str → Option Value} {news : List (Addr × Obj)} {s : Shared} {Q : Flow → Shared → Prop} {E : Value → Shared → Prop}
  {K : List (Addr × Obj)} {DK t0 dT R O tt ML SM OL : Addr} {c lb : Int} {ns : List Int} {nm : Int → Str} {bf : Int → BA} {mk : Int → MA}
theorem kill5_spec (B : Below A₀ base [] h₀) (F : Fr h₀ L s.heap m) (X : (heapK w.params).In h₀) (N : News h₀ L s.heap news) (T : Top topProg loose mean mg mb h₀) (XB : (heapK w.params).In base) (TB : Top topProg loose mean mg mb base) (Ch : CodeHd h₀ 527 525) (hdp : dp + 40 < recursionLimit) (hu : un + 300 < cLine) (C : Chain L DK dT t0 R O tt ML SM) {num c' : Int} {ns' : List Int} {LA : Addr} (H : LawS w K L DK t0 dT R O tt ML SM LA lb lb ns' nm mk ns' nm c' bf mk news) (ho : CellC (L + 1 + 1 + 1 + 1) (.ref (bf num).b) news) (hd : DeadC (bf num).b num news)
    (hq : ∀ h' tk' news', LawS w K L DK t0 dT R O tt ML SM LA lb lb ns' nm mk ns' nm c' bf mk news' → Fr h₀ L h' m → News h₀ L h' news' → Q .next { s with heap := h', toks := tk' }) :
    wpAny (model PySem.Challenge.pw_np0064_01 w) (ktrTop dp un gd (Str.ofString "law") lawScope L a (.ref 527) (lawCl L) []) (exec (killS 5) (lawEnv L a)) Q E s := by
  unfold lawEnv lawCl
  conv in killS 5 => whnf
  conv in (occs := *) lawScope => all_goals whnf
  obtain ⟨svs, sn, sm1, sm2⟩ := H.1.som
  k_steps
  refine stopE (lam_eval F N T Ch H.1.ct sm1 C.sm rfl rfl ?_)
  intro lam c' oc vs' t ctv news1 h1 tk1 F1 N1 e1 hlam hoc hdt hv ll ct1
  have H1 := law_code C H e1 ct1
  have ho1 := ho.ext e1 C.code.2.2.2.1
  have hd1 : DeadC (bf num).b num news1 := by
    obtain ⟨db, eb, nb, d1, d2, d3, td, d4⟩ := hd
    have nt : ∀ {x : Addr} {o : Obj}, (x, o) ∈ news → (∀ ps : Array Value, o ≠ tabObj ps) → x ∉ [(525 : Addr)] := fun hx hne hm => by
      obtain ⟨ps, q1, _⟩ := H.1.ct
      rw [List.mem_singleton.mp hm] at hx
      exact hne _ (mem_inj N hx q1)
    exact ⟨db, eb, nb, e1 _ d1 (nt d1 fun ps z => by injection z with z1; cases z1), e1 _ d2 (nt d2 fun ps z => by injection z with z1; cases z1), d3, td, d4⟩
  clear N F ho hd
  obtain ⟨ob1, b1, b2⟩ := H1.1.ctb
  obtain ⟨ob3, i1, i2⟩ := id ho1
  obtain ⟨db, eb, nb, d1, d2, d3, td, d4⟩ := hd1
  obtain ⟨es, nT, oR, vs, nO, kvs, S, hval, hperm⟩ := H1.2.T
  have S' := S
  obtain ⟨hT, hdT, DT, hR, lo, hRd, hO, hI, _⟩ := S
  have gm : getL "set_current" es = some none := DT.other _ (by decide)
  k_steps
  refine stopE (told_spec B F1 X N1 T XB TB rfl (by omega) (by omega) hlam (fun _ _ => False) (fun nx => ∀ p ∈ news1, p ∈ nx) ?_ ?_ ?_)
  · intro dp1 un1 gd1 cn1 cs1 a1 ccd1 A1 L1 g1 m1 s1 Q1 E1 hdp1 hun1 hk1 B1 FF1 X1 NN1 T1 hQ hE
    refine wpAny_call ?_
    k_dflt k_enter
    k_steps
    refine stopE (current_dead (by assumption) (by assumption) (by assumption) (by assumption) (by assumption) rfl (dlt2 (j := 21) hdp (by assumption) (by decide)) (dlt2 (j := 103) hu (by assumption) (by decide)) d1 d2 d3 ?_)
    intro e de h' tk' g₂ es n tn F6 R6 hs6
    refine fly_on (by assumption) F6 rfl R6 ?_
    intro h7 R7
    exact hE _ _ _ _ _ _ _ _ _ (fun p hp => hp) (by assumption) R7 hs6
  · exact fun _ _ _ _ h _ _ => h.elim
  · intro t5 h5 tk5 news5 p5 F5 N5
    k_steps
    rename News h₀ L _ _ => kN
    exact hq _ _ _ (law_sub C H1 p5) (by assumption) kN
end
section
variable {w : World} {loose : List Str} {mean : ExcName → Option Value} {mg mb : Str → Option Value} {dp un : Nat} {gd : Option (List Code)} {a : Addr} {A₀ : Around} {base h₀ : Heap} {L : Addr} {m : Str → Option Value} {news : List (Addr × Obj)} {s : Shared} {Q : Flow → Shared → Prop} {E : Value → Shared → Prop}
  {K : List (Addr × Obj)} {DK t0 dT R O tt ML SM OL : Addr} {c lb : Int} {ns : List Int} {nm : Int → Str} {bf : Int → BA} {mk : Int → MA}
theorem lap4_spec (B : Below A₀ base [] h₀) (F : Fr h₀ L s.heap m) (X : (heapK w.params).In h₀) (N : News h₀ L s.heap news) (T : Top topProg loose mean mg mb h₀) (hdp : dp + 40 < recursionLimit) (hu : un + 300 < cLine) (C : Chain L DK dT t0 R O tt ML SM) (M : LawM DK SM ML OL c m) (H : LawS w K L DK t0 dT R O tt ML SM OL lb lb ns nm mk ns nm c bf mk news) (G : Good ns nm)
    (hq : ∀ h' tk', Fr h₀ L h' m → News h₀ L h' news → Q .next { s with heap := h', toks := tk' }) :
    wpAny (model PySem.Challenge.pw_np0064_01 w) (ktrTop dp un gd (Str.ofString "law") lawScope L a (.ref 527) (lawCl L) []) (exec (lapS 4) (lawEnv L a)) Q E s := by
  unfold lawEnv lawCl
  conv in lapS 4 => whnf
  conv in (occs := *) lawScope => all_goals whnf
  obtain ⟨ob1, b1, b2⟩ := H.1.ctb
  obtain ⟨ob5, b5, b6⟩ := H.1.ctt
  obtain ⟨ovs, on, o1, o2, o3, o4⟩ := H.1.ord
  obtain ⟨oT, tks, t1, t2, t3, t5, t4⟩ := H.1.tit
  obtain ⟨mvs, nM, a1, a2, a3⟩ := H.1.mar
  have hsm := H.2.small
  have hl0 := H.2.lms
  obtain ⟨es, nT, oR, vs, nO, kvs, S, hB, hperm, hkl⟩ := H.2.table
  have S' := S
  obtain ⟨hT, hdT, DT, hR, lo, hRd, hO, hI, _⟩ := S
  obtain ⟨tc, gc⟩ := DT.current
  obtain ⟨tc2, hmc⟩ := M.mcu
  have hmo := M.mor; have hmm := M.mml
  have htl : (tt == sysModules) = false := by
    have z := C.h
    simp only [LtA] at z
    refine beq_eq_false_iff_ne.mpr fun e => ?_
    have e' : @Eq Nat _ _ := e
    simp only [sysModules] at e'
    omega
  have h99 : valueAt kvs 99 = none := valueAt_out fun h => by
    have := H.2.rng 99 (hperm.mem_iff.mp h)
    omega
  have hM : ∀ (i : Nat) v, mvs[i]? = some v → ∃ ti mi dm em kk n t bv, v = .ref ti ∧ (ti, ({ cls := .type "tuple", data := .seq #[.ref mi, .int n t] } : Obj)) ∈ news ∧ (mi, instObj 185 dm) ∈ news ∧ (dm, dictOf em kk) ∈ news ∧ getL "buffer" em = some (some bv) ∧ (n ∈ ns ∧ bv = .ref (bf n).b ∨ n ∉ ns ∧ bv = .none) := fun i v hv => by
    obtain ⟨ti, n, t, e1, e2, e3, e4, e5⟩ := a3 v (List.mem_of_getElem? hv)
    obtain ⟨m1, ⟨em, kk, m2, m3⟩, _⟩ := H.2.mks n e4 e5
    refine ⟨ti, _, _, em, kk, n, t, _, e1, e3, m1, m2, m3.buffer, ?_⟩
    by_cases z : n ∈ ns
    · exact .inl ⟨z, if_pos z⟩
    · exact .inr ⟨z, if_neg z⟩
  k_steps
  · exact absurd rfl ‹c ≠ c›
  refine stopE (isso_spec (by assumption) (by assumption) (by assumption) (by assumption) (by assumption) rfl (dlt (j := 20) hdp (by decide)) (dlt (j := 100) hu (by decide)) S' (fun n => (bf n).b) nm hB hsm (by omega) hperm o1 o2 t1 t2 htl t4 (fun n hn => Nat.le_trans (allN_len _ (G.mem n hn)) (by decide)) (fun n hn => find_self G.inj hn) a1 hM (find_nowhere G.mem) h99 ?_)
  intro h1 tk1 F1 N1
  k_steps
  rename News h₀ L _ _ => kN
  exact hq _ _ (by assumption) kN
end
section
variable {w : World} {loose : List Str} {mean : ExcName → Option Value} {mg mb : Str → Option Value} {dp un : Nat} {gd : Option (List Code)} {a : Addr} {A₀ : Around} {base h₀ : Heap} {L : Addr} {m : Str → Option Value} {news : List (Addr × Obj)} {s : Shared} {Q : Flow → Shared → Prop} {E : Value → Shared → Prop}
  {K : List (Addr × Obj)} {DK t0 dT R O tt ML SM OL : Addr} {c lb : Int} {ns : List Int} {nm : Int → Str} {bf : Int → BA} {mk : Int → MA}
theorem disp3 (B : Below A₀ base [] h₀) (F : Fr h₀ L s.heap m) (X : (heapK w.params).In h₀) (N : News h₀ L s.heap news) (T : Top topProg loose mean mg mb h₀) (hdp : dp + 40 < recursionLimit) (hu : un + 300 < cLine) {wy : Int} {tw : Tok} {S1 S2 : List Stmt} {pos : Pos} (hw : m (Str.ofString "way") = some (.int wy tw))
    (h1 : wy < 2 → ∀ h' tk', Fr h₀ L h' m → News h₀ L h' news → wpAny (model PySem.Challenge.pw_np0064_01 w) (ktrTop dp un gd (Str.ofString "law") lawScope L a (.ref 527) (lawCl L) []) (execs S1 (lawEnv L a)) Q E { s with heap := h', toks := tk' })
    (h2 : 2 ≤ wy → ∀ h' tk', Fr h₀ L h' m → News h₀ L h' news → wpAny (model PySem.Challenge.pw_np0064_01 w) (ktrTop dp un gd (Str.ofString "law") lawScope L a (.ref 527) (lawCl L) []) (execs S2 (lawEnv L a)) Q E { s with heap := h', toks := tk' }) :
    wpAny (model PySem.Challenge.pw_np0064_01 w) (ktrTop dp un gd (Str.ofString "law") lawScope L a (.ref 527) (lawCl L) []) (exec (.If (ifTest (lapS 3)) S1 S2 pos) (lawEnv L a)) Q E s := by
  unfold lawEnv lawCl at *
  conv in ifTest _ => whnf
  conv in (occs := *) lawScope => all_goals whnf
  k_steps
  all_goals first | exact h1 (by assumption) _ _ F N | exact h2 (by omega) _ _ F N
theorem disp2 (B : Below A₀ base [] h₀) (F : Fr h₀ L s.heap m) (X : (heapK w.params).In h₀) (N : News h₀ L s.heap news) (T : Top topProg loose mean mg mb h₀) (hdp : dp + 40 < recursionLimit) (hu : un + 300 < cLine) {wy : Int} {tw : Tok} {S1 S2 : List Stmt} {pos : Pos} (hw : m (Str.ofString "way") = some (.int wy tw))
    (h1 : wy = 2 → ∀ h' tk', Fr h₀ L h' m → News h₀ L h' news → wpAny (model PySem.Challenge.pw_np0064_01 w) (ktrTop dp un gd (Str.ofString "law") lawScope L a (.ref 527) (lawCl L) []) (execs S1 (lawEnv L a)) Q E { s with heap := h', toks := tk' })
    (h2 : wy ≠ 2 → ∀ h' tk', Fr h₀ L h' m → News h₀ L h' news → wpAny (model PySem.Challenge.pw_np0064_01 w) (ktrTop dp un gd (Str.ofString "law") lawScope L a (.ref 527) (lawCl L) []) (execs S2 (lawEnv L a)) Q E { s with heap := h', toks := tk' }) :
    wpAny (model PySem.Challenge.pw_np0064_01 w) (ktrTop dp un gd (Str.ofString "law") lawScope L a (.ref 527) (lawCl L) []) (exec (.If (ifTest (el2)) S1 S2 pos) (lawEnv L a)) Q E s := by
  unfold lawEnv lawCl at *
  conv in ifTest _ => whnf
  conv in (occs := *) lawScope => all_goals whnf
  k_steps
  all_goals first | exact h1 (by assumption) _ _ F N | exact h2 (by omega) _ _ F N
theorem dispS (B : Below A₀ base [] h₀) (F : Fr h₀ L s.heap m) (X : (heapK w.params).In h₀) (N : News h₀ L s.heap news) (T : Top topProg loose mean mg mb h₀) (hdp : dp + 40 < recursionLimit) (hu : un + 300 < cLine) {wy : Int} {tw : Tok} {S1 S2 : List Stmt} {pos : Pos} (hw : m (Str.ofString "way") = some (.int wy tw))
    (h1 : wy = 3 → ∀ h' tk', Fr h₀ L h' m → News h₀ L h' news → wpAny (model PySem.Challenge.pw_np0064_01 w) (ktrTop dp un gd (Str.ofString "law") lawScope L a (.ref 527) (lawCl L) []) (execs S1 (lawEnv L a)) Q E { s with heap := h', toks := tk' })
    (h2 : wy ≠ 3 → ∀ h' tk', Fr h₀ L h' m → News h₀ L h' news → wpAny (model PySem.Challenge.pw_np0064_01 w) (ktrTop dp un gd (Str.ofString "law") lawScope L a (.ref 527) (lawCl L) []) (execs S2 (lawEnv L a)) Q E { s with heap := h', toks := tk' }) :
    wpAny (model PySem.Challenge.pw_np0064_01 w) (ktrTop dp un gd (Str.ofString "law") lawScope L a (.ref 527) (lawCl L) []) (exec (.If (ifTest (el3)) S1 S2 pos) (lawEnv L a)) Q E s := by
  unfold lawEnv lawCl at *
  conv in ifTest _ => whnf
  conv in (occs := *) lawScope => all_goals whnf
  k_steps
  all_goals first | exact h1 (by assumption) _ _ F N | exact h2 (by omega) _ _ F N
theorem dispB (B : Below A₀ base [] h₀) (F : Fr h₀ L s.heap m) (X : (heapK w.params).In h₀) (N : News h₀ L s.heap news) (T : Top topProg loose mean mg mb h₀) (hdp : dp + 40 < recursionLimit) (hu : un + 300 < cLine) {wy : Int} {tw : Tok} {S1 S2 : List Stmt} {pos : Pos} (hw : m (Str.ofString "way") = some (.int wy tw))
    (h1 : wy = 4 → ∀ h' tk', Fr h₀ L h' m → News h₀ L h' news → wpAny (model PySem.Challenge.pw_np0064_01 w) (ktrTop dp un gd (Str.ofString "law") lawScope L a (.ref 527) (lawCl L) []) (execs S1 (lawEnv L a)) Q E { s with heap := h', toks := tk' })
    (h2 : wy ≠ 4 → ∀ h' tk', Fr h₀ L h' m → News h₀ L h' news → wpAny (model PySem.Challenge.pw_np0064_01 w) (ktrTop dp un gd (Str.ofString "law") lawScope L a (.ref 527) (lawCl L) []) (execs S2 (lawEnv L a)) Q E { s with heap := h', toks := tk' }) :
    wpAny (model PySem.Challenge.pw_np0064_01 w) (ktrTop dp un gd (Str.ofString "law") lawScope L a (.ref 527) (lawCl L) []) (exec (.If (ifTest (el4)) S1 S2 pos) (lawEnv L a)) Q E s := by
  unfold lawEnv lawCl at *
  conv in ifTest _ => whnf
  conv in (occs := *) lawScope => all_goals whnf
  k_steps
  all_goals first | exact h1 (by assumption) _ _ F N | exact h2 (by omega) _ _ F N
end
section
local macro_rules | `(tactic| walk_at "setItem ref") => stopR
section
variable {w : World} {loose : List Str} {mean : ExcName → Option Value} {mg mb : Str → Option Value} {dp un : Nat} {gd : Option (List Code)} {a : Addr} {A₀ : Around} {base h₀ : Heap} {L : Addr} {m : Str → Option Value} {news : List (Addr × Obj)} {s : Shared} {Q : Flow → Shared → Prop} {E : Value → Shared → Prop}
  {K : List (Addr × Obj)} {DK t0 dT R O tt ML SM OL : Addr} {c lb : Int} {ns : List Int} {nm : Int → Str} {bf : Int → BA} {mk : Int → MA}
theorem create2_ok (B : Below A₀ base [] h₀) (F : Fr h₀ L s.heap m) (X : (heapK w.params).In h₀) (N : News h₀ L s.heap news) (T : Top topProg loose mean mg mb h₀) (hdp : dp + 40 < recursionLimit) (hu : un + 300 < cLine) {q : Str} (C : Chain L DK dT t0 R O tt ML SM) (M : LawM DK SM ML OL c m) (HN : LawN w K L DK t0 O tt ML SM OL lb ns nm mk news) (HS : St w news t0 dT R O SM (lb + 1) lb (ns ++ [lb + 1]) (fun n => if n = lb + 1 then q else nm n) c bf mk)
    {US : Addr} {tq t : Tok} (hU : UsedC L DK O tt ML US (ns.map nm) news) (hc : CellC (L + 1 + 1 + 1) (.str q tq) news) (hus : m (Str.ofString "used") = some (.ref US)) (hta : m (Str.ofString "tale") = some (.int (lb + 1) t)) (hqe : (q == Str.ofString "") = false) (hqu : q ∉ ns.map nm)
    (hq : ∀ h' tk' news' OL' m' mk', LawM DK SM ML OL' c m' → LawS w K L DK t0 dT R O tt ML SM OL' (lb + 1) (lb + 1) (ns ++ [lb + 1]) (fun n => if n = lb + 1 then q else nm n) mk' (ns ++ [lb + 1]) (fun n => if n = lb + 1 then q else nm n) c bf mk' news' → Fr h₀ L h' m' → News h₀ L h' news' → Q .next { s with heap := h', toks := tk' }) :
    wpAny (model PySem.Challenge.pw_np0064_01 w) (ktrTop dp un gd (Str.ofString "law") lawScope L a (.ref 527) (lawCl L) []) (exec (createS 2) (lawEnv L a)) Q E s := by
  unfold lawEnv lawCl
  conv in createS 2 => whnf
  conv in (occs := *) lawScope => all_goals whnf
  obtain ⟨ob2, c1, c2⟩ := id hc
  obtain ⟨⟨uvs, un1, u1, u2⟩, u3⟩ := id hU
  have hal := u2.length
  have hin : (ns.map nm).any (· == q) = false := by
    cases z : (ns.map nm).any (· == q) with
    | false => rfl
    | true => exact absurd (any_mem.mp z) hqu
  have hl0 := HS.lms
  have hsm := HS.small
  rw [List.length_append] at hsm
  obtain ⟨oT, tks, t1, t2, t3, t5, t4⟩ := HN.tit
  obtain ⟨ovs, on, o1, o2, o3, o4⟩ := HN.ord
  have hol := o2.length
  obtain ⟨ob1, b1, b2⟩ := HN.ctt
  obtain ⟨ob5, b5, b6⟩ := HN.ctb
  obtain ⟨mvs, nM, a1, a2, a3⟩ := HN.mar
  obtain ⟨n1, n2, n3, n4, n5, n6, n7, n8, n9, n10, n11, n12⟩ := C.apart
  have htl : (tt == sysModules) = false := by
    have z := C.h
    simp only [LtA] at z
    refine beq_eq_false_iff_ne.mpr fun e => ?_
    have e' : @Eq Nat _ _ := e
    simp only [sysModules] at e'
    omega
  have hm1 := M.mdk; have hm2 := M.msm; have hm3 := M.mor; have hm4 := M.mml
  have gm : ∀ x ∈ ([Str.ofString "by_number", Str.ofString "marker_at"] : List Str), True := fun _ _ => trivial
  k_steps
  rename IntsAre _ (ns ++ [lb + 1]) => hI9
  rename News h₀ L _ _ => kN
  rename Fr h₀ L _ _ => kF
  refine stopE (dict_setA (knd := IK w) kF kN (.tail _ (.tail _ (.tail _ t1))) t2 (intKind_is _ _ _ _) (by omega) ?_)
  intro h8 o8 hd8 F8 N8
  refine books_create N8 F8 (by assumption) hI9 C HN HS M hd8 t3 t5 t4 ?_
  intro news8 OL' m8 HN8 HM8 HS8 M8 hta8 F8 N8
  rw [hta] at hta8
  clear kN kF u1 u2 c1 c2 t1 t2 t3 t5 t4 o1 o2 o3 o4 b1 b2 b5 b6 a1 a2 a3 hm1 hm2 hm3 hm4 hta hI9
  obtain ⟨ob5, b5, b6⟩ := HN8.ctb
  have hm4 := M8.mml
  obtain ⟨mvs, nM, a1, a2, a3⟩ := HM8
  obtain ⟨es, nT, oR, vs, nO, kvs, S, hval, hperm⟩ := HS8.T
  have S' := S
  obtain ⟨hT, hdT, DT, hR, lo, hRd, hO, hI, _⟩ := S
  have gm : getL "by_number" es = some none := DT.other _ (by decide)
  have gm2 : getL "marker_at" es = some none := DT.other _ (by decide)
  have hl9 : lb + 1 ∈ ns ++ [lb + 1] := List.mem_append_right _ (.head _)
  have hA := HS8.bufs (lb + 1) hl9
  simp only [if_true, if_neg (show ¬ lb + 1 ≤ lb by omega)] at hA
  have hdt : LtA dT (bf (lb + 1)).db := Nat.lt_trans HS8.o1.2.1 (HS8.o2 (lb + 1) (by omega) (Int.le_refl _)).1
  k_steps
  refine stopE (by_number_spec (by assumption) (by assumption) (by assumption) (by assumption) (by assumption) rfl (dlt (j := 5) hdp (by decide)) (dlt (j := 20) hu (by decide)) S' ?_)
  intro h9 tk9 F9 N9
  rw [hval (lb + 1) hl9]
  dsimp only [Option.getD]
  k_steps
  refine stopE (marker_spec (by assumption) (by assumption) (by assumption) (by assumption) (by assumption) rfl (dlt (j := 20) hdp (by decide)) (dlt (j := 100) hu (by decide)) S' hA hdt ?_)
  intro MM h10 tk10 news10 es10 n10 om ed nd D10 ho10 hk10 hM10 hlt10 F10 N10 e10 m1 m2 m3 m4
  obtain ⟨HN10, HM10, HS10⟩ := law_mark C HN8 ⟨mvs, nM, a1, a2, a3⟩ HS8 S' hval hperm hl9 N9 D10 ho10 hk10 hM10 hlt10 e10 m1 m2 m3 m4
  clear a1 a2 a3 hT hdT DT hR lo hRd hO hI gm gm2 S' hval hperm N9 F9 N8 F8 HN8 HS8 b5 b6
  obtain ⟨mvs, nM, a1, a2, a3⟩ := HM10
  obtain ⟨svs, sn, sm1, sm2⟩ := HN10.som
  obtain ⟨ovs, on, o1, o2, o3, o4⟩ := HN10.ord
  k_steps
  rename News h₀ L _ (put _ ML _) => kN
  rename ∀ p ∈ news10, p.1 < _ => l11
  refine hq _ _ _ OL' m8 (fun n => if n = lb + 1 then MM else mk n) M8 (law_push (t := t) C HN10 HS10 (fun n hn => if_neg (by omega)) a2 (by omega) a3 (fun p hp hn => mem_put_ne (.tail _ hp) fun z => hn (z ▸ .head _)) ?_ (l11 _ sm1) (mem_put_self _ _ _)) (by assumption) kN
  simp only [if_true]
  exact mem_put_ne (.head _) (Nat.ne_of_gt (l11 _ a1))
end
section
variable {w : World} {loose : List Str} {mean : ExcName → Option Value} {mg mb : Str → Option Value} {dp un : Nat} {gd : Option (List Code)} {a : Addr} {A₀ : Around} {base h₀ : Heap} {L : Addr} {m : Str → Option Value} {news : List (Addr × Obj)} {s : Shared} {Q : Flow → Shared → Prop} {E : Value → Shared → Prop}
  {K : List (Addr × Obj)} {DK t0 dT R O tt ML SM OL : Addr} {c lb : Int} {ns : List Int} {nm : Int → Str} {bf : Int → BA} {mk : Int → MA}
theorem rename3_ok (B : Below A₀ base [] h₀) (F : Fr h₀ L s.heap m) (X : (heapK w.params).In h₀) (N : News h₀ L s.heap news) (T : Top topProg loose mean mg mb h₀) (hdp : dp + 40 < recursionLimit) (hu : un + 300 < cLine) (C : Chain L DK dT t0 R O tt ML SM) {r q : Str} {num : Int} (H : LawS w K L DK t0 dT R O tt ML SM OL lb lb ns nm mk ns (fun n => if n = num then r else nm n) c bf mk news)
    {OT : Addr} {tq t td : Tok} {b : Bool} (hn : num ∈ ns) (hO : UsedC L DK O tt ML OT ((ns.filter (· != num)).map nm) news) (hc : CellC (L + 1 + 1 + 1) (.str q tq) news) (ho : CellC (L + 1 + 1 + 1 + 1) (.ref (bf num).b) news) (hf : CellC (L + 1 + 1) (.bool b) news) (hot : m (Str.ofString "others") = some (.ref OT)) (hta : m (Str.ofString "tale") = some (.str r t)) (hdu : m (Str.ofString "due") = some (.str r td)) (hqe : (q == Str.ofString "") = false) (hok : b = true ∨ q ∉ (ns.filter (· != num)).map nm)
    (hq : ∀ h' tk' news', LawS w K L DK t0 dT R O tt ML SM OL lb lb ns (fun n => if n = num then r else nm n) mk ns (fun n => if n = num then r else nm n) c bf mk news' → Fr h₀ L h' m → News h₀ L h' news' → Q .next { s with heap := h', toks := tk' }) :
    wpAny (model PySem.Challenge.pw_np0064_01 w) (ktrTop dp un gd (Str.ofString "law") lawScope L a (.ref 527) (lawCl L) []) (exec (renameS 3) (lawEnv L a)) Q E s := by
  unfold lawEnv lawCl
  conv in renameS 3 => whnf
  conv in (occs := *) lawScope => all_goals whnf
  obtain ⟨ob2, c1, c2⟩ := id hc
  obtain ⟨ob3, i1, i2⟩ := id ho
  obtain ⟨ob4, j1, j2⟩ := id hf
  obtain ⟨⟨uvs, un1, u1, u2⟩, u3⟩ := id hO
  have hal := u2.length
  obtain ⟨oT, tks, t1, t2, t3, t5, t4⟩ := H.1.tit
  obtain ⟨ob1, b1, b2⟩ := H.1.ctt
  have hl0 := H.2.lms
  have hLB := H.2.bufs num hn
  have hb1 := hLB.hb
  obtain ⟨eb, kb, hb2, hb3⟩ := hLB.hdb
  obtain ⟨tb, hb4⟩ := hb3.number
  have hin : b = false → ((ns.filter (· != num)).map nm).any (· == q) = false := fun hb => by
    cases z : ((ns.filter (· != num)).map nm).any (· == q) with
    | false => rfl
    | true => rcases hok with y | y
              · rw [hb] at y; cases y
              · exact absurd (any_mem.mp z) y
  cases b
  · have hin := hin rfl
    k_steps
    all_goals rename News h₀ L _ _ => kN
    all_goals rename Fr h₀ L _ _ => kF
    all_goals refine stopE (dict_setA (knd := IK w) kF kN t1 t2 (intKind_is _ _ _ _) (by omega) ?_)
    all_goals intro h8 o8 hd8 F8 N8
    all_goals have H8 := books_rename C H hn kN hd8 t3 t5 t4
    all_goals have ho8 := ho.ext (news' := put news tt o8) (mods := [tt]) (Ext.refl news).put C.tits.2.2.2.2.2.2.2.1
    all_goals generalize put news tt o8 = news8 at *
    all_goals clear kN kF c1 c2 i1 i2 j1 j2 u1 u2 t1 t2 t3 t5 t4 b1 b2 hb1 hb2 hb3 hb4 hLB
    all_goals obtain ⟨ob3, i1, i2⟩ := id ho8
    all_goals have hLB := H8.2.bufs num hn
    all_goals have hb1 := hLB.hb
    all_goals obtain ⟨eb, kb, hb2, hb3⟩ := hLB.hdb
    all_goals simp only [if_true] at hb3
    all_goals obtain ⟨tb, hb4⟩ := hb3.name
    all_goals k_steps
    all_goals first
      | exact hq _ _ _ H8 (by assumption) N8
      | (rename (r != r) = true => hh; simp at hh)
  · k_steps
    all_goals rename News h₀ L _ _ => kN
    all_goals rename Fr h₀ L _ _ => kF
    all_goals refine stopE (dict_setA (knd := IK w) kF kN t1 t2 (intKind_is _ _ _ _) (by omega) ?_)
    all_goals intro h8 o8 hd8 F8 N8
    all_goals have H8 := books_rename C H hn kN hd8 t3 t5 t4
    all_goals have ho8 := ho.ext (news' := put news tt o8) (mods := [tt]) (Ext.refl news).put C.tits.2.2.2.2.2.2.2.1
    all_goals generalize put news tt o8 = news8 at *
    all_goals clear kN kF c1 c2 i1 i2 j1 j2 u1 u2 t1 t2 t3 t5 t4 b1 b2 hb1 hb2 hb3 hb4 hLB
    all_goals obtain ⟨ob3, i1, i2⟩ := id ho8
    all_goals have hLB := H8.2.bufs num hn
    all_goals have hb1 := hLB.hb
    all_goals obtain ⟨eb, kb, hb2, hb3⟩ := hLB.hdb
    all_goals simp only [if_true] at hb3
    all_goals obtain ⟨tb, hb4⟩ := hb3.name
    all_goals k_steps
    all_goals first
      | exact hq _ _ _ H8 (by assumption) N8
      | (rename (r != r) = true => hh; simp at hh)
end
end
section
variable {w : World} {loose : List Str} {mean : ExcName → Option Value} {mg mb : Str → Option Value} {dp un : Nat} {gd : Option (List Code)} {a : Addr} {A₀ : Around} {base h₀ : Heap} {L : Addr} {m : Str → Option Value} {news : List (Addr × Obj)} {s : Shared} {Q : Flow → Shared → Prop} {E : Value → Shared → Prop}
  {K : List (Addr × Obj)} {DK t0 dT R O tt ML SM OL : Addr} {c lb : Int} {ns : List Int} {nm : Int → Str} {bf : Int → BA} {mk : Int → MA}
def LapP (w : World) (K : List (Addr × Obj)) (L DK t0 dT R O tt ML SM : Addr) (k : Int) (m : Str → Option Value) (news : List (Addr × Obj)) : Prop := ∃ OL lb ns nm c bf mk, LawM DK SM ML OL c m ∧ LawS w K L DK t0 dT R O tt ML SM OL lb lb ns nm mk ns nm c bf mk news ∧ Good ns nm ∧ lb ≤ k
theorem create_way (B : Below A₀ base [] h₀) (F : Fr h₀ L s.heap m) (X : (heapK w.params).In h₀) (N : News h₀ L s.heap news) (T : Top topProg loose mean mg mb h₀) (XB : (heapK w.params).In base) (TB : Top topProg loose mean mg mb base) (Ch : CodeHd h₀ 527 525) (hdp : dp + 40 < recursionLimit) (hu : un + 300 < cLine) (C : Chain L DK dT t0 R O tt ML SM) (M : LawM DK SM ML OL c m) (H : LawS w K L DK t0 dT R O tt ML SM OL lb lb ns nm mk ns nm c bf mk news) (G : Good ns nm) (hlb : lb + 1 ≤ 10)
    {US : Addr} {q : Str} {tq tw : Tok} {wy : Int} (hU : UsedC L DK O tt ML US (ns.map nm) news) (hw : m (Str.ofString "way") = some (.int wy tw)) (hus : m (Str.ofString "used") = some (.ref US)) (hwy : wy = 0 ∨ wy = 1) (hqs : q ∈ somes) (hc : CellC (L + 1 + 1 + 1) (.str q tq) news)
    (hq : ∀ h' tk' news' m', LapP w K L DK t0 dT R O tt ML SM (lb + 1) m' news' → Fr h₀ L h' m' → News h₀ L h' news' → Q .next { s with heap := h', toks := tk' }) :
    wpAny (model PySem.Challenge.pw_np0064_01 w) (ktrTop dp un gd (Str.ofString "law") lawScope L a (.ref 527) (lawCl L) []) (execs [createS 0, createS 1, createS 2] (lawEnv L a)) Q E s := by
  refine wpAny_execs_cons (create0_spec B F X N T hdp hu C M H hU hw hus hwy hqs hc ?_)
  intro h1 tk1 news1 q1 tq1 hq1 hU1 hc1 H1 F1 N1
  have hus1 : ∀ {v : Option Value}, (fun y => if y = Str.ofString "tale" then v else m y) (Str.ofString "used") = some (.ref US) := mget_ne (by decide) hus
  by_cases hbad : q1 = Str.ofString "" ∨ q1 ≠ Str.ofString "" ∧ q1 ∈ ns.map nm
  · refine wpAny_execs_cons (create1_bad B F1 X N1 T XB TB Ch hdp hu C M H1 hU1 hc1 hbad ?_)
    intro h2 tk2 news2 t2 hU2 hc2 H2 F2 N2
    refine wpAny_execs_cons (create2_bad B F2 X N2 T hdp hu hU2 hc2 hus1 mget_eq hbad ?_)
    intro h3 tk3 F3 N3
    exact wpAny_execs_nil (hq _ _ _ _ ⟨OL, lb, ns, nm, c, bf, mk, M.put (by decide), H2, G, by omega⟩ F3 N3)
  · have hqe : q1 ≠ Str.ofString "" := fun z => hbad (.inl z)
    have hqu : q1 ∉ ns.map nm := fun z => hbad (.inr ⟨hqe, z⟩)
    have hqe' : (q1 == Str.ofString "") = false := by simpa using hqe
    refine wpAny_execs_cons (create1_ok B F1 X N1 T XB TB Ch hdp hu C M H1 hU1 hc1 hqe' hqu hlb ?_)
    intro h2 tk2 news2 t2 bf2 hU2 hc2 HN2 HS2 F2 N2
    refine wpAny_execs_cons (create2_ok B F2 X N2 T hdp hu C (M.put (by decide)) HN2 HS2 hU2 hc2 hus1 mget_eq hqe' hqu ?_)
    intro h3 tk3 news3 OL3 m3 mk3 M3 H3 F3 N3
    have hnin : lb + 1 ∉ ns := fun z => by have := H.2.rng _ z; omega
    exact wpAny_execs_nil (hq _ _ _ _ ⟨OL3, lb + 1, _, _, c, bf2, mk3, M3, H3, G.add hnin (hq1.resolve_left hqe) hqu, by omega⟩ F3 N3)
theorem rename_way (B : Below A₀ base [] h₀) (F : Fr h₀ L s.heap m) (X : (heapK w.params).In h₀) (N : News h₀ L s.heap news) (T : Top topProg loose mean mg mb h₀) (XB : (heapK w.params).In base) (TB : Top topProg loose mean mg mb base) (Ch : CodeHd h₀ 527 525) (hdp : dp + 40 < recursionLimit) (hu : un + 300 < cLine) (C : Chain L DK dT t0 R O tt ML SM) (M : LawM DK SM ML OL c m) (H : LawS w K L DK t0 dT R O tt ML SM OL lb lb ns nm mk ns nm c bf mk news) (G : Good ns nm)
    {US : Addr} {q : Str} {tq : Tok} {num : Int} (hn : num ∈ ns) (hU : UsedC L DK O tt ML US (ns.map nm) news) (hus : m (Str.ofString "used") = some (.ref US)) (hqs : q ∈ somes) (hc : CellC (L + 1 + 1 + 1) (.str q tq) news) (ho : CellC (L + 1 + 1 + 1 + 1) (.ref (bf num).b) news)
    (hq : ∀ h' tk' news' m', LapP w K L DK t0 dT R O tt ML SM (lb + 1) m' news' → Fr h₀ L h' m' → News h₀ L h' news' → Q .next { s with heap := h', toks := tk' }) :
    wpAny (model PySem.Challenge.pw_np0064_01 w) (ktrTop dp un gd (Str.ofString "law") lawScope L a (.ref 527) (lawCl L) []) (execs [renameS 0, renameS 1, renameS 2, renameS 3] (lawEnv L a)) Q E s := by
  refine wpAny_execs_cons (rename0_spec B F X N T hdp hu C M H hn hU hc ho ?_)
  intro h1 tk1 news1 b OT hU1 hO1 hc1 ho1 hf1 H1 F1 N1
  refine wpAny_execs_cons (rename1_spec B F1 X N1 T hdp hu C H1 hn hqs hU1 hc1 ho1 (mget_ne (by decide) hus) ?_)
  intro h2 tk2 r t rest hr hrc F2 N2
  by_cases hbad : q = Str.ofString "" ∨ q ≠ Str.ofString "" ∧ b = false ∧ q ∈ (ns.filter (· != num)).map nm
  · refine wpAny_execs_cons (rename2_bad B F2 X N2 T XB TB Ch hdp hu C H1 G hn hU1 hO1 hc1 ho1 hf1 hbad ?_)
    intro h3 tk3 news3 t3 hU3 hO3 hc3 ho3 hf3 H3 F3 N3
    refine wpAny_execs_cons (rename3_bad B F3 X N3 T hdp hu C H3 hO3 hc3 hf3 (by exact (if_neg (by decide)).trans ((if_neg (by decide)).trans (if_pos rfl))) mget_eq hbad ?_)
    intro h4 tk4 F4 N4
    exact wpAny_execs_nil (hq _ _ _ _ ⟨OL, lb, ns, nm, c, bf, mk, ((M.put (by decide)).put (by decide)).put (by decide), H3, G, by omega⟩ F4 N4)
  · have hqe : q ≠ Str.ofString "" := fun z => hbad (.inl z)
    have hqe' : (q == Str.ofString "") = false := by simpa using hqe
    have hok : b = true ∨ q ∉ (ns.filter (· != num)).map nm := by
      cases b with
      | true => exact .inl rfl
      | false => exact .inr fun z => hbad (.inr ⟨hqe, rfl, z⟩)
    refine wpAny_execs_cons (rename2_ok B F2 X N2 T XB TB Ch hdp hu C H1 G hn hqs hU1 hO1 hc1 ho1 hf1 hqe' hok hr ?_)
    intro h3 tk3 news3 t3 hU3 hO3 hc3 ho3 hf3 H3 F3 N3
    refine wpAny_execs_cons (rename3_ok B F3 X N3 T hdp hu C H3 hn hO3 hc3 ho3 hf3 (by exact (if_neg (by decide)).trans ((if_neg (by decide)).trans (if_pos rfl))) mget_eq (by exact (if_neg (by decide)).trans (if_pos rfl)) hqe' hok ?_)
    intro h4 tk4 news4 H4 F4 N4
    have hra : r ∈ allN := good_cand (somes_bases hqs hqe) hrc
    have hru : ∀ n ∈ ns, n ≠ num → nm n ≠ r := fun n h hne e => by
      have h1 : r ∈ (q :: (rangeKs 2 ((ns.map nm).length + 2)).map (candS q)).filter (fun o => o == nm num || !(ns.map nm).any (· == o)) := by rw [hr]; exact .head _
      have h2 := (List.mem_filter.mp h1).2
      rw [Bool.or_eq_true] at h2
      rcases h2 with h2 | h2
      · exact hne (G.inj n h num hn (e.trans (eq_of_beq h2)))
      · have : (ns.map nm).any (· == r) = true := any_mem.mpr (List.mem_map.mpr ⟨n, h, e⟩)
        rw [this] at h2
        cases h2
    exact wpAny_execs_nil (hq _ _ _ _ ⟨OL, lb, ns, _, c, bf, mk, ((M.put (by decide)).put (by decide)).put (by decide), H4, G.ren hra hru, by omega⟩ F4 N4)
theorem select_way (B : Below A₀ base [] h₀) (F : Fr h₀ L s.heap m) (X : (heapK w.params).In h₀) (N : News h₀ L s.heap news) (T : Top topProg loose mean mg mb h₀) (hdp : dp + 40 < recursionLimit) (hu : un + 300 < cLine) (C : Chain L DK dT t0 R O tt ML SM) (M : LawM DK SM ML OL c m) (H : LawS w K L DK t0 dT R O tt ML SM OL lb lb ns nm mk ns nm c bf mk news) (G : Good ns nm) {num : Int} (hn : num ∈ ns) (ho : CellC (L + 1 + 1 + 1 + 1) (.ref (bf num).b) news)
    (hq : ∀ h' tk' news' m', LapP w K L DK t0 dT R O tt ML SM (lb + 1) m' news' → Fr h₀ L h' m' → News h₀ L h' news' → Q .next { s with heap := h', toks := tk' }) :
    wpAny (model PySem.Challenge.pw_np0064_01 w) (ktrTop dp un gd (Str.ofString "law") lawScope L a (.ref 527) (lawCl L) []) (execs [selectS 0, selectS 1] (lawEnv L a)) Q E s := by
  refine wpAny_execs_cons (select0_spec B F X N T hdp hu C H hn ho ?_)
  intro h1 tk1 news1 H1 ho1 F1 N1
  refine wpAny_execs_cons (select1_spec B F1 X N1 T hdp hu C M H1 hn ho1 ?_)
  intro h2 tk2 news2 OL2 m2 M2 H2 F2 N2
  exact wpAny_execs_nil (hq _ _ _ _ ⟨OL2, lb, _, nm, num, bf, mk, M2, H2, G.sub fun n h => ((List.perm_cons_erase hn).symm).mem_iff.mp h, by omega⟩ F2 N2)
theorem bury_way (B : Below A₀ base [] h₀) (F : Fr h₀ L s.heap m) (X : (heapK w.params).In h₀) (N : News h₀ L s.heap news) (T : Top topProg loose mean mg mb h₀) (hdp : dp + 40 < recursionLimit) (hu : un + 300 < cLine) (C : Chain L DK dT t0 R O tt ML SM) (M : LawM DK SM ML OL c m) (H : LawS w K L DK t0 dT R O tt ML SM OL lb lb ns nm mk ns nm c bf mk news) (G : Good ns nm) {num : Int} (hn : num ∈ ns) (ho : CellC (L + 1 + 1 + 1 + 1) (.ref (bf num).b) news)
    (hq : ∀ h' tk' news' m', LapP w K L DK t0 dT R O tt ML SM (lb + 1) m' news' → Fr h₀ L h' m' → News h₀ L h' news' → Q .next { s with heap := h', toks := tk' }) :
    wpAny (model PySem.Challenge.pw_np0064_01 w) (ktrTop dp un gd (Str.ofString "law") lawScope L a (.ref 527) (lawCl L) []) (execs [buryS 0, buryS 1] (lawEnv L a)) Q E s := by
  refine wpAny_execs_cons (bury0_spec B F X N T hdp hu C H hn ho ?_)
  intro h1 tk1 news1 H1 ho1 F1 N1
  refine wpAny_execs_cons (bury1_spec B F1 X N1 T hdp hu C M H1 hn ho1 ?_)
  intro h2 tk2 news2 OL2 m2 M2 H2 F2 N2
  exact wpAny_execs_nil (hq _ _ _ _ ⟨OL2, lb, _, nm, c, bf, mk, M2, H2, G.sub fun n h => ((List.perm_append_comm).trans (List.perm_cons_erase hn).symm).mem_iff.mp h, by omega⟩ F2 N2)
theorem kill_way (B : Below A₀ base [] h₀) (F : Fr h₀ L s.heap m) (X : (heapK w.params).In h₀) (N : News h₀ L s.heap news) (T : Top topProg loose mean mg mb h₀) (XB : (heapK w.params).In base) (TB : Top topProg loose mean mg mb base) (Ch : CodeHd h₀ 527 525) (hdp : dp + 40 < recursionLimit) (hu : un + 300 < cLine) (C : Chain L DK dT t0 R O tt ML SM) (M : LawM DK SM ML OL c m) (H : LawS w K L DK t0 dT R O tt ML SM OL lb lb ns nm mk ns nm c bf mk news) (G : Good ns nm) {num : Int} (hn : num ∈ ns) (ho : CellC (L + 1 + 1 + 1 + 1) (.ref (bf num).b) news)
    (hq : ∀ h' tk' news' m', LapP w K L DK t0 dT R O tt ML SM (lb + 1) m' news' → Fr h₀ L h' m' → News h₀ L h' news' → Q .next { s with heap := h', toks := tk' }) :
    wpAny (model PySem.Challenge.pw_np0064_01 w) (ktrTop dp un gd (Str.ofString "law") lawScope L a (.ref 527) (lawCl L) []) (execs [killS 0, killS 1, killS 2, killS 3, killS 4, killS 5] (lawEnv L a)) Q E s := by
  refine wpAny_execs_cons (kill0_spec B F X N T hdp hu C M H hn ho ?_)
  intro h1 tk1 news1 LA hL1 up1 F1 N1
  have H1 := law_sub C H up1
  have ho1 := ho.ext (mods := []) (fun p hp _ => up1 p hp) (by simp)
  refine wpAny_execs_cons (kill1_spec B F1 X N1 T hdp hu C G H1 hL1 mget_eq ?_)
  intro h2 tk2 news2 VA hV2 up2 F2 N2
  have H2 := law_sub C H1 up2
  have ho2 := ho1.ext (mods := []) (fun p hp _ => up2 p hp) (by simp)
  have hL2 := hL1.ext (mods := []) (fun p hp _ => up2 p hp) (by simp)
  refine wpAny_execs_cons (kill2_spec B F2 X N2 T hdp hu C H2 hn ho2 hL2 hV2 ?_)
  intro h3 tk3 news3 H3 ho3 hL3 hV3 hd3 F3 N3
  refine wpAny_execs_cons (kill3_spec B F3 X N3 T hdp hu C ((M.put (by decide)).put (by decide)) ho3 hV3 H.2.small hd3 mget_eq ?_)
  intro h4 tk4 m4 M4 hml F4 N4
  have hml4 : m4 (Str.ofString "left") = some (.ref LA) := hml.trans (by exact (if_neg (by decide)).trans (if_pos rfl))
  refine wpAny_execs_cons (kill4_spec B F4 X N4 T hdp hu C M4 H3 hL3 H.2.nd hml4 ?_)
  intro h5 tk5 m5 M5 H5 F5 N5
  refine wpAny_execs_cons (kill5_spec B F5 X N5 T XB TB Ch hdp hu C H5 ho3 hd3 ?_)
  intro h6 tk6 news6 H6 F6 N6
  exact wpAny_execs_nil (hq _ _ _ _ ⟨LA, lb, _, nm, _, bf, mk, M5, H6, G.sub fun n h => List.mem_of_mem_erase h, by omega⟩ F6 N6)
end
section
variable {w : World} {loose : List Str} {mean : ExcName → Option Value} {mg mb : Str → Option Value} {dp un : Nat} {gd : Option (List Code)} {a : Addr} {A₀ : Around} {base h₀ : Heap} {L : Addr} {m : Str → Option Value} {news : List (Addr × Obj)} {s : Shared} {Q : Flow → Shared → Prop} {E : Value → Shared → Prop}
  {K : List (Addr × Obj)} {DK t0 dT R O tt ML SM OL : Addr} {c lb : Int} {ns : List Int} {nm : Int → Str} {bf : Int → BA} {mk : Int → MA}
theorem lap_spec (B : Below A₀ base [] h₀) (F : Fr h₀ L s.heap m) (X : (heapK w.params).In h₀) (N : News h₀ L s.heap news) (T : Top topProg loose mean mg mb h₀) (XB : (heapK w.params).In base) (TB : Top topProg loose mean mg mb base) (Ch : CodeHd h₀ 527 525) (hdp : dp + 40 < recursionLimit) (hu : un + 300 < cLine) (C : Chain L DK dT t0 R O tt ML SM) {k : Int} (hk10 : k + 1 ≤ 10) (P : LapP w K L DK t0 dT R O tt ML SM k m news)
    (hq : ∀ h' tk' news' m', LapP w K L DK t0 dT R O tt ML SM (k + 1) m' news' → Fr h₀ L h' m' → News h₀ L h' news' → Q .next { s with heap := h', toks := tk' }) :
    wpAny (model PySem.Challenge.pw_np0064_01 w) (ktrTop dp un gd (Str.ofString "law") lawScope L a (.ref 527) (lawCl L) []) (execs lapBody (lawEnv L a)) Q E s := by
  obtain ⟨OL, lb, ns, nm, c, bf, mk, M, H, G, hlb⟩ := P
  have eb : lapBody = [lapS 0, lapS 1, lapS 2, lapS 3, lapS 4] := rfl
  rw [eb]
  refine wpAny_execs_cons (lap0_spec B F X N T hdp hu C M H ?_)
  intro h1 tk1 news1 wy tw q tq w0 w6 wz hqs F1 N1 H1 c1
  refine wpAny_execs_cons (lap1_spec B F1 X N1 T hdp hu C (M.put (by decide)) H1 H.2.small ?_)
  intro h2 tk2 news2 US hU2 up2 F2 N2
  have H2 := law_sub C H1 up2
  have c2 := c1.ext (mods := []) (fun p hp _ => up2 p hp) (by simp)
  have M2 := (M.put (x := Str.ofString "way") (v := some (.int wy tw)) (by decide)).put (x := Str.ofString "used") (v := some (.ref US)) (by decide)
  refine wpAny_execs_cons (lap2_spec B F2 X N2 T hdp hu C M2 H2 ?_)
  intro h3 tk3 news3 v hv e3 F3 N3 H3 ho3
  have hU3 := hU2.ext e3 (by simp)
  have c3 := c2.ext e3 (fun z => by
    simp only [List.mem_cons, List.not_mem_nil, or_false] at z
    rcases z with z | z
    · exact C.cells.2.2.1 z
    · have e' : @Eq Nat _ _ := z
      omega)
  refine wpAny_execs_cons ?_
  have fin : ∀ h' tk' news' m', LapP w K L DK t0 dT R O tt ML SM (lb + 1) m' news' → Fr h₀ L h' m' → News h₀ L h' news' → wpAny (model PySem.Challenge.pw_np0064_01 w) (ktrTop dp un gd (Str.ofString "law") lawScope L a (.ref 527) (lawCl L) []) (execs [lapS 4] (lawEnv L a)) Q E { s with heap := h', toks := tk' } := by
    rintro h4 tk4 news4 m4 ⟨OL4, lb4, ns4, nm4, c4, bf4, mk4, M4, H4, G4, hlb4⟩ F4 N4
    refine wpAny_execs_cons (lap4_spec B F4 X N4 T hdp hu C M4 H4 G4 ?_)
    intro h5 tk5 F5 N5
    exact wpAny_execs_nil (hq _ _ _ _ ⟨OL4, lb4, ns4, nm4, c4, bf4, mk4, M4, H4, G4, by omega⟩ F5 N5)
  clear hq
  have hw : (fun y => if y = Str.ofString "used" then some (Value.ref US) else if y = Str.ofString "way" then some (Value.int wy tw) else m y) (Str.ofString "way") = some (.int wy tw) := (if_neg (by decide)).trans (if_pos rfl)
  have hus : (fun y => if y = Str.ofString "used" then some (Value.ref US) else if y = Str.ofString "way" then some (Value.int wy tw) else m y) (Str.ofString "used") = some (.ref US) := if_pos rfl
  have s3 : ∃ pos, lapS 3 = .If (ifTest (lapS 3)) [createS 0, createS 1, createS 2] [el2] pos := ⟨_, rfl⟩
  have s4 : ∃ pos, el2 = .If (ifTest el2) [renameS 0, renameS 1, renameS 2, renameS 3] [el3] pos := ⟨_, rfl⟩
  have s5 : ∃ pos, el3 = .If (ifTest el3) [selectS 0, selectS 1] [el4] pos := ⟨_, rfl⟩
  have s6 : ∃ pos, el4 = .If (ifTest el4) [buryS 0, buryS 1] [killS 0, killS 1, killS 2, killS 3, killS 4, killS 5] pos := ⟨_, rfl⟩
  obtain ⟨p3, s3⟩ := s3
  obtain ⟨p4, s4⟩ := s4
  obtain ⟨p5, s5⟩ := s5
  obtain ⟨p6, s6⟩ := s6
  rw [s3]
  refine disp3 B F3 X N3 T hdp hu hw (fun hlt h4 tk4 F4 N4 => ?_) (fun hge h4 tk4 F4 N4 => ?_)
  · exact create_way B F4 X N4 T XB TB Ch hdp hu C M2 H3 G (by omega) hU3 hw hus (by omega) hqs c3 (fun h5 tk5 news5 m5 P5 F5 N5 => fin _ _ _ _ P5 F5 N5)
  · have hns : ns ≠ [] := fun z => by have := wz z; omega
    rcases hv with ⟨z, _⟩ | ⟨num, hn, rfl⟩
    · exact absurd z hns
    refine wpAny_execs_cons ?_
    rw [s4]
    refine disp2 B F4 X N4 T hdp hu hw (fun _ h5 tk5 F5 N5 => ?_) (fun hn2 h5 tk5 F5 N5 => ?_)
    · exact rename_way B F5 X N5 T XB TB Ch hdp hu C M2 H3 G hn hU3 hus hqs c3 ho3 (fun h6 tk6 news6 m6 P6 F6 N6 => wpAny_execs_nil (fin _ _ _ _ P6 F6 N6))
    refine wpAny_execs_cons ?_
    rw [s5]
    refine dispS B F5 X N5 T hdp hu hw (fun _ h6 tk6 F6 N6 => ?_) (fun hn3 h6 tk6 F6 N6 => ?_)
    · exact select_way B F6 X N6 T hdp hu C M2 H3 G hn ho3 (fun h7 tk7 news7 m7 P7 F7 N7 => wpAny_execs_nil (wpAny_execs_nil (fin _ _ _ _ P7 F7 N7)))
    refine wpAny_execs_cons ?_
    rw [s6]
    refine dispB B F6 X N6 T hdp hu hw (fun _ h7 tk7 F7 N7 => ?_) (fun hn4 h7 tk7 F7 N7 => ?_)
    · exact bury_way B F7 X N7 T hdp hu C M2 H3 G hn ho3 (fun h8 tk8 news8 m8 P8 F8 N8 => wpAny_execs_nil (wpAny_execs_nil (wpAny_execs_nil (fin _ _ _ _ P8 F8 N8))))
    · exact kill_way B F7 X N7 T XB TB Ch hdp hu C M2 H3 G hn ho3 (fun h8 tk8 news8 m8 P8 F8 N8 => wpAny_execs_nil (wpAny_execs_nil (wpAny_execs_nil (fin _ _ _ _ P8 F8 N8))))
end
section
local macro_rules | `(tactic| walk_at "exec For") => hereY [refN `For_any [lftY]]
local macro_rules | `(tactic| walk_at "pyIter ref") => hereY [redY [refN `stopFor [lftY]]]
local macro_rules | `(tactic| walk_at "CPost") => dsT `CPost
section
variable {w : World} {loose : List Str} {mean : ExcName → Option Value} {mg mb : Str → Option Value} {dp un : Nat} {gd : Option (List Code)} {a : Addr} {A₀ : Around} {base h₀ : Heap} {L : Addr} {m : Str → Option Value} {news : List (Addr × Obj)} {s : Shared} {Q : Flow → Shared → Prop} {E : Value → Shared → Prop}
  {K : List (Addr × Obj)} {DK t0 dT R O tt ML SM OL : Addr} {c lb : Int} {ns : List Int} {nm : Int → Str} {bf : Int → BA} {mk : Int → MA}
def lapIter : PySem.Expr := match lapFor with | .For _ it _ _ _ => it | _ => .Name (Str.ofString "x") default
theorem laps_spec (B : Below A₀ base [] h₀) (F : Fr h₀ L s.heap m) (X : (heapK w.params).In h₀) (N : News h₀ L s.heap news) (T : Top topProg loose mean mg mb h₀) (XB : (heapK w.params).In base) (TB : Top topProg loose mean mg mb base) (Ch : CodeHd h₀ 527 525) (hdp : dp + 40 < recursionLimit) (hu : un + 300 < cLine) (C : Chain L DK dT t0 R O tt ML SM) (P : LapP w [] L DK t0 dT R O tt ML SM 0 m news) (hE : PassesOwn (model PySem.Challenge.pw_np0064_01 w) (ktrTop dp un gd (Str.ofString "law") lawScope L a (.ref 527) (lawCl L) []) (lawEnv L a) E)
    (hq : ∀ h' tk' news' m', GrownAt 525 h' → Fr h₀ L h' m' → News h₀ L h' news' → Q .next { s with heap := h', toks := tk' }) :
    wpAny (model PySem.Challenge.pw_np0064_01 w) (ktrTop dp un gd (Str.ofString "law") lawScope L a (.ref 527) (lawCl L) []) (exec lapFor (lawEnv L a)) Q E s := by
  have e : ∃ p pos, lapFor = .For (.Name (Str.ofString "lap") p) lapIter lapBody [] pos := ⟨_, _, rfl⟩
  obtain ⟨p, pos, e⟩ := e
  rw [e]
  have hsm : ∃ o, (SM, o) ∈ news := by
    obtain ⟨OL, lb, ns, nm, c, bf, mk, M, H, G, hlb⟩ := P
    obtain ⟨svs, sn, s1, s2⟩ := H.1.som
    exact ⟨_, s1⟩
  obtain ⟨oS, hSM⟩ := hsm
  refine For_any ?_ (by intro _; rfl)
  generalize hb : lapBody = body
  unfold lawEnv lawCl
  conv in lapIter => whnf
  conv in (occs := *) lawScope => all_goals whnf
  k_steps
  rename IsRange _ _ 0 10 1 _ _ _ => kR
  rename Fr h₀ L _ _ => kF
  rename News h₀ L _ _ => kN
  refine stopE (for_range (n := 10) (fun i m nx => LapP w [] L DK t0 dT R O tt ML SM (i : Int) m nx) rfl (by exact hE) kR rfl (by decide) kF kN P ?_ ?_)
  · intro i v ia own m1 nx h2 tk2 hi hv Pi hia ho hfl hex hx F2 N2
    obtain ⟨t, rfl⟩ := hv
    have hlt : LtA SM ia := hia _ hSM
    obtain ⟨OL, lb, ns, nm, c, bf, mk, M, H, G, hlb⟩ := Pi
    have P2 : LapP w own L DK t0 dT R O tt ML SM i (fun y => if y = Str.ofString "lap" then some (.int i t) else m1 y) (own ++ nx) := ⟨OL, lb, ns, nm, c, bf, mk, M.put (by decide), law_own C H (fun p hp => ⟨by rw [ho p hp]; exact hlt, fun z => by
      obtain ⟨x1, x2, x3, y⟩ := hfl p hp
      exact ni_isD z x1 x2 x3 y⟩), G, hlb⟩
    k_steps
    rename Fr h₀ L _ (fun y => if y = Str.ofString "lap" then _ else _) => kF9
    rename News h₀ L _ (own ++ nx) => kN9
    subst hb
    refine lap_spec B kF9 X kN9 T XB TB Ch hdp hu C (by omega) P2 ?_
    intro h3 tk3 news3 m3 P3 F3 N3
    obtain ⟨OL3, lb3, ns3, nm3, c3, bf3, mk3, M3, H3, G3, hlb3⟩ := P3
    have hk3 : ∀ p ∈ own, p ∈ news3 := by
      obtain ⟨ps, q1, q2, q3, q4⟩ := H3.1.ct
      exact fun p hp => (q4 p hp).1
    obtain ⟨oI, hoI⟩ := hex
    have kk : ∀ p ∈ news3, NI p.2 ∨ p.1 = 525 → p ∈ news3.filter (fun p => p.1 != ia) := fun p hp hd => List.mem_filter.mpr ⟨hp, by
      refine bne_iff_ne.mpr fun e => ?_
      rcases hd with hd | hd
      · obtain ⟨x1, x2, x3, y⟩ := hfl _ hoI
        have e2 : p.2 = oI := mem_inj (a := ia) N3 (e ▸ hp) (hk3 _ hoI)
        exact hd x1 x2 x3 (e2 ▸ y)
      · have e3 : @Eq Nat _ _ := e.symm.trans hd
        have l1 := C.sm
        simp only [LtA] at hlt l1
        omega⟩
    exact .intro (news3.filter (fun p => p.1 != ia)) F3 N3 hk3 (fun p hp => ⟨bne_iff_ne.mp (List.mem_filter.mp hp).2, (List.mem_filter.mp hp).1⟩) ⟨OL3, lb3, ns3, nm3, c3, bf3, mk3, M3, ⟨H3.1.but kk, H3.2.but fun p hp h => kk p hp (.inl h)⟩, G3, by push_cast; omega⟩
  · intro m1 nx h2 tk2 P2 F2 N2
    obtain ⟨OL, lb, ns, nm, c, bf, mk, M, H, G, hlb⟩ := P2
    obtain ⟨ps, p1, p2, p3, p4⟩ := H.1.ct
    exact hq _ _ _ _ (.of N2 p1) F2 N2
end
end
theorem refKey_str {e : DictEntry} {y : Str} {t : Tok} (h : e.key = .str y t) : e.refKey = false := by
  unfold DictEntry.refKey
  rw [h]
theorem getL_not {x : Str} {es : List DictEntry} (h : ∀ e ∈ es, ∃ y t, e.key = .str y t ∧ x ≠ y) : getL x es = some none := by
  have h1 : es.find? (·.key.isStr x) = none := by
    rw [List.find?_eq_none]
    intro e he hx
    obtain ⟨y, t, hk, hn⟩ := h e he
    rw [hk] at hx
    exact hn (isStr_eq hx (beq_self_eq_true y : (Value.str y t).isStr y = true))
  have h2 : es.any (·.refKey) = false := by
    rw [List.any_eq_false]
    intro e he
    obtain ⟨y, t, hk, hn⟩ := h e he
    rw [refKey_str hk]
    decide
  unfold getL
  rw [h1, h2]
  rfl
theorem lap_start {w : World} {L DK t0 dT R O tt ML SM OL : Addr} {news : List (Addr × Obj)} {m : Str → Option Value} {dvs svs : List Value} {ds : List Int} {nD nS nT nO nOL nM : Nat} {es : List DictEntry} {oR oT ob1 ob5 x2 x3 x4 : Obj} {v2 v3 v4 : Option Value} (C : Chain L DK dT t0 R O tt ML SM) (M : LawM DK SM ML OL 0 m)
    (d1 : (DK, listOf (List.toArray dvs) nD) ∈ news) (d2 : IntsAre dvs ds) (d3 : Deck ds) (s1 : (SM, listOf (List.toArray svs) nS) ∈ news) (s2 : StrsAre svs somes) (t1 : (tt, oT) ∈ news) (t2 : oT.IsDictOf (IK w) []) (a1 : (ML, listOf (List.toArray []) nM) ∈ news) (o1 : (OL, listOf (List.toArray []) nOL) ∈ news) (o2 : LtA O OL ∧ LtA OL tt)
    (ctt : (L + 1, ob1) ∈ news) (ctt2 : ob1.data = .cell (some (.ref tt))) (ctb : (L + 1 + 1 + 1 + 1 + 1, ob5) ∈ news) (ctb2 : ob5.data = .cell (some (.ref t0))) (c2 : (L + 1 + 1, x2) ∈ news) (c2' : x2.data = .cell v2) (c3 : (L + 1 + 1 + 1, x3) ∈ news) (c3' : x3.data = .cell v3) (c4 : (L + 1 + 1 + 1 + 1, x4) ∈ news) (c4' : x4.data = .cell v4)
    (k : (525, tabObj #[]) ∈ news) (hT : (t0, instObj 490 dT) ∈ news) (hdT : (dT, dictOf es nT) ∈ news) (D : TabD es R O 0 0 0) (hR : (R, oR) ∈ news) (hRd : oR.IsDictOf (IK w) []) (lo : (R == sysModules) = false) (hO : (O, listOf (List.toArray []) nO) ∈ news) : LapP w [] L DK t0 dT R O tt ML SM 0 m news := by
  obtain ⟨q1, q2, q3, q4, q5, q6, q7, q8, q9⟩ := C.h
  obtain ⟨q10, q11⟩ := o2
  obtain ⟨u1, u2, u3, u4, u5, u6, u7, u8, u9⟩ := C.top
  refine ⟨OL, 0, [], fun _ => Str.empty, 0, fun _ => ⟨0, 0, 0, 0, 0, 0, 0, 0⟩, fun _ => ⟨0, 0⟩, M, ⟨⟨⟨dvs, nD, ds, d1, d2, d3⟩, ⟨svs, nS, s1, s2⟩, ⟨oT, [], t1, t2, by simp, by simp, by simp⟩, ⟨[], nM, a1, by simp, by simp⟩, ⟨[], nOL, o1, .nil, ?_, Nat.ne_of_lt (Nat.lt_trans q11 q8)⟩, ⟨ob1, ctt, ctt2⟩, ⟨ob5, ctb, ctb2⟩, fun x hx => ?_, ⟨#[], k, trivial, fun _ => .inl rfl, fun p hp => nomatch hp⟩⟩, ⟨⟨es, nT, oR, [], nO, [], ⟨hT, hdT, D, hR, lo, hRd, hO, .nil, Nat.ne_of_gt u1⟩, fun n hn => (nomatch hn), .nil⟩, .nil, fun n hn => (nomatch hn), ⟨Int.le_refl _, Int.le_refl _, by decide⟩, fun n hn => (nomatch hn), fun n h1 h2 => by omega, ⟨?_, ?_, ?_, ?_⟩, fun n h1 h2 => by omega, fun n h1 h2 => by omega, fun n n' h1 h2 h3 => by omega, fun n n' h1 h2 h3 => by omega⟩⟩, ⟨fun n hn => (nomatch hn), fun n hn => (nomatch hn)⟩, Int.le_refl _⟩
  · intro hm
    simp only [List.mem_cons, List.not_mem_nil, or_false] at hm
    have lw : ∀ {x : Addr}, LtA x O → OL ≠ x := fun h => Nat.ne_of_gt (Nat.lt_trans h q10)
    have hi : ∀ {x : Addr}, LtA tt x ∨ x = tt → OL ≠ x := fun h => h.elim (fun h => Nat.ne_of_lt (Nat.lt_trans q11 h)) fun h => h ▸ Nat.ne_of_lt q11
    rcases hm with z | z | z | z | z | z | z | z <;> first
      | exact Nat.ne_of_gt q10 z
      | exact lw (C.lowO (by simp)) z
      | exact hi (.inr rfl) z
      | exact hi (.inl (by assumption)) z
  · simp only [List.mem_cons, List.not_mem_nil, or_false] at hx
    rcases hx with rfl | rfl | rfl
    · exact ⟨x2, v2, c2, c2'⟩
    · exact ⟨x3, v3, c3, c3'⟩
    · exact ⟨x4, v4, c4, c4'⟩
  · exact Nat.lt_trans u5 u9
  · exact Nat.lt_trans u3 u9
  · exact Nat.lt_trans u6 u9
  · exact u8
theorem deck_of {l : List Int} : Deck (List.map (fun k' => (if k' < 0 then -k' else k').fmod (10 ^ Int.toNat 30)) (List.take 16 l)) := by
  have hm : (0 : Int) < 10 ^ Int.toNat 30 := by decide +kernel
  refine ⟨fun d hd => ?_, ?_⟩
  · obtain ⟨k, _, rfl⟩ := List.mem_map.mp hd
    exact ⟨Int.fmod_nonneg_of_pos _ hm, Int.fmod_lt_of_pos _ hm⟩
  · rw [List.length_map, List.length_take]
    omega
theorem law_ready {w : World} {L SM D1 ML tt OL O R t0 dT DK D2 : Addr} {h₀ h : Heap} {k1 k2 k3 k4 k5 a1 a2 a3 a4 a5 b3 b4 b5 tc : Tok} {n0 nM nOL nO nT : Nat} {oD oT oR o2 ob5 x4 x3 x2 ob1 : Obj} {e1 e2 e3 e4 e5 : Int} {ys : List Value} {l : List Int} {v4 v3 v2 : Option Value} {mm : Str → Option Value}
    (N : News h₀ L h [(SM, listOf #[.str (Str.ofString "a") k1, .str (Str.ofString "b") k2, .str (Str.ofString " c") k3, .str (Str.ofString "a<2>") k4, .str (Str.ofString "") k5] n0), (D1, oD), (ML, listOf #[] nM), (tt, oT), (OL, listOf #[] nOL), (O, listOf #[] nO), (R, oR), (t0, instObj 490 dT), (dT, dictOf [⟨e1, .str (Str.ofString "rows") a1, .ref R⟩, ⟨e2, .str (Str.ofString "order") a2, .ref O⟩, ⟨e3, .str (Str.ofString "current") a3, .int 0 b3⟩, ⟨e4, .str (Str.ofString "last_number") a4, .int 0 b4⟩, ⟨e5, .str (Str.ofString "last_marker") a5, .int 0 b5⟩] nT), (DK, LCg.lst ys), (D2, o2), (L + 1 + 1 + 1 + 1 + 1, ob5), (L + 1 + 1 + 1 + 1, x4), (L + 1 + 1 + 1, x3), (L + 1 + 1, x2), (L + 1, ob1), (525, tabObj #[])])
    (_ : Fr h₀ L h (fun y => if y = Str.ofString "some" then some (.ref SM) else if y = Str.ofString "marks" then some (.ref ML) else if y = Str.ofString "current" then some (.int 0 tc) else if y = Str.ofString "order" then some (.ref OL) else if y = Str.ofString "deck" then some (.ref DK) else mm y))
    (hI : IntsAre ys (List.map (fun k' => (if k' < 0 then -k' else k').fmod (10 ^ Int.toNat 30)) (List.take 16 l)))
    (q1 : @LT.lt Nat _ 525 L) (q2 : @LT.lt Nat _ (L + 1 + 1 + 1 + 1 + 1) dT) (q3 : @LT.lt Nat _ DK dT) (q4 : @LT.lt Nat _ dT t0) (q5 : @LT.lt Nat _ t0 R) (q6 : @LT.lt Nat _ R O) (q7 : @LT.lt Nat _ O OL) (q8 : @LT.lt Nat _ OL tt) (q9 : @LT.lt Nat _ tt ML) (q10 : @LT.lt Nat _ ML SM)
    (ap : D2 ≠ DK ∧ L + 1 + 1 + 1 + 1 + 1 ≠ DK ∧ L + 1 + 1 + 1 + 1 ≠ DK ∧ L + 1 + 1 + 1 ≠ DK ∧ L + 1 + 1 ≠ DK ∧ L + 1 ≠ DK ∧ 525 ≠ DK)
    (hT : oT.IsDictOf (IK w) []) (hR : oR.IsDictOf (IK w) []) (lo : (R == sysModules) = false) (c5 : ob5.data = .cell (some (.ref t0))) (c1 : ob1.data = .cell (some (.ref tt))) (c4 : x4.data = .cell v4) (c3 : x3.data = .cell v3) (c2 : x2.data = .cell v2) :
    ∃ m news, (fun y => if y = Str.ofString "some" then some (Value.ref SM) else if y = Str.ofString "marks" then some (Value.ref ML) else if y = Str.ofString "current" then some (Value.int 0 tc) else if y = Str.ofString "order" then some (Value.ref OL) else if y = Str.ofString "deck" then some (Value.ref DK) else mm y) = m ∧ News h₀ L h news ∧ Chain L DK dT t0 R O tt ML SM ∧ LapP w [] L DK t0 dT R O tt ML SM 0 m news := by
  have C : Chain L DK dT t0 R O tt ML SM := ⟨⟨q1, q2, q3, q4, q5, q6, Nat.lt_trans q7 q8, q9, q10⟩, ⟨Ne.symm ap.2.2.2.2.2.2, ap.2.2.2.2.2.1, ap.2.2.2.2.1, ap.2.2.2.1, ap.2.2.1, ap.2.1⟩⟩
  have M : LawM DK SM ML OL 0 (fun y => if y = Str.ofString "some" then some (.ref SM) else if y = Str.ofString "marks" then some (.ref ML) else if y = Str.ofString "current" then some (.int 0 tc) else if y = Str.ofString "order" then some (.ref OL) else if y = Str.ofString "deck" then some (.ref DK) else mm y) :=
    ⟨(if_neg (by decide)).trans ((if_neg (by decide)).trans ((if_neg (by decide)).trans ((if_neg (by decide)).trans (if_pos rfl)))), if_pos rfl, (if_neg (by decide)).trans (if_pos rfl), (if_neg (by decide)).trans ((if_neg (by decide)).trans ((if_neg (by decide)).trans (if_pos rfl))), ⟨tc, (if_neg (by decide)).trans ((if_neg (by decide)).trans (if_pos rfl))⟩⟩
  refine ⟨_, _, rfl, N, C, lap_start (OL := OL) (dvs := ys) (svs := [.str (Str.ofString "a") k1, .str (Str.ofString "b") k2, .str (Str.ofString " c") k3, .str (Str.ofString "a<2>") k4, .str (Str.ofString "") k5]) (ds := _) (oT := oT) (oR := oR) (ob1 := ob1) (ob5 := ob5) (x2 := x2) (x3 := x3) (x4 := x4) C M (nD := ys.length) ?_ hI deck_of (nS := n0) ?_ ?_ ?_ hT (nM := nM) ?_ (nOL := nOL) ?_ ⟨q7, q8⟩ ?_ c1 ?_ c5 ?_ c2 ?_ c3 ?_ c4 ?_ ?_ (nT := nT) (es := [⟨e1, .str (Str.ofString "rows") a1, .ref R⟩, ⟨e2, .str (Str.ofString "order") a2, .ref O⟩, ⟨e3, .str (Str.ofString "current") a3, .int 0 b3⟩, ⟨e4, .str (Str.ofString "last_number") a4, .int 0 b4⟩, ⟨e5, .str (Str.ofString "last_marker") a5, .int 0 b5⟩]) ?_ ⟨rfl, rfl, ⟨_, rfl⟩, ⟨_, rfl⟩, ⟨_, rfl⟩, fun x hx => ?_, rfl⟩ ?_ hR lo (nO := nO) ?_⟩
  · exact .tail _ (.tail _ (.tail _ (.tail _ (.tail _ (.tail _ (.tail _ (.tail _ (.tail _ (.head _)))))))))
  · exact .head _
  · exact .cons _ _ (.cons _ _ (.cons _ _ (.cons _ _ (.cons _ _ .nil))))
  · exact .tail _ (.tail _ (.tail _ (.head _)))
  · exact .tail _ (.tail _ (.head _))
  · exact .tail _ (.tail _ (.tail _ (.tail _ (.head _))))
  · exact List.mem_of_getElem? (i := 15) rfl
  · exact List.mem_of_getElem? (i := 11) rfl
  · exact List.mem_of_getElem? (i := 14) rfl
  · exact List.mem_of_getElem? (i := 13) rfl
  · exact List.mem_of_getElem? (i := 12) rfl
  · exact List.mem_of_getElem? (i := 16) rfl
  · exact List.mem_of_getElem? (i := 7) rfl
  · exact List.mem_of_getElem? (i := 8) rfl
  · refine getL_not fun e he => ?_
    simp only [List.mem_cons, List.not_mem_nil, or_false, not_or] at hx
    simp only [List.mem_cons, List.not_mem_nil, or_false] at he
    rcases he with rfl | rfl | rfl | rfl | rfl
    · exact ⟨_, _, rfl, hx.1⟩
    · exact ⟨_, _, rfl, hx.2.1⟩
    · exact ⟨_, _, rfl, hx.2.2.1⟩
    · exact ⟨_, _, rfl, hx.2.2.2.1⟩
    · exact ⟨_, _, rfl, hx.2.2.2.2⟩
  · exact List.mem_of_getElem? (i := 6) rfl
  · exact List.mem_of_getElem? (i := 5) rfl
theorem laps_at {w : World} {loose : List Str} {mean : ExcName → Option Value} {mg mb : Str → Option Value} {s : Shared} {L a SM D1 ML tt OL O R t0 dT DK D2 : Addr} {Q : Flow → Shared → Prop} {E : Value → Shared → Prop} {h₀ : Heap} {k1 k2 k3 k4 k5 a1 a2 a3 a4 a5 b3 b4 b5 tc : Tok} {n0 nM nOL nO nT : Nat} {oD oT oR o2 ob5 x4 x3 x2 ob1 : Obj} {e1 e2 e3 e4 e5 : Int} {ys : List Value} {l : List Int} {v4 v3 v2 : Option Value} {mm : Str → Option Value}
    (N : News h₀ L s.heap [(SM, listOf #[.str (Str.ofString "a") k1, .str (Str.ofString "b") k2, .str (Str.ofString " c") k3, .str (Str.ofString "a<2>") k4, .str (Str.ofString "") k5] n0), (D1, oD), (ML, listOf #[] nM), (tt, oT), (OL, listOf #[] nOL), (O, listOf #[] nO), (R, oR), (t0, instObj 490 dT), (dT, dictOf [⟨e1, .str (Str.ofString "rows") a1, .ref R⟩, ⟨e2, .str (Str.ofString "order") a2, .ref O⟩, ⟨e3, .str (Str.ofString "current") a3, .int 0 b3⟩, ⟨e4, .str (Str.ofString "last_number") a4, .int 0 b4⟩, ⟨e5, .str (Str.ofString "last_marker") a5, .int 0 b5⟩] nT), (DK, LCg.lst ys), (D2, o2), (L + 1 + 1 + 1 + 1 + 1, ob5), (L + 1 + 1 + 1 + 1, x4), (L + 1 + 1 + 1, x3), (L + 1 + 1, x2), (L + 1, ob1), (525, tabObj #[])])
    (F : Fr h₀ L s.heap (fun y => if y = Str.ofString "some" then some (.ref SM) else if y = Str.ofString "marks" then some (.ref ML) else if y = Str.ofString "current" then some (.int 0 tc) else if y = Str.ofString "order" then some (.ref OL) else if y = Str.ofString "deck" then some (.ref DK) else mm y))
    (B : Below callerA h₀ [] h₀) (X : (heapK w.params).In h₀) (T : Top topProg loose mean mg mb h₀) (Ch : CodeHd h₀ 527 525)
    (hI : IntsAre ys (List.map (fun k' => (if k' < 0 then -k' else k').fmod (10 ^ Int.toNat 30)) (List.take 16 l)))
    (q1 : @LT.lt Nat _ 525 L) (q2 : @LT.lt Nat _ (L + 1 + 1 + 1 + 1 + 1) dT) (q3 : @LT.lt Nat _ DK dT) (q4 : @LT.lt Nat _ dT t0) (q5 : @LT.lt Nat _ t0 R) (q6 : @LT.lt Nat _ R O) (q7 : @LT.lt Nat _ O OL) (q8 : @LT.lt Nat _ OL tt) (q9 : @LT.lt Nat _ tt ML) (q10 : @LT.lt Nat _ ML SM)
    (ap : D2 ≠ DK ∧ L + 1 + 1 + 1 + 1 + 1 ≠ DK ∧ L + 1 + 1 + 1 + 1 ≠ DK ∧ L + 1 + 1 + 1 ≠ DK ∧ L + 1 + 1 ≠ DK ∧ L + 1 ≠ DK ∧ 525 ≠ DK)
    (hT : oT.IsDictOf (PySem.intKind PySem.Challenge.rw_np0064_01.row.prog w) []) (hR : oR.IsDictOf (PySem.intKind PySem.Challenge.rw_np0064_01.row.prog w) []) (lo : (R == sysModules) = false) (c5 : ob5.data = .cell (some (.ref t0))) (c1 : ob1.data = .cell (some (.ref tt))) (c4 : x4.data = .cell v4) (c3 : x3.data = .cell v3) (c2 : x2.data = .cell v2)
    (hE : PassesOwn (model PySem.Challenge.rw_np0064_01.row.prog w) (callerA.deeper (envOfC (Str.ofString "law") lawScope L a (.ref 527))) (envOfC (Str.ofString "law") lawScope L a (.ref 527)) E)
    (hq : ∀ h' tk' news' m', GrownAt 525 h' → Fr h₀ L h' m' → News h₀ L h' news' → Q .next { s with heap := h', toks := tk' }) :
    wpAny (model PySem.Challenge.rw_np0064_01.row.prog w) (callerA.deeper (envOfC (Str.ofString "law") lawScope L a (.ref 527))) (exec lapFor (envOfC (Str.ofString "law") lawScope L a (.ref 527))) Q E s := by
  obtain ⟨m0, news0, hm0, kN0, hC, hP⟩ := law_ready N F hI q1 q2 q3 q4 q5 q6 q7 q8 q9 q10 ap hT hR lo c5 c1 c4 c3 c2
  subst hm0
  refine laps_spec B F X kN0 T X T Ch ?_ ?_ hC hP hE hq
  · decide +kernel
  · decide +kernel
def retS : Stmt := lawBody.getD 4 (.Pass default)
theorem law_good {cl : Str → Option Addr} {mean : ExcName → Option Value} {h₀ h : Heap} {L : Addr} {m : Str → Option Value} {l : List Int} {s : Shared} {tk : Nat} (F : Fr h₀ L h m) (hg : s.gens = #[]) : GoodW PySem.Challenge.rw_np0064_01.row.claim cl mean [ofPy (PyData.list (List.map PyData.int l))] { s with heap := h₀ } (.ok (.ret (.bool true))) { s with heap := h, toks := tk } :=
  goodW_bool F hg (raisesW_false (fun ct hct => nomatch hct)) (postW_of rfl rfl (by decide +kernel))
theorem law_tail {w : World} {A : Around} {E : Value → Shared → Prop} {cl : Str → Option Addr} {mean : ExcName → Option Value} {h₀ h : Heap} {L : Addr} {m : Str → Option Value} {l : List Int} {s : Shared} {tk : Nat} {env : Env} (F : Fr h₀ L h m) (hg : s.gens = #[]) (hG : GrownAt 525 h) :
    wpAny (model PySem.Challenge.rw_np0064_01.row.prog w) A (execs [retS] env) (fun f s' => GoodW PySem.Challenge.rw_np0064_01.row.claim cl mean [ofPy (PyData.list (List.map PyData.int l))] { s with heap := h₀ } (.ok (.ret (match f with | .ret v => v | _ => .none))) s' ∧ GrownAll [(527, 525)] s'.heap) E { s with heap := h, toks := tk } := by
  have e : ∃ k p p2, retS = .Return (some (.Constant (.bool true) k p)) p2 := ⟨_, _, _, rfl⟩
  obtain ⟨k, p, p2, e⟩ := e
  rw [e]
  exact wpAny_execs_cons (wpAny_Return_some (wpAny_Constant_bool ⟨law_good F hg, hG, trivial⟩))
end
end
end
end
end
end
end
section
local macro_rules | `(tactic| walk_at "call ref") => stops [506, 409, 513, 518, 523, 431, 487, 445, 459, 473, 416, 452, 490]
local macro_rules | `(tactic| walk_at "exec For") => stopR
local macro_rules | `(tactic| walk_at "exec For Name Call cons nil") => stopR
theorem law.tw9913782525675966504 : True := True.intro
theorem law.tw4893575301116900237 : True := True.intro
theorem law.tw5186830071266829134 : True := True.intro
theorem law.tw7228040930830709755 : True := True.intro
theorem law.tw17078252043157811359 : True := True.intro
theorem law.tw4537243172502812280 : True := True.intro
theorem law.tw9419902438303260944 : True := True.intro
theorem law.tw10965469551872863244 : True := True.intro
theorem law.tw5160153681172496555 : True := True.intro
theorem law.tw15615498541637825414 : True := True.intro
theorem law.tw14006960411357722667 : True := True.intro
theorem law.tw5526464036434691521 : True := True.intro
theorem law.tw8685651621363902123 : True := True.intro
theorem law.tw17617285060259143518 : True := True.intro
theorem law.tw2926972131783047163 : True := True.intro
theorem law.tw12770879722433261261 : True := True.intro
theorem law.tw16511300880660718354 : True := True.intro
theorem law.tw811658124584790753 : True := True.intro
theorem law.tw17376251071050522138 : True := True.intro
theorem law.tw8400101796353163633 : True := True.intro
theorem law.tw4901188629543592175 : True := True.intro
theorem law.tw3272815010394513277 : True := True.intro
theorem law.tw6851489509044044948 : True := True.intro
theorem law.tw17258638142836949332 : True := True.intro
theorem law.tw16465849635465882880 : True := True.intro
theorem law.tw1900324959677325778 : True := True.intro
theorem law.tw12381065012802370727 : True := True.intro
theorem law.tw4327623514102990693 : True := True.intro
theorem law.tw472668490227771761 : True := True.intro
theorem law.tw8208282992192066176 : True := True.intro
theorem law.tw14507587579433425230 : True := True.intro
theorem law.tw1465988683178648907 : True := True.intro
theorem law.tw16214522063434749053 : True := True.intro
theorem law.tw12777688874785687783 : True := True.intro
theorem law.tw14577606919805201265 : True := True.intro
theorem law.tw10807159166486711602 : True := True.intro
theorem law.tw10017303938028548802 : True := True.intro
theorem law.tw6901615715716342155 : True := True.intro
theorem law.tw15473402846913379219 : True := True.intro
theorem law.tw3775361592671485517 : True := True.intro
theorem law.tw10301352058568885028 : True := True.intro
theorem law.tw8111664155686639096 : True := True.intro
theorem law.tw10682346804044242067 : True := True.intro
theorem law.tw15389614509561763626 : True := True.intro
theorem law.tw11568188458581799787 : True := True.intro
theorem law.tw18226205385310702603 : True := True.intro
theorem law.tw1938744211872416739 : True := True.intro
theorem law.tw15176254315650684438 : True := True.intro
theorem law.tw14171529190511838013 : True := True.intro
theorem law.tw1520941332042229010 : True := True.intro
theorem law.tw16945778402809613495 : True := True.intro
theorem law.tw7656013864741027499 : True := True.intro
theorem law.tw16306203998025977777 : True := True.intro
theorem law.tw2787570134857116660 : True := True.intro
theorem law.tw7552202227076822705 : True := True.intro
theorem law.tw7805032114618664510 : True := True.intro
theorem law.tw3875074332801123443 : True := True.intro
theorem law.tw17865747701858748339 : True := True.intro
theorem law.tw17706900550284877695 : True := True.intro
theorem law.tw4202135290752947577 : True := True.intro
theorem law.tw6463740839748345367 : True := True.intro
theorem law.tw10703760425500077913 : True := True.intro
theorem law.tw16176621900282738615 : True := True.intro
theorem law.tw17434446165756496795 : True := True.intro
theorem law.tw8661385045365669865 : True := True.intro
theorem law.tw16588905709249636379 : True := True.intro
theorem law.tw4843196698346154017 : True := True.intro
theorem law.tw4648666894120409344 : True := True.intro
theorem law.tw14708914154082527141 : True := True.intro
theorem law.tw7167135338594676765 : True := True.intro
theorem law.tw11522750334253289022 : True := True.intro
theorem law.tw12053299388426269135 : True := True.intro
theorem law.tw8945754567795272355 : True := True.intro
theorem law.tw9116961117901415946 : True := True.intro
theorem law.tw13105815490342322615 : True := True.intro
theorem law.tw12651357785339719109 : True := True.intro
theorem law.tw14123017346688533716 : True := True.intro
theorem law.tw11430425064320331171 : True := True.intro
theorem law.tw6102668323687505502 : True := True.intro
theorem law.tw15712179433548234360 : True := True.intro
theorem law.tw10752825066518504711 : True := True.intro
theorem law.tw13880050052962715347 : True := True.intro
theorem law.tw4545973453172447737 : True := True.intro
theorem law.tw5727335911104298072 : True := True.intro
theorem law.tw5478055030515842151 : True := True.intro
theorem law.tw1009701086978419249 : True := True.intro
theorem law.tw6460622447872880723 : True := True.intro
theorem law.tw12226650004936688724 : True := True.intro
theorem law.tw3260919848671502144 : True := True.intro
theorem law.tw4508402080735471834 : True := True.intro
theorem law.tw7347948644894951304 : True := True.intro
theorem law.tw5297855924027211889 : True := True.intro
theorem law.tw6354018499285256535 : True := True.intro
theorem law.tw17322645514826386617 : True := True.intro
theorem law.tw12108104176957899831 : True := True.intro
theorem law.tw17585447988674925725 : True := True.intro
theorem law.tw17180186633401351929 : True := True.intro
theorem law.tw1038466656383067803 : True := True.intro
theorem law.tw9509988469621980896 : True := True.intro
theorem law.tw4792329651925809361 : True := True.intro
theorem law.tw15618438894097758181 : True := True.intro
theorem law.tw7265808846902933852 : True := True.intro
theorem law.tw3624210043245696575 : True := True.intro
theorem law.tw8400330649371614963 : True := True.intro
theorem law.tw16234711888074852603 : True := True.intro
theorem law.tw12287136234533164809 : True := True.intro
theorem law.tw8814375257615671546 : True := True.intro
theorem law.tw6384622485912284485 : True := True.intro
theorem law.tw519598522186407377 : True := True.intro
theorem law.tw3120224187761796320 : True := True.intro
theorem law.tw13879225670730278427 : True := True.intro
theorem law.tw16931624348194923968 : True := True.intro
theorem law.tw5054631082046157970 : True := True.intro
theorem law.tw3241322840600760511 : True := True.intro
theorem law.tw8592594135356203778 : True := True.intro
theorem law.tw10400890980155540096 : True := True.intro
theorem law.tw8958012244803539818 : True := True.intro
theorem law.tw4679974759194884242 : True := True.intro
theorem law.tw7720418963345053652 : True := True.intro
theorem law.tw959195223876475222 : True := True.intro
theorem law.tw5266172909301102864 : True := True.intro
theorem law.tw16992137452496337772 : True := True.intro
theorem law.tw11815264373039893456 : True := True.intro
theorem law.tw10092249737918297831 : True := True.intro
theorem law.tw5461974950726986916 : True := True.intro
theorem law.tw12823695869238226855 : True := True.intro
theorem law.tw3135026211475072213 : True := True.intro
theorem law.tw10341232955530992781 : True := True.intro
theorem law.tw1362119116733059706 : True := True.intro
theorem law.tw9926356499664884447 : True := True.intro
theorem law.tw5649149158178163895 : True := True.intro
theorem law.tw15872714501068328079 : True := True.intro
theorem law.tw1894415437690322856 : True := True.intro
theorem law.tw14159885695829415453 : True := True.intro
theorem law.tw13212096257208779674 : True := True.intro
theorem law.tw16469498818747127984 : True := True.intro
theorem law.tw14533119002083711444 : True := True.intro
theorem law.tw15965980055267658272 : True := True.intro
theorem law.tw27750575347808274 : True := True.intro
theorem law.tw3008341582244820868 : True := True.intro
theorem law.tw7947930243295647825 : True := True.intro
theorem law.tw14708469453074290282 : True := True.intro
theorem law.tw8326462920639921141 : True := True.intro
theorem law.tw10679139363750780021 : True := True.intro
theorem law.tw10047779025188342691 : True := True.intro
theorem law.tw4173070603276499212 : True := True.intro
theorem law.tw3634103573656307507 : True := True.intro
theorem law.tw14599413283764096708 : True := True.intro
theorem law.tw17084091479934422900 : True := True.intro
theorem law.tw8862305216795178012 : True := True.intro
theorem law.tw336251253817745504 : True := True.intro
theorem law.tw2471118842875268746 : True := True.intro
theorem law.tw18178193305820773765 : True := True.intro
theorem law.tw253840606061104439 : True := True.intro
theorem law.tw3684762893912169845 : True := True.intro
theorem law.tw6570022011229800607 : True := True.intro
theorem law.tw14088043095209975282 : True := True.intro
theorem law.tw7861290965237921058 : True := True.intro
theorem law.tw10427431760851071818 : True := True.intro
theorem law.tw14789840032233709398 : True := True.intro
theorem law.tw17360577748265574369 : True := True.intro
theorem law.tw10235096204767538841 : True := True.intro
theorem law.tw3789102771369546251 : True := True.intro
theorem law.tw6145632894437374147 : True := True.intro
theorem law.tw11623775344073916624 : True := True.intro
theorem law.tw10621653777096046941 : True := True.intro
theorem law.tw5926448791855114412 : True := True.intro
theorem law.tw13759417580001532375 : True := True.intro
theorem law.tw7702675244742591052 : True := True.intro
theorem law.tw9035912170408793244 : True := True.intro
theorem law.tw11989444508090820831 : True := True.intro
theorem law.tw6229849515817353647 : True := True.intro
theorem law.tw4465646653704629892 : True := True.intro
theorem law.tw16210076263124902012 : True := True.intro
theorem law.tw13083425294397752484 : True := True.intro
theorem law.tw8214018013531795001 : True := True.intro
theorem law.tw17911457456308883599 : True := True.intro
theorem law.tw3626631501046058187 : True := True.intro
theorem law.tw3635574925395915108 : True := True.intro
theorem law.tw674138735105968255 : True := True.intro
theorem law.tw11494605908041371296 : True := True.intro
theorem law.tw14325307061458958174 : True := True.intro
theorem law.tw11583309005084267911 : True := True.intro
theorem law.tw8689002245099136070 : True := True.intro
theorem law.tw4210340702303920260 : True := True.intro
theorem law.tw5432566325926082126 : True := True.intro
theorem law.tw6567547706753919033 : True := True.intro
theorem law.tw11013384265288417636 : True := True.intro
theorem law.tw2428457723711304594 : True := True.intro
theorem law.tw14532296871065327056 : True := True.intro
theorem law.tw3373445221797699062 : True := True.intro
theorem law.tw3342332042058031035 : True := True.intro
theorem law.tw559181110591177822 : True := True.intro
theorem law.tw11321696052379929097 : True := True.intro
theorem law.tw8231502817629432187 : True := True.intro
theorem law.tw8765402361407721219 : True := True.intro
theorem law.tw2022067537559949955 : True := True.intro
theorem law.tw10302016490043328485 : True := True.intro
theorem law.tw16405326720138702633 : True := True.intro
theorem law.tw1465873621379359671 : True := True.intro
theorem law.tw3877819282751843081 : True := True.intro
theorem law.tw1625687556541757332 : True := True.intro
theorem law.tw2271115096406454409 : True := True.intro
theorem law.tw14861187775005915353 : True := True.intro
theorem law.tw9507168425194765073 : True := True.intro
theorem law.tw7145524562484138819 : True := True.intro
theorem law.tw8513888615960419155 : True := True.intro
theorem law.tw7778912690061131286 : True := True.intro
theorem law.tw14499171404124301396 : True := True.intro
theorem law.tw234088651831972884 : True := True.intro
theorem law.tw12069088336919849496 : True := True.intro
theorem law.tw7650714045787232364 : True := True.intro
theorem law.tw3410264322593213964 : True := True.intro
theorem law.tw13961721518649118276 : True := True.intro
theorem law.tw6424448315993446631 : True := True.intro
theorem law.tw2867496390186870437 : True := True.intro
theorem law.tw6320052863035037261 : True := True.intro
theorem law.tw5074664015257517900 : True := True.intro
theorem law.tw13440086921605842478 : True := True.intro
theorem law.tw10217726386000427819 : True := True.intro
theorem law.tw9352411309777683346 : True := True.intro
theorem law.tw59572031778389095 : True := True.intro
theorem law.tw8695362306470200571 : True := True.intro
theorem law.tw13817118937593592305 : True := True.intro
theorem law.tw4093225961972846934 : True := True.intro
theorem law.tw11942493962630935323 : True := True.intro
theorem law.tw1173816454557449656 : True := True.intro
theorem law.tw3457248441646642254 : True := True.intro
theorem law.tw18024705061545192003 : True := True.intro
theorem law.tw14100809504472025193 : True := True.intro
theorem law.tw5927765860272117351 : True := True.intro
theorem law.tw9383713532851269502 : True := True.intro
theorem law.tw10426067975794604667 : True := True.intro
theorem law.tw3291430995647064902 : True := True.intro
theorem law.tw18028811614330443932 : True := True.intro
theorem law.tw6289346023763460466 : True := True.intro
theorem law.tw51276879991702401 : True := True.intro
theorem law.tw17794265857875359651 : True := True.intro
theorem law.tw11212136762469197465 : True := True.intro
theorem law.tw3458491807833918984 : True := True.intro
theorem law.tw3903891362027405964 : True := True.intro
theorem law.tw12674282577319284049 : True := True.intro
theorem law.tw1153827692895563706 : True := True.intro
theorem law.tw1469735678299482304 : True := True.intro
theorem law.tw339836876861548572 : True := True.intro
theorem law.tw8733048874739728715 : True := True.intro
theorem law.tw2825811335486693242 : True := True.intro
theorem law.tw9171909744762028523 : True := True.intro
theorem law.tw16781324522502593039 : True := True.intro
theorem law.tw15494371944516692473 : True := True.intro
theorem law.tw13188963387984019966 : True := True.intro
theorem law.tw615078624715520641 : True := True.intro
theorem law.tw9148902814395704832 : True := True.intro
theorem law.tw12279908804925343222 : True := True.intro
theorem law.tw9466798147059509037 : True := True.intro
theorem law.tw2947115874711867620 : True := True.intro
theorem law.tw18312642829208519918 : True := True.intro
theorem law.tw17931810161776639709 : True := True.intro
theorem law.tw4291593457014665560 : True := True.intro
theorem law.tw17485718604911638032 : True := True.intro
theorem law.tw791899376490664284 : True := True.intro
theorem law.tw10994826075172772523 : True := True.intro
theorem law.tw11382707499955547593 : True := True.intro
theorem law.tw8549964072919090490 : True := True.intro
theorem law.tw15944410689205409886 : True := True.intro
theorem law.tw138574305562521906 : True := True.intro
theorem law.tw11218094928909113304 : True := True.intro
theorem law.tw7472392605112009958 : True := True.intro
theorem law.tw256976601096795226 : True := True.intro
theorem law.tw16128182804363248115 : True := True.intro
theorem law.tw3571156449328691658 : True := True.intro
theorem law.tw10706529869983992875 : True := True.intro
theorem law.tw15275852157875592578 : True := True.intro
theorem law.tw9787818695334845006 : True := True.intro
theorem law.tw2146406837688113226 : True := True.intro
theorem law.tw9590647126063797726 : True := True.intro
theorem law.tw9306489563800820662 : True := True.intro
theorem law.tw9946861707870233718 : True := True.intro
theorem law.tw12493615336969742014 : True := True.intro
theorem law.tw10267598413121274360 : True := True.intro
theorem law.tw1803423151024578886 : True := True.intro
theorem law.tw11110636111776139030 : True := True.intro
theorem law.tw1686647556559472485 : True := True.intro
theorem law.tw8150959815570614043 : True := True.intro
theorem law.tw9535568303525297519 : True := True.intro
theorem law.tw740211120730030258 : True := True.intro
theorem law.tw2717157226930896203 : True := True.intro
theorem law.tw5995636244603389501 : True := True.intro
theorem law.tw17973245312826799877 : True := True.intro
theorem law.tw6277695593091390052 : True := True.intro
theorem law.tw12195891886813247594 : True := True.intro
theorem law.tw18237845556270483021 : True := True.intro
theorem law.tw663549203295587526 : True := True.intro
theorem law.tw7712447660842303439 : True := True.intro
theorem law.tw15765421472698966961 : True := True.intro
theorem law.tw16426571651486727909 : True := True.intro
theorem law.tw10256362016006735932 : True := True.intro
theorem law.tw1173056557569260014 : True := True.intro
theorem law.tw17985451953469339569 : True := True.intro
theorem law.tw9022724931740917465 : True := True.intro
theorem law.tw12639667408725741875 : True := True.intro
theorem law.tw14854347315293268277 : True := True.intro
theorem law.tw15680351461648652349 : True := True.intro
theorem law.tw13987225519633593624 : True := True.intro
theorem law.tw6427174196504210575 : True := True.intro
theorem law.tw10769356432485607983 : True := True.intro
theorem law.tw1600026505215413530 : True := True.intro
theorem law.tw6797567353260315697 : True := True.intro
theorem law.tw10591461037688281247 : True := True.intro
theorem law.tw8355193580418170465 : True := True.intro
theorem law.tw13942842804053233393 : True := True.intro
theorem law.tw7283594651733678074 : True := True.intro
theorem law.tw1202831876460888155 : True := True.intro
theorem law.tw6731326881386711618 : True := True.intro
theorem law.tw13842426366788959810 : True := True.intro
theorem law.tw581630979248748536 : True := True.intro
theorem law.tw9142270756455014936 : True := True.intro
theorem law.tw4857450981121428021 : True := True.intro
theorem law.tw8541979377530643823 : True := True.intro
theorem law.tw6639682718240228982 : True := True.intro
theorem law.tw2360388144880082473 : True := True.intro
theorem law.tw14617560702391422364 : True := True.intro
theorem law.tw14317502822950231774 : True := True.intro
theorem law.tw2070672184697497193 : True := True.intro
theorem law.tw4089622393701157624 : True := True.intro
theorem law.tw15203146848449140188 : True := True.intro
theorem law.tw6609836479102440350 : True := True.intro
theorem law.tw12778752544866661580 : True := True.intro
theorem law.tw351354326529436124 : True := True.intro
theorem law.tw11062681309371247458 : True := True.intro
theorem law.tw9367824684869332731 : True := True.intro
theorem law.tw9705406087231273881 : True := True.intro
theorem law.tw18072629212493113695 : True := True.intro
theorem law.tw3043470036575428307 : True := True.intro
theorem law.tw4789647429693112344 : True := True.intro
theorem law.tw17065853034018868707 : True := True.intro
theorem law.tw5865331365556526202 : True := True.intro
theorem law.tw14076399572816568179 : True := True.intro
theorem law.tw3354418783263562886 : True := True.intro
theorem law.tw13920396046425469239 : True := True.intro
theorem law.tw7734604250243216639 : True := True.intro
theorem law.tw3459007337505406896 : True := True.intro
theorem law.tw16121300976676042060 : True := True.intro
theorem law.tw16936248138489258172 : True := True.intro
theorem law.tw8379801371077579658 : True := True.intro
theorem law.tw402279622276383398 : True := True.intro
theorem law.tw1525368065110760597 : True := True.intro
theorem law.tw9043719692994908978 : True := True.intro
theorem law.tw3540389220791546976 : True := True.intro
theorem law.tw11444997793602299991 : True := True.intro
theorem law.tw15926445105586498537 : True := True.intro
theorem law.tw15842686482387449074 : True := True.intro
theorem law.tw12610608067756550805 : True := True.intro
theorem law.tw13749054020404154894 : True := True.intro
theorem law.tw15380865273908049988 : True := True.intro
theorem law.tw3558784788051183347 : True := True.intro
theorem law.tw17022016316827628603 : True := True.intro
theorem law.tw15346544961363321373 : True := True.intro
theorem law.tw8724380502384027866 : True := True.intro
theorem law.tw8909797698515804255 : True := True.intro
theorem law.tw16754735025710492841 : True := True.intro
theorem law.tw15162945169585403142 : True := True.intro
theorem law.tw11842154518297904970 : True := True.intro
theorem law.tw16143402536387952546 : True := True.intro
theorem law.tw5710286041021286952 : True := True.intro
theorem law.tw14498989106275084464 : True := True.intro
theorem law.tw15133894477763591001 : True := True.intro
theorem law.tw9505315131864032382 : True := True.intro
theorem law.tw15057182624156400746 : True := True.intro
theorem law.tw3602087526383413984 : True := True.intro
theorem law.tw3230608261355345448 : True := True.intro
theorem law.tw1060527474883285679 : True := True.intro
theorem law.tw11994036072046293465 : True := True.intro
theorem law.tw12013849283962830758 : True := True.intro
theorem law.tw9775578916617131780 : True := True.intro
theorem law.tw2030965984702790068 : True := True.intro
theorem law.tw10343620613306851896 : True := True.intro
theorem law.tw12409729927284601452 : True := True.intro
theorem law.tw4326799050210483083 : True := True.intro
theorem law.tw17472744829559773135 : True := True.intro
theorem law.tw15887162238682033566 : True := True.intro
theorem law.tw9549881006879880859 : True := True.intro
theorem law.tw3044046162406575875 : True := True.intro
theorem law.tw13483101245441255321 : True := True.intro
theorem law.tw5822903616692022278 : True := True.intro
theorem law.tw14347874162851305126 : True := True.intro
theorem law.tw6806221382148513329 : True := True.intro
theorem law.tw9774928459537144336 : True := True.intro
theorem law.tw12858416332795934490 : True := True.intro
theorem law.tw6914921336513587705 : True := True.intro
theorem law.tw4908517660498442698 : True := True.intro
theorem law.tw15550339962266270096 : True := True.intro
theorem law.tw1588967304687831749 : True := True.intro
theorem law.tw5765074778068036712 : True := True.intro
theorem law.tw16320569818401670327 : True := True.intro
theorem law.tw3054335285294786930 : True := True.intro
theorem law.tw434239029886370409 : True := True.intro
theorem law.tw10198373884071604499 : True := True.intro
theorem law.tw17885409212239369024 : True := True.intro
theorem law.tw6003215673028684012 : True := True.intro
theorem law.tw18067812818302755093 : True := True.intro
theorem law.tw14454013014457997316 : True := True.intro
theorem law.tw13633674342485586220 : True := True.intro
theorem law.tw4068673481559142534 : True := True.intro
theorem law.tw14088940365590322637 : True := True.intro
theorem law.tw8953799811704845711 : True := True.intro
theorem law.tw2550525375325809800 : True := True.intro
theorem law.tw10974992932302739955 : True := True.intro
theorem law.tw14805874555140095111 : True := True.intro
theorem law.tw6944951937206755967 : True := True.intro
theorem law.tw5037233810833290919 : True := True.intro
theorem law.tw655683508416521606 : True := True.intro
theorem law.tw14968367719556016292 : True := True.intro
theorem law.tw2637188902194257474 : True := True.intro
theorem law.tw5759171584303317809 : True := True.intro
theorem law.tw3921742220093380145 : True := True.intro
theorem law.tw18087031937497475063 : True := True.intro
theorem law.tw2534802532812314358 : True := True.intro
theorem law.tw11935970676940699786 : True := True.intro
theorem law.tw15999924402797230065 : True := True.intro
theorem law.tw1050659009266240554 : True := True.intro
theorem law.tw16224760143982805047 : True := True.intro
theorem law.tw6394418113948073315 : True := True.intro
theorem law.tw2190958759868804901 : True := True.intro
theorem law.tw3886675843612926803 : True := True.intro
theorem law.tw13478563133243941227 : True := True.intro
theorem law.tw15289330230984754401 : True := True.intro
theorem law.tw564559526481096679 : True := True.intro
theorem law.tw11572628800222441447 : True := True.intro
theorem law.tw10688277823682773845 : True := True.intro
theorem law.tw11902286102626654415 : True := True.intro
theorem law.tw11948677172620494662 : True := True.intro
theorem law.tw8941945780141715332 : True := True.intro
theorem law.tw14570365649230677866 : True := True.intro
theorem law.tw7264552106395557346 : True := True.intro
theorem law.tw1389820569774816010 : True := True.intro
theorem law.tw16417708465784863236 : True := True.intro
theorem law.tw3791791659867975981 : True := True.intro
theorem law.tw102369953223478417 : True := True.intro
theorem law.tw13718042623122868279 : True := True.intro
theorem law.tw127317143326429855 : True := True.intro
theorem law.tw17325071211167550441 : True := True.intro
theorem law.tw7757085409567536760 : True := True.intro
theorem law.tw16005900618382996980 : True := True.intro
theorem law.tw7990135326770990556 : True := True.intro
theorem law.tw16125145973140629509 : True := True.intro
theorem law.tw10794223006604294050 : True := True.intro
theorem law.tw3058312387204168268 : True := True.intro
theorem law.tw14240871002873000807 : True := True.intro
theorem law.tw11677494256100043861 : True := True.intro
theorem law.tw10419344180020835187 : True := True.intro
theorem law.tw13451534032485702743 : True := True.intro
theorem law.tw4346506710939506518 : True := True.intro
theorem law.tw8481551819484204512 : True := True.intro
theorem law.tw9751664218392036932 : True := True.intro
theorem law.tw15496741712441836406 : True := True.intro
theorem law.tw1901144896910080236 : True := True.intro
theorem law.tw5210029761005115848 : True := True.intro
theorem law.tw16555174397237850865 : True := True.intro
theorem law.tw12245500081363259393 : True := True.intro
theorem law.tw14863036695008648806 : True := True.intro
theorem law.tw2864799831941436772 : True := True.intro
theorem law.tw4549768856118776384 : True := True.intro
theorem law.tw14436188486168700746 : True := True.intro
theorem law.tw17262744447901875323 : True := True.intro
theorem law.tw4046071567669942238 : True := True.intro
theorem law.tw4733010638956210534 : True := True.intro
theorem law.tw14939899711081777794 : True := True.intro
theorem law.tw14917799086474653858 : True := True.intro
theorem law.tw17433297473590432304 : True := True.intro
theorem law.tw11166914248177860083 : True := True.intro
theorem law.tw6627507069022015959 : True := True.intro
theorem law.tw17093361896211462796 : True := True.intro
theorem law.tw13437287165872944686 : True := True.intro
theorem law.tw2349678823959529038 : True := True.intro
theorem law.tw12692742163140075742 : True := True.intro
theorem law.tw6981911342545965932 : True := True.intro
theorem law.tw7974842139376466880 : True := True.intro
theorem law.tw445187652221266311 : True := True.intro
theorem law.tw2408790809215497928 : True := True.intro
theorem law.tw8807841539937598354 : True := True.intro
theorem law.tw8096505338646543528 : True := True.intro
theorem law.tw5162061362114740 : True := True.intro
theorem law.tw10821486586268812515 : True := True.intro
theorem law.tw10137495668757444914 : True := True.intro
theorem law.tw14831383725187164143 : True := True.intro
theorem law.tw11673065614148770094 : True := True.intro
theorem law.tw16283311888657096546 : True := True.intro
theorem law.tw15514850812878357745 : True := True.intro
theorem law.tw1429309965200624537 : True := True.intro
theorem law.tw16251456166430716674 : True := True.intro
theorem law.tw4430809425077638310 : True := True.intro
theorem law.tw5112332982280096225 : True := True.intro
theorem law.tw16176092079185841447 : True := True.intro
theorem law.tw15246947223726993395 : True := True.intro
theorem law.tw16127396978525395202 : True := True.intro
theorem law.tw11863417558548698572 : True := True.intro
theorem law.tw407461395843676723 : True := True.intro
theorem law.tw6181767216480634638 : True := True.intro
theorem law.tw334166082916658206 : True := True.intro
theorem law.tw2109362653829874276 : True := True.intro
theorem law.tw3897705189744936346 : True := True.intro
theorem law.tw13522494884491878246 : True := True.intro
theorem law.tw15766633513702204512 : True := True.intro
theorem law.tw6118522254490007756 : True := True.intro
theorem law.tw14638260998799547269 : True := True.intro
theorem law.tw13987723442651042584 : True := True.intro
theorem law.tw14823078309275213862 : True := True.intro
theorem law.tw1826158907387034965 : True := True.intro
theorem law.tw3180723083338580804 : True := True.intro
theorem law.tw2759093891202059377 : True := True.intro
theorem law.tw16173505291465673776 : True := True.intro
theorem law.tw15844911930040286848 : True := True.intro
theorem law.tw11828176328403043835 : True := True.intro
theorem law.tw4486032776419574197 : True := True.intro
theorem law.tw1710791838299486756 : True := True.intro
theorem law.tw17490534313506657616 : True := True.intro
theorem law.tw9404216683206984957 : True := True.intro
theorem law.tw6868005720005893525 : True := True.intro
theorem law.tw13667275876176876367 : True := True.intro
theorem law.tw11276399659005007461 : True := True.intro
theorem law.tw12150825232487008385 : True := True.intro
theorem law.tw3797747664263751548 : True := True.intro
theorem law.tw7059899664208695735 : True := True.intro
theorem law.tw5962509045511649851 : True := True.intro
theorem law.tw1028061767266205885 : True := True.intro
theorem law.tw17190579585055793647 : True := True.intro
theorem law.tw16585132557245215809 : True := True.intro
theorem law.tw5690326788178225619 : True := True.intro
theorem law.tw11537241881448917984 : True := True.intro
theorem law.tw18114796583763774893 : True := True.intro
theorem law.tw13708295860528259264 : True := True.intro
theorem law.tw2044714275650722372 : True := True.intro
theorem law.tw13542253949724653569 : True := True.intro
theorem law.tw13526318596587369203 : True := True.intro
theorem law.tw16265916976389111379 : True := True.intro
theorem law.tw5330901876675591851 : True := True.intro
theorem law.tw7874035108860355382 : True := True.intro
theorem law.tw10247290731634373033 : True := True.intro
theorem law.tw2205698974497283170 : True := True.intro
theorem law.tw15302435305213789078 : True := True.intro
theorem law.tw9641771715135223730 : True := True.intro
theorem law.tw2759683279807804344 : True := True.intro
theorem law.tw9096682357707289654 : True := True.intro
theorem law.tw9250443183723457477 : True := True.intro
theorem law.tw1869818228139546136 : True := True.intro
theorem law.tw16114145909470816235 : True := True.intro
theorem law.tw1203716257701319383 : True := True.intro
theorem law.tw1802847094856485388 : True := True.intro
theorem law.tw12772357769716873759 : True := True.intro
theorem law.tw13229063250939053747 : True := True.intro
theorem law.tw17521603330594381506 : True := True.intro
theorem law.tw13571462578222039278 : True := True.intro
theorem law.tw10365027968710667838 : True := True.intro
theorem law.tw17351294838357633443 : True := True.intro
theorem law.tw14035150605665280278 : True := True.intro
theorem law.tw2197534260023057625 : True := True.intro
theorem law.tw6152378112859876241 : True := True.intro
theorem law.tw986719644861196294 : True := True.intro
theorem law.tw11585939484337836193 : True := True.intro
theorem law.tw9378306084680490058 : True := True.intro
theorem law.tw7928155888929269629 : True := True.intro
theorem law.tw9859195445176284192 : True := True.intro
theorem law.tw4286572355808766822 : True := True.intro
theorem law.tw9710088225557845874 : True := True.intro
theorem law.tw5152554778974162585 : True := True.intro
theorem law.tw654278399032429246 : True := True.intro
theorem law.tw12519877948920524721 : True := True.intro
theorem law.tw13936643096378992333 : True := True.intro
theorem law.tw15993453377266289018 : True := True.intro
theorem law.tw3369179463843577602 : True := True.intro
theorem law.tw1746432321631148817 : True := True.intro
theorem law.tw5241873987765446382 : True := True.intro
theorem law.tw9259028747146209043 : True := True.intro
theorem law.tw8476946520831507393 : True := True.intro
theorem law.tw1635936076561994385 : True := True.intro
theorem law.tw12590918176133248614 : True := True.intro
theorem law.tw18279175826143087046 : True := True.intro
theorem law.tw6446545568877546841 : True := True.intro
theorem law.tw4105993526743835061 : True := True.intro
theorem law.tw9198493169227720137 : True := True.intro
theorem law.tw15937226240868199268 : True := True.intro
theorem law.tw6286618539715635974 : True := True.intro
theorem law.tw15041525498782234677 : True := True.intro
theorem law.tw3943894540705788830 : True := True.intro
theorem law.tw766751810287931212 : True := True.intro
theorem law.tw13015613923333616007 : True := True.intro
theorem law.tw16653298701519530459 : True := True.intro
theorem law.tw7238077460143993408 : True := True.intro
theorem law.tw14848663850042179269 : True := True.intro
theorem law.tw17644929820385954830 : True := True.intro
theorem law.tw16686367200484181685 : True := True.intro
theorem law.tw5808560155020538968 : True := True.intro
theorem law.tw5043252444844704922 : True := True.intro
theorem law.tw16762458994305022840 : True := True.intro
theorem law.tw8439701749127279522 : True := True.intro
theorem law.tw11717155636593292668 : True := True.intro
theorem law.tw10184130182752807196 : True := True.intro
theorem law.tw7630794467942622387 : True := True.intro
theorem law.tw17383301986935559125 : True := True.intro
theorem law.tw11344415483884623159 : True := True.intro
theorem law.tw16986089415065116321 : True := True.intro
theorem law.tw17722742745207735485 : True := True.intro
theorem law.tw3022312534896902172 : True := True.intro
theorem law.tw11889812260386729796 : True := True.intro
theorem law.tw3250915212149896916 : True := True.intro
theorem law.tw10504286700687651304 : True := True.intro
theorem law.tw14576799054823838208 : True := True.intro
theorem law.tw8319792697340206452 : True := True.intro
theorem law.tw13632639987278980995 : True := True.intro
theorem law.tw16884566110622355778 : True := True.intro
theorem law.tw11906571095565090093 : True := True.intro
theorem law.tw16727424936897985260 : True := True.intro
theorem law.tw6872861749132703480 : True := True.intro
theorem law.tw6584260631595109972 : True := True.intro
theorem law.tw16658522673551069384 : True := True.intro
theorem law.tw13150898266244850823 : True := True.intro
theorem law.tw6636046092353448235 : True := True.intro
theorem law.tw11823684753796001451 : True := True.intro
theorem law.tw10373599535375446188 : True := True.intro
theorem law.tw17661046409378373187 : True := True.intro
theorem law.tw10465857802619788157 : True := True.intro
theorem law.tw568555166003729926 : True := True.intro
theorem law.tw4846713546244368349 : True := True.intro
theorem law.tw4622507943286758663 : True := True.intro
theorem law.tw5778479216837208672 : True := True.intro
theorem law.tw4996075523409900784 : True := True.intro
theorem law.tw8011040964148999876 : True := True.intro
theorem law.tw7585802756859319165 : True := True.intro
theorem law.tw1940508613919620296 : True := True.intro
theorem law.tw8222779815710385419 : True := True.intro
theorem law.tw6519122298890219348 : True := True.intro
theorem law.tw4374311865265045770 : True := True.intro
theorem law.tw522805188825062445 : True := True.intro
theorem law.tw5976782503849321656 : True := True.intro
theorem law.tw1981339053424895550 : True := True.intro
theorem law.tw4676788777328934994 : True := True.intro
set_option Elab.async true
theorem law : PySem.Challenge.rw_np0064_01.Holds := by
  w_on
  o_law
  o_head (kmHook heapK heapAs (fun _ => by kernel_rfl) [525])
  case hw => w_witness2
  k_go0
  k_steps
  rename News _ _ _ _ => kN
  rename Fr _ _ _ _ => kF
  rename Below callerA _ [] _ => kB
  rename IntsAre _ (List.map _ (List.take 16 _)) => kI
  rename (heapK _).In _ => kX
  rename Top topProg _ _ _ _ (ghostOf _ _) => kT
  refine stopE (make_table kB kF kX kN kT rfl (by decide +kernel) (by decide +kernel) ?_)
  intro dT t0 R O a1 a2 a3 a4 a5 b3 b4 b5 e1 e2 e3 e4 e5 nT nO oR h1 tk1 F1 N1 l1 l2 l3 l4 hoR hlo
  clear kF kN
  k_lt l1
  k_steps
  rename News _ _ _ _ => kN
  rename Fr _ _ _ _ => kF
  refine stopE (laps_at kN kF kB kX kT codeHd kI (by assumption) (by assumption) (by assumption) (by assumption) (by assumption) (by assumption) (by assumption) (by assumption) (by assumption) (by assumption) (by assumption) (by assumption) (by assumption) (by assumption) (by assumption) (by assumption) (by assumption) (by assumption) (by assumption) ?hE ?hq)
  case hE => passes_own
  case hq =>
    intro h9 tk9 news9 m9 G9 F9 N9
    exact law_tail F9 (by assumption) G9
end
end
end
end Mine
theorem PySem.Challenge.cw_np0064_01_holds : PySem.Challenge.rw_np0064_01.Holds :=
  Mine.law

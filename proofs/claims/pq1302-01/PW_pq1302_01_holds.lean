import PyProof.Rows.All
import Wide.All
import OpenK.AllK
import Wide.FinOn
import Lean
import PySem.Challenge.RW_pq1302_01
open PySem PySem.W PyProof.Rows PySem.Calls
set_option Elab.async false
set_option linter.all false
set_option maxRecDepth 100000
set_option maxHeartbeats 8000000
set_option compiler.extract_closed false
namespace Mine
example : True := by
  w_top off
  trivial
/-! ## the head, by hand: the library's pieces (LeftO.of_pieces) over objects in small blocks (the objects were printed by gen_head.lean) -/
noncomputable abbrev Pg0 : Program := PySem.Challenge.pw_pq1302_01
noncomputable def subs : Stmt → List Stmt
  | .FunctionDef _ _ b _ _ _ _ _ _ _ => b
  | .ClassDef _ _ _ b _ _ _ _ _ _ _ => b
  | .For _ _ b _ _ => b
  | .While _ b _ _ => b
  | .If _ b _ _ => b
  | _ => []
noncomputable def scN : Stmt → List (PySem.Str × NameKind)
  | .FunctionDef _ _ _ _ _ _ (.mk _ ns _ _ _) _ _ _ => ns
  | _ => []
noncomputable abbrev hd1 (l : List Stmt) : Stmt := l.headD (.Pass ⟨0, 0, 0, 0⟩)
noncomputable def L0 : Stmt := by
  refine (?f : (s : Stmt) → (r : List Stmt) → (Pg0.main.body.drop 0 = s :: r) → Stmt) _ _ rfl
  intro s r _
  exact s
noncomputable def L1 : Stmt := by
  refine (?f : (s : Stmt) → (r : List Stmt) → (Pg0.main.body.drop 1 = s :: r) → Stmt) _ _ rfl
  intro s r _
  exact s
noncomputable def L2 : Stmt := by
  refine (?f : (s : Stmt) → (r : List Stmt) → (Pg0.main.body.drop 2 = s :: r) → Stmt) _ _ rfl
  intro s r _
  exact s
noncomputable def L3 : Stmt := by
  refine (?f : (s : Stmt) → (r : List Stmt) → (Pg0.main.body.drop 3 = s :: r) → Stmt) _ _ rfl
  intro s r _
  exact s
noncomputable def L4 : Stmt := by
  refine (?f : (s : Stmt) → (r : List Stmt) → (Pg0.main.body.drop 4 = s :: r) → Stmt) _ _ rfl
  intro s r _
  exact s
noncomputable def L5 : Stmt := by
  refine (?f : (s : Stmt) → (r : List Stmt) → (Pg0.main.body.drop 5 = s :: r) → Stmt) _ _ rfl
  intro s r _
  exact s
noncomputable def L6 : Stmt := by
  refine (?f : (s : Stmt) → (r : List Stmt) → (Pg0.main.body.drop 6 = s :: r) → Stmt) _ _ rfl
  intro s r _
  exact s
noncomputable def L7 : Stmt := by
  refine (?f : (s : Stmt) → (r : List Stmt) → (Pg0.main.body.drop 7 = s :: r) → Stmt) _ _ rfl
  intro s r _
  exact s
noncomputable def L8 : Stmt := by
  refine (?f : (s : Stmt) → (r : List Stmt) → (Pg0.main.body.drop 8 = s :: r) → Stmt) _ _ rfl
  intro s r _
  exact s
noncomputable def L9 : Stmt := by
  refine (?f : (s : Stmt) → (r : List Stmt) → (Pg0.main.body.drop 9 = s :: r) → Stmt) _ _ rfl
  intro s r _
  exact s
noncomputable def L10 : Stmt := by
  refine (?f : (s : Stmt) → (r : List Stmt) → (Pg0.main.body.drop 10 = s :: r) → Stmt) _ _ rfl
  intro s r _
  exact s
noncomputable def L11 : Stmt := by
  refine (?f : (s : Stmt) → (r : List Stmt) → (Pg0.main.body.drop 11 = s :: r) → Stmt) _ _ rfl
  intro s r _
  exact s
noncomputable def L12 : Stmt := by
  refine (?f : (s : Stmt) → (r : List Stmt) → (Pg0.main.body.drop 12 = s :: r) → Stmt) _ _ rfl
  intro s r _
  exact s
noncomputable def L13 : Stmt := by
  refine (?f : (s : Stmt) → (r : List Stmt) → (Pg0.main.body.drop 13 = s :: r) → Stmt) _ _ rfl
  intro s r _
  exact s
noncomputable def L14 : Stmt := by
  refine (?f : (s : Stmt) → (r : List Stmt) → (Pg0.main.body.drop 14 = s :: r) → Stmt) _ _ rfl
  intro s r _
  exact s
noncomputable def L15 : Stmt := by
  refine (?f : (s : Stmt) → (r : List Stmt) → (Pg0.main.body.drop 15 = s :: r) → Stmt) _ _ rfl
  intro s r _
  exact s
noncomputable def L16 : Stmt := by
  refine (?f : (s : Stmt) → (r : List Stmt) → (Pg0.main.body.drop 16 = s :: r) → Stmt) _ _ rfl
  intro s r _
  exact s
noncomputable def L17 : Stmt := by
  refine (?f : (s : Stmt) → (r : List Stmt) → (Pg0.main.body.drop 17 = s :: r) → Stmt) _ _ rfl
  intro s r _
  exact s
noncomputable def L18 : Stmt := by
  refine (?f : (s : Stmt) → (r : List Stmt) → (Pg0.main.body.drop 18 = s :: r) → Stmt) _ _ rfl
  intro s r _
  exact s
noncomputable def L19 : Stmt := by
  refine (?f : (s : Stmt) → (r : List Stmt) → (Pg0.main.body.drop 19 = s :: r) → Stmt) _ _ rfl
  intro s r _
  exact s
noncomputable def L20 : Stmt := by
  refine (?f : (s : Stmt) → (r : List Stmt) → (Pg0.main.body.drop 20 = s :: r) → Stmt) _ _ rfl
  intro s r _
  exact s
noncomputable def L21 : Stmt := by
  refine (?f : (s : Stmt) → (r : List Stmt) → (Pg0.main.body.drop 21 = s :: r) → Stmt) _ _ rfl
  intro s r _
  exact s
noncomputable def L22 : Stmt := by
  refine (?f : (s : Stmt) → (r : List Stmt) → (Pg0.main.body.drop 22 = s :: r) → Stmt) _ _ rfl
  intro s r _
  exact s
noncomputable def L23 : Stmt := by
  refine (?f : (s : Stmt) → (r : List Stmt) → (Pg0.main.body.drop 23 = s :: r) → Stmt) _ _ rfl
  intro s r _
  exact s
noncomputable def L24 : Stmt := by
  refine (?f : (s : Stmt) → (r : List Stmt) → (Pg0.main.body.drop 24 = s :: r) → Stmt) _ _ rfl
  intro s r _
  exact s
noncomputable def L25 : Stmt := by
  refine (?f : (s : Stmt) → (r : List Stmt) → (Pg0.main.body.drop 25 = s :: r) → Stmt) _ _ rfl
  intro s r _
  exact s
noncomputable def L26 : Stmt := by
  refine (?f : (s : Stmt) → (r : List Stmt) → (Pg0.main.body.drop 26 = s :: r) → Stmt) _ _ rfl
  intro s r _
  exact s
noncomputable def L27b0 : Stmt := by
  refine (?f : (s : Stmt) → (r : List Stmt) → ((subs (hd1 (Pg0.main.body.drop 27))).drop 0 = s :: r) → Stmt) _ _ rfl
  intro s r _
  exact s
noncomputable def L27b1 : Stmt := by
  refine (?f : (s : Stmt) → (r : List Stmt) → ((subs (hd1 (Pg0.main.body.drop 27))).drop 1 = s :: r) → Stmt) _ _ rfl
  intro s r _
  exact s
noncomputable def L27b2 : Stmt := by
  refine (?f : (s : Stmt) → (r : List Stmt) → ((subs (hd1 (Pg0.main.body.drop 27))).drop 2 = s :: r) → Stmt) _ _ rfl
  intro s r _
  exact s
noncomputable def L27b3 : Stmt := by
  refine (?f : (s : Stmt) → (r : List Stmt) → ((subs (hd1 (Pg0.main.body.drop 27))).drop 3 = s :: r) → Stmt) _ _ rfl
  intro s r _
  exact s
noncomputable def L27b4 : Stmt := by
  refine (?f : (s : Stmt) → (r : List Stmt) → ((subs (hd1 (Pg0.main.body.drop 27))).drop 4 = s :: r) → Stmt) _ _ rfl
  intro s r _
  exact s
noncomputable def L27b5 : Stmt := by
  refine (?f : (s : Stmt) → (r : List Stmt) → ((subs (hd1 (Pg0.main.body.drop 27))).drop 5 = s :: r) → Stmt) _ _ rfl
  intro s r _
  exact s
noncomputable def L27b6 : Stmt := by
  refine (?f : (s : Stmt) → (r : List Stmt) → ((subs (hd1 (Pg0.main.body.drop 27))).drop 6 = s :: r) → Stmt) _ _ rfl
  intro s r _
  exact s
noncomputable def L27sc : Scope := by
  refine (?f : (n : PySem.Str) → (a : Arguments) → (b : List Stmt) → (ds : List PySem.Expr) → (r : Option PySem.Expr) → (tp : List TypeParam) → (sc : Scope) → (x : Option Scope) → (q : PySem.Str) → (p : Pos) → (re : List Stmt) → (Pg0.main.body.drop 27 = Stmt.FunctionDef n a b ds r tp sc x q p :: re) → Scope) _ _ _ _ _ _ _ _ _ _ _ rfl
  intro n a b ds r tp sc x q p re _
  exact sc
noncomputable def L27 : Stmt := by
  refine (?f : (n : PySem.Str) → (a : Arguments) → (b : List Stmt) → (ds : List PySem.Expr) → (r : Option PySem.Expr) → (tp : List TypeParam) → (sc : Scope) → (x : Option Scope) → (q : PySem.Str) → (p : Pos) → (re : List Stmt) → (Pg0.main.body.drop 27 = Stmt.FunctionDef n a b ds r tp sc x q p :: re) → Stmt) _ _ _ _ _ _ _ _ _ _ _ rfl
  intro n a b ds r tp sc x q p re _
  exact Stmt.FunctionDef n a [L27b0, L27b1, L27b2, L27b3, L27b4, L27b5, L27b6] ds r tp L27sc x q p
noncomputable def L28 : Stmt := by
  refine (?f : (s : Stmt) → (r : List Stmt) → (Pg0.main.body.drop 28 = s :: r) → Stmt) _ _ rfl
  intro s r _
  exact s
noncomputable def L29 : Stmt := by
  refine (?f : (s : Stmt) → (r : List Stmt) → (Pg0.main.body.drop 29 = s :: r) → Stmt) _ _ rfl
  intro s r _
  exact s
noncomputable def L30 : Stmt := by
  refine (?f : (s : Stmt) → (r : List Stmt) → (Pg0.main.body.drop 30 = s :: r) → Stmt) _ _ rfl
  intro s r _
  exact s
noncomputable def L31 : Stmt := by
  refine (?f : (s : Stmt) → (r : List Stmt) → (Pg0.main.body.drop 31 = s :: r) → Stmt) _ _ rfl
  intro s r _
  exact s
noncomputable def L32 : Stmt := by
  refine (?f : (s : Stmt) → (r : List Stmt) → (Pg0.main.body.drop 32 = s :: r) → Stmt) _ _ rfl
  intro s r _
  exact s
noncomputable def L33 : Stmt := by
  refine (?f : (s : Stmt) → (r : List Stmt) → (Pg0.main.body.drop 33 = s :: r) → Stmt) _ _ rfl
  intro s r _
  exact s
noncomputable def L34 : Stmt := by
  refine (?f : (s : Stmt) → (r : List Stmt) → (Pg0.main.body.drop 34 = s :: r) → Stmt) _ _ rfl
  intro s r _
  exact s
noncomputable def L35 : Stmt := by
  refine (?f : (s : Stmt) → (r : List Stmt) → (Pg0.main.body.drop 35 = s :: r) → Stmt) _ _ rfl
  intro s r _
  exact s
noncomputable def L36 : Stmt := by
  refine (?f : (s : Stmt) → (r : List Stmt) → (Pg0.main.body.drop 36 = s :: r) → Stmt) _ _ rfl
  intro s r _
  exact s
noncomputable def L37 : Stmt := by
  refine (?f : (s : Stmt) → (r : List Stmt) → (Pg0.main.body.drop 37 = s :: r) → Stmt) _ _ rfl
  intro s r _
  exact s
noncomputable def L38 : Stmt := by
  refine (?f : (s : Stmt) → (r : List Stmt) → (Pg0.main.body.drop 38 = s :: r) → Stmt) _ _ rfl
  intro s r _
  exact s
noncomputable def L39 : Stmt := by
  refine (?f : (s : Stmt) → (r : List Stmt) → (Pg0.main.body.drop 39 = s :: r) → Stmt) _ _ rfl
  intro s r _
  exact s
noncomputable def L40 : Stmt := by
  refine (?f : (s : Stmt) → (r : List Stmt) → (Pg0.main.body.drop 40 = s :: r) → Stmt) _ _ rfl
  intro s r _
  exact s
noncomputable def L41 : Stmt := by
  refine (?f : (s : Stmt) → (r : List Stmt) → (Pg0.main.body.drop 41 = s :: r) → Stmt) _ _ rfl
  intro s r _
  exact s
noncomputable def L42 : Stmt := by
  refine (?f : (s : Stmt) → (r : List Stmt) → (Pg0.main.body.drop 42 = s :: r) → Stmt) _ _ rfl
  intro s r _
  exact s
noncomputable def bo0 : List Stmt := [L0, L1, L2, L3, L4, L5, L6, L7]
noncomputable def bo1 : List Stmt := [L8, L9, L10, L11, L12, L13, L14, L15]
noncomputable def bo2 : List Stmt := [L16, L17, L18, L19, L20, L21, L22, L23]
noncomputable def bo3 : List Stmt := [L24, L25, L26, L27, L28, L29, L30, L31]
noncomputable def bo4 : List Stmt := [L32, L33, L34, L35, L36, L37, L38, L39]
noncomputable def bo5 : List Stmt := [L40, L41, L42]
noncomputable def sn0 : List (PySem.Str × NameKind) := by
  refine (?f : (x0 x1 x2 x3 x4 x5 x6 x7 : PySem.Str × NameKind) → (r : List (PySem.Str × NameKind)) → (Pg0.main.scope.names.drop 0 = x0 :: x1 :: x2 :: x3 :: x4 :: x5 :: x6 :: x7 :: r) → List (PySem.Str × NameKind)) _ _ _ _ _ _ _ _ _ rfl
  intro x0 x1 x2 x3 x4 x5 x6 x7 r _
  exact [x0, x1, x2, x3, x4, x5, x6, x7]
noncomputable def sn1 : List (PySem.Str × NameKind) := by
  refine (?f : (x0 x1 x2 x3 x4 x5 x6 x7 : PySem.Str × NameKind) → (r : List (PySem.Str × NameKind)) → (Pg0.main.scope.names.drop 8 = x0 :: x1 :: x2 :: x3 :: x4 :: x5 :: x6 :: x7 :: r) → List (PySem.Str × NameKind)) _ _ _ _ _ _ _ _ _ rfl
  intro x0 x1 x2 x3 x4 x5 x6 x7 r _
  exact [x0, x1, x2, x3, x4, x5, x6, x7]
noncomputable def sn2 : List (PySem.Str × NameKind) := by
  refine (?f : (x0 x1 x2 x3 x4 x5 x6 x7 : PySem.Str × NameKind) → (r : List (PySem.Str × NameKind)) → (Pg0.main.scope.names.drop 16 = x0 :: x1 :: x2 :: x3 :: x4 :: x5 :: x6 :: x7 :: r) → List (PySem.Str × NameKind)) _ _ _ _ _ _ _ _ _ rfl
  intro x0 x1 x2 x3 x4 x5 x6 x7 r _
  exact [x0, x1, x2, x3, x4, x5, x6, x7]
noncomputable def sn3 : List (PySem.Str × NameKind) := by
  refine (?f : (x0 x1 x2 x3 x4 x5 x6 x7 : PySem.Str × NameKind) → (r : List (PySem.Str × NameKind)) → (Pg0.main.scope.names.drop 24 = x0 :: x1 :: x2 :: x3 :: x4 :: x5 :: x6 :: x7 :: r) → List (PySem.Str × NameKind)) _ _ _ _ _ _ _ _ _ rfl
  intro x0 x1 x2 x3 x4 x5 x6 x7 r _
  exact [x0, x1, x2, x3, x4, x5, x6, x7]
noncomputable def sn4 : List (PySem.Str × NameKind) := by
  refine (?f : (x0 x1 x2 x3 x4 x5 x6 x7 : PySem.Str × NameKind) → (r : List (PySem.Str × NameKind)) → (Pg0.main.scope.names.drop 32 = x0 :: x1 :: x2 :: x3 :: x4 :: x5 :: x6 :: x7 :: r) → List (PySem.Str × NameKind)) _ _ _ _ _ _ _ _ _ rfl
  intro x0 x1 x2 x3 x4 x5 x6 x7 r _
  exact [x0, x1, x2, x3, x4, x5, x6, x7]
noncomputable def PW : Program := by
  refine (?f : (b : List Stmt) → (k : ScopeKind) → (ns : List (PySem.Str × NameKind)) → (g c : Bool) → (mm : List (PySem.Str × Const)) → (fa : Bool) → (fi : PySem.Str) → (mo : List (PySem.Str × Const)) → (m : List (PySem.Str × Bool × Module)) → (p : List Parse) → (a : List PySem.Str) → (h : List Parse) → (g2 : Given) → (Pg0 = Program.mk (Module.mk b (Scope.mk k ns g c mm) fa fi mo) m p a h g2) → Program) _ _ _ _ _ _ _ _ _ _ _ _ _ _ rfl
  intro b k ns g c mm fa fi mo m p a h g2 _
  exact Program.mk (Module.mk (bo0 ++ (bo1 ++ (bo2 ++ (bo3 ++ (bo4 ++ (bo5)))))) (Scope.mk k (sn0 ++ (sn1 ++ (sn2 ++ (sn3 ++ (sn4))))) g c mm) fa fi mo) m p a h g2
theorem pwE : PW = PySem.Challenge.pw_pq1302_01 := by kernel_rfl!
noncomputable def RW2 : OpenLaw := by
  refine (?f : (a : Program) → (b : PySem.Str) → (c : List PySem.Str) → (d : Nat) → (e f : Option Nat) → (g : Bool) → (PySem.Challenge.rw_pq1302_01 = OpenLaw.mk a b c d e f g) → OpenLaw) _ _ _ _ _ _ _ rfl
  intro a b c d e f g _
  exact OpenLaw.mk PW b c d e f g
theorem rwE : RW2 = PySem.Challenge.rw_pq1302_01 := by kernel_rfl!
noncomputable abbrev RR2 : OpenRow := OpenLaw.row RW2
noncomputable abbrev RR : OpenRow := OpenLaw.row PySem.Challenge.rw_pq1302_01
@[reducible] noncomputable def pick {α : Type} {x y : α} (_ : x = y) : α := x
noncomputable def sg (i : Nat) : Stmt := (Pg0.main.body.drop i).headD (.Pass ⟨0, 0, 0, 0⟩)
noncomputable def st (i : Nat) : Stmt := (PW.main.body.drop i).headD (.Pass ⟨0, 0, 0, 0⟩)
noncomputable def inCls : Stmt → List Stmt
  | .ClassDef _ _ _ b _ _ _ _ _ _ _ => b
  | _ => []
noncomputable def sg2 (i j : Nat) : Stmt := ((inCls (sg i)).drop j).headD (.Pass ⟨0, 0, 0, 0⟩)
noncomputable def st2 (i j : Nat) : Stmt := ((inCls (st i)).drop j).headD (.Pass ⟨0, 0, 0, 0⟩)
noncomputable abbrev mkF {n : Str} {a : Arguments} {b : List Stmt} {ds : List PySem.Expr} {r : Option PySem.Expr} {tp : List TypeParam} {sc : Scope} {x : Option Scope} {q : Str} {p : Pos} {s : Stmt}
    (g : Arguments → List Stmt → Scope → Obj) (_ : s = Stmt.FunctionDef n a b ds r tp sc x q p) : Obj := g a b sc
noncomputable def obN : Obj := ⟨.none, none, .plain, #[]⟩
noncomputable def fnU : Stmt → (Arguments → List Stmt → Scope → Obj) → Obj
  | .FunctionDef _ a b _ _ _ sc _ _ _, g => g a b sc
  | _, _ => obN
noncomputable def ovr (l : List (Nat × Obj)) (g : Nat → Obj) (i : Nat) : Obj := match l with
  | [] => g i
  | p :: l => match Nat.beq p.1 i with
    | true => p.2
    | false => ovr l g i
noncomputable def mkT (g : Nat → Obj) (n : Nat) : Nat → Nat → Nat → BT
  | 0, _, _ => .nil
  | k + 1, a, b => match Nat.blt b n with
    | true => .node (g b) (mkT g n k (2 * a) (a + b)) (mkT g n k (2 * a) (2 * a + b))
    | false => .nil
noncomputable abbrev x2 (P : Params) : Obj := ⟨.none, none, (.dict #[⟨(PySem.PyData.keyHash P "type.__subclasses__.Exception.0"), (.str "type.__subclasses__.Exception.0" 223), (.int 39 0)⟩, ⟨(PySem.PyData.keyHash P "type.__subclasses__.Exception.n"), (.str "type.__subclasses__.Exception.n" 224), (.int 1 0)⟩] 2), #[]⟩
noncomputable abbrev x3 (P : Params) : Obj := ⟨(.type "dict"), none, (.dict #[⟨(PySem.PyData.keyHash P "__name__"), (.str "__name__" 165), (.str "law_pq1302_01" 578)⟩, ⟨(PySem.PyData.keyHash P "__doc__"), (.str "__doc__" 166), .none⟩, ⟨(PySem.PyData.keyHash P "__package__"), (.str "__package__" 167), .none⟩, ⟨(PySem.PyData.keyHash P "__loader__"), (.str "__loader__" 168), (.builtin "__main__.__loader__#opaque")⟩, ⟨(PySem.PyData.keyHash P "__spec__"), (.str "__spec__" 169), .none⟩, ⟨(PySem.PyData.keyHash P "__annotations__"), (.str "__annotations__" 170), (.ref 6)⟩, ⟨(PySem.PyData.keyHash P "__builtins__"), (.str "__builtins__" 171), (.ref 4)⟩, ⟨(PySem.PyData.keyHash P "__file__"), (.str "__file__" 173), (.str "/claim/cut.py" 172)⟩, ⟨(PySem.PyData.keyHash P "__cached__"), (.str "__cached__" 174), .none⟩, ⟨(PySem.PyData.keyHash P "_wall"), (.str "_wall" 193), (.ref 21)⟩, ⟨(PySem.PyData.keyHash P "MAX_CODE"), (.str "MAX_CODE" 197), (.int 1114111 196)⟩, ⟨(PySem.PyData.keyHash P "UniError"), (.str "UniError" 226), (.ref 39)⟩, ⟨(PySem.PyData.keyHash P "BadNumber"), (.str "BadNumber" 242), (.ref 52)⟩, ⟨(PySem.PyData.keyHash P "place_by_half"), (.str "place_by_half" 253), (.ref 61)⟩, ⟨(PySem.PyData.keyHash P "FRACTION_SLASH"), (.str "FRACTION_SLASH" 257), (.int 8260 256)⟩, ⟨(PySem.PyData.keyHash P "DECIMAL"), (.str "DECIMAL" 259), (.str "de" 258)⟩, ⟨(PySem.PyData.keyHash P "decimal_digit"), (.str "decimal_digit" 268), (.ref 68)⟩, ⟨(PySem.PyData.keyHash P "zero_of"), (.str "zero_of" 277), (.ref 75)⟩, ⟨(PySem.PyData.keyHash P "numeric_value"), (.str "numeric_value" 286), (.ref 82)⟩, ⟨(PySem.PyData.keyHash P "number_common"), (.str "number_common" 294), (.ref 89)⟩, ⟨(PySem.PyData.keyHash P "number_lowest"), (.str "number_lowest" 303), (.ref 96)⟩, ⟨(PySem.PyData.keyHash P "number_plus"), (.str "number_plus" 311), (.ref 103)⟩, ⟨(PySem.PyData.keyHash P "decimal_value"), (.str "decimal_value" 323), (.ref 110)⟩, ⟨(PySem.PyData.keyHash P "DigitRun"), (.str "DigitRun" 363), (.ref 134)⟩, ⟨(PySem.PyData.keyHash P "digit_runs"), (.str "digit_runs" 375), (.ref 145)⟩, ⟨(PySem.PyData.keyHash P "fraction_value"), (.str "fraction_value" 387), (.ref 152)⟩, ⟨(PySem.PyData.keyHash P "numbers_in"), (.str "numbers_in" 398), (.ref 159)⟩, ⟨(PySem.PyData.keyHash P "number_run_end"), (.str "number_run_end" 409), (.ref 166)⟩, ⟨(PySem.PyData.keyHash P "number_end"), (.str "number_end" 422), (.ref 173)⟩, ⟨(PySem.PyData.keyHash P "number_is_sign"), (.str "number_is_sign" 431), (.ref 180)⟩, ⟨(PySem.PyData.keyHash P "range_are_like"), (.str "range_are_like" 439), (.ref 185)⟩, ⟨(PySem.PyData.keyHash P "RangeMap"), (.str "RangeMap" 508), (.ref 230)⟩, ⟨(PySem.PyData.keyHash P "data_defaults"), (.str "data_defaults" 518), (.ref 241)⟩, ⟨(PySem.PyData.keyHash P "Data"), (.str "Data" 577), (.ref 279)⟩, ⟨(PySem.PyData.keyHash P "_law_zeros"), (.str "_law_zeros" 582), (.ref 284)⟩, ⟨(PySem.PyData.keyHash P "_law_signs"), (.str "_law_signs" 588), (.ref 291)⟩, ⟨(PySem.PyData.keyHash P "_law_order"), (.str "_law_order" 597), (.ref 292)⟩, ⟨(PySem.PyData.keyHash P "_law_next"), (.str "_law_next" 605), (.ref 299)⟩, ⟨(PySem.PyData.keyHash P "_law_data"), (.str "_law_data" 615), (.ref 306)⟩, ⟨(PySem.PyData.keyHash P "_law_code"), (.str "_law_code" 623), (.ref 313)⟩, ⟨(PySem.PyData.keyHash P "_law_zero"), (.str "_law_zero" 632), (.ref 320)⟩, ⟨(PySem.PyData.keyHash P "_law_run"), (.str "_law_run" 642), (.ref 327)⟩, ⟨(PySem.PyData.keyHash P "_law_lowest"), (.str "_law_lowest" 648), (.ref 332)⟩, ⟨(PySem.PyData.keyHash P "_law_met"), (.str "_law_met" 663), (.ref 339)⟩, ⟨(PySem.PyData.keyHash P "_law_numbers"), (.str "_law_numbers" 674), (.ref 346)⟩, ⟨(PySem.PyData.keyHash P "_law_is_told"), (.str "_law_is_told" 680), (.ref 351)⟩, ⟨(PySem.PyData.keyHash P "law"), (.str "law" 686), (.ref 356)⟩] 47), #[]⟩
noncomputable abbrev x11 (_ : Params) : Obj := ⟨(.type "tuple"), none, (.seq #[] 0), #[]⟩
noncomputable abbrev x12 (_ : Params) : Obj := ⟨.none, none, (.fields #[(.int 1 0), (.int 0 0), (.ref 20), (.int 6 0), (.int 0 0), (.ref 27), (.int 10 0), (.int 0 0), (.ref 48), (.int 12 0), (.int 0 0), (.ref 60), (.int 25 0), (.int 0 0), (.ref 67), (.int 30 0), (.int 0 0), (.ref 74), (.int 33 0), (.int 0 0), (.ref 81), (.int 36 0), (.int 0 0), (.ref 88), (.int 41 0), (.int 0 0), (.ref 95), (.int 48 0), (.int 0 0), (.ref 102), (.int 50 0), (.int 0 0), (.ref 109), (.int 62 0), (.int 0 0), (.ref 116), (.int 71 0), (.int 0 0), (.ref 144), (.int 81 0), (.int 0 0), (.ref 151), (.int 100 0), (.int 0 0), (.ref 158), (.int 108 0), (.int 0 0), (.ref 165), (.int 115 0), (.int 0 0), (.ref 172), (.int 128 0), (.int 0 0), (.ref 179), (.int 133 0), (.int 0 0), (.ref 184), (.int 137 0), (.int 0 0), (.ref 191), (.int 169 0), (.int 0 0), (.ref 240), (.int 181 0), (.int 0 0), (.ref 247), (.int 203 0), (.int 0 0), (.ref 290), (.int 206 0), (.int 0 0), (.ref 298), (.int 211 0), (.int 0 0), (.ref 305), (.int 221 0), (.int 0 0), (.ref 312), (.int 230 0), (.int 0 0), (.ref 319), (.int 235 0), (.int 0 0), (.ref 326), (.int 241 0), (.int 0 0), (.ref 331), (.int 244 0), (.int 0 0), (.ref 338), (.int 257 0), (.int 0 0), (.ref 345), (.int 265 0), (.int 0 0), (.ref 350), (.int 269 0), (.int 0 0), (.ref 355)]), #[]⟩
noncomputable abbrev x13 (_ : Params) : Obj := ⟨(.type "code"), none, (.fields #[(.str "<module>" 182), (.str "<module>" 183), (.str "/claim/cut.py" 184), (.int 1 0), (.int 0 0), (.int 0 0), (.int 0 0), (.int 0 0), (.ref 11), (.bool false), (.int 181 0), (.ref 12), .none, .none, .none, .none, (.int 185 0), (.int 1 0), (.str "/claim/cut.py" 186)]), #[]⟩
noncomputable abbrev x14 (_ : Params) : Obj := ⟨(.type "frame"), none, .plain, #[(.some (.ref 13)), (.some (.ref 3)), (.some (.ref 3)), none, (.some (.str "__main__" 164)), none, (.some (.ref 0))]⟩
noncomputable abbrev x15 (_ : Params) : Obj := ⟨(.type "tuple"), none, (.seq #[] 0), #[]⟩
noncomputable abbrev x16 (_ : Params) : Obj := ⟨.none, none, (.fields #[]), #[]⟩
noncomputable abbrev x17 (_ : Params) : Obj := ⟨(.type "tuple"), none, (.seq #[(.str "k" 190)] 0), #[]⟩
noncomputable abbrev x18 (_ : Params) : Obj := ⟨(.type "tuple"), none, (.seq #[] 0), #[]⟩
noncomputable abbrev g19 : Arguments → List Stmt → Scope → Obj := fun a b sc => ⟨.none, none, (.func ⟨"_wall", "_wall", a, (.stmts b), sc, 0, [], .none, .none, .none, .none, none, .none, .none, 0⟩), #[]⟩
noncomputable abbrev f19 (_ : Params) : Obj := mkF (s := (sg 0)) g19 rfl
noncomputable def u19 (_ : Params) : Obj := fnU (st 0) g19
noncomputable abbrev x20 (_ : Params) : Obj := ⟨(.type "code"), none, (.fields #[(.str "_wall" 187), (.str "_wall" 188), (.str "/claim/cut.py" 189), (.int 1 0), (.int 1 0), (.int 0 0), (.int 0 0), (.int 3 0), (.ref 15), (.bool true), (.int 181 0), (.ref 16), .none, (.ref 17), (.ref 18), (.ref 19), (.int 191 0), (.int 1 0), (.str "/claim/cut.py" 192)]), #[]⟩
noncomputable abbrev g21 : Arguments → List Stmt → Scope → Obj := fun a b sc => ⟨(.type "function"), none, (.func ⟨"_wall", "_wall", a, (.stmts b), sc, 3, [], .none, .none, .none, (.str "__main__" 164), none, (.ref 20), .none, 0⟩), #[]⟩
noncomputable abbrev f21 (_ : Params) : Obj := mkF (s := (sg 0)) g21 rfl
noncomputable def u21 (_ : Params) : Obj := fnU (st 0) g21
noncomputable abbrev x22 (_ : Params) : Obj := ⟨(.type "tuple"), none, (.seq #[(.type "Exception")] 0), #[]⟩
noncomputable abbrev x23 (_ : Params) : Obj := ⟨(.type "builtin_function_or_method"), none, (.fields #[(.builtin "type.__prepare__"), (.type "type")]), #[]⟩
noncomputable abbrev x24 (P : Params) : Obj := ⟨(.type "dict"), none, (.dict #[⟨(PySem.PyData.keyHash P "__module__"), (.str "__module__" 205), (.str "unicore.base" 194)⟩, ⟨(PySem.PyData.keyHash P "__qualname__"), (.str "__qualname__" 207), (.str "UniError" 206)⟩, ⟨(PySem.PyData.keyHash P "__firstlineno__"), (.str "__firstlineno__" 209), (.int 6 208)⟩, ⟨(PySem.PyData.keyHash P "__init__"), (.str "__init__" 217), (.ref 36)⟩, ⟨(PySem.PyData.keyHash P "__static_attributes__"), (.str "__static_attributes__" 219), (.ref 37)⟩] 5), #[]⟩
noncomputable abbrev x25 (_ : Params) : Obj := ⟨(.type "tuple"), none, (.seq #[] 0), #[]⟩
noncomputable abbrev x26 (_ : Params) : Obj := ⟨.none, none, (.fields #[(.int 8 0), (.int 4 0), (.ref 35)]), #[]⟩
noncomputable abbrev x27 (_ : Params) : Obj := ⟨(.type "code"), none, (.fields #[(.str "UniError" 200), (.str "UniError" 201), (.str "/claim/cut.py" 202), (.int 6 0), (.int 0 0), (.int 0 0), (.int 0 0), (.int 0 0), (.ref 25), (.bool false), (.int 181 0), (.ref 26), .none, .none, .none, .none, (.int 203 0), (.int 6 0), (.str "/claim/cut.py" 204)]), #[]⟩
noncomputable abbrev x28 (_ : Params) : Obj := ⟨(.type "frame"), none, .plain, #[(.some (.ref 27)), (.some (.ref 3)), (.some (.ref 24)), none, (.some (.str "unicore.base" 194)), none, (.some (.ref 0))]⟩
noncomputable abbrev x29 (_ : Params) : Obj := ⟨(.type "tuple"), none, (.seq #[.none] 0), #[]⟩
noncomputable abbrev x30 (_ : Params) : Obj := ⟨(.type "tuple"), none, (.seq #[] 0), #[]⟩
noncomputable abbrev x31 (_ : Params) : Obj := ⟨.none, none, (.fields #[]), #[]⟩
noncomputable abbrev x32 (_ : Params) : Obj := ⟨(.type "tuple"), none, (.seq #[(.str "self" 213), (.str "told" 214)] 0), #[]⟩
noncomputable abbrev x33 (_ : Params) : Obj := ⟨(.type "tuple"), none, (.seq #[] 0), #[]⟩
noncomputable abbrev g34 : Arguments → List Stmt → Scope → Obj := fun a b sc => ⟨.none, none, (.func ⟨"__init__", "UniError.__init__", a, (.stmts b), sc, 0, [], .none, .none, .none, .none, none, .none, .none, 0⟩), #[]⟩
noncomputable abbrev f34 (_ : Params) : Obj := mkF (s := (sg2 3 0)) g34 rfl
noncomputable def u34 (_ : Params) : Obj := fnU (st2 3 0) g34
noncomputable abbrev x35 (_ : Params) : Obj := ⟨(.type "code"), none, (.fields #[(.str "__init__" 210), (.str "UniError.__init__" 211), (.str "/claim/cut.py" 212), (.int 8 0), (.int 2 0), (.int 0 0), (.int 0 0), (.int 3 0), (.ref 30), (.bool true), (.int 181 0), (.ref 31), .none, (.ref 32), (.ref 33), (.ref 34), (.int 215 0), (.int 8 0), (.str "/claim/cut.py" 216)]), #[]⟩
noncomputable abbrev g36 : Arguments → List Stmt → Scope → Obj := fun a b sc => ⟨(.type "function"), none, (.func ⟨"__init__", "UniError.__init__", a, (.stmts b), sc, 3, [], (.ref 29), .none, .none, (.str "unicore.base" 194), none, (.ref 35), .none, 0⟩), #[]⟩
noncomputable abbrev f36 (_ : Params) : Obj := mkF (s := (sg2 3 0)) g36 rfl
noncomputable def u36 (_ : Params) : Obj := fnU (st2 3 0) g36
noncomputable abbrev x37 (_ : Params) : Obj := ⟨(.type "tuple"), none, (.seq #[(.str "told" 218)] 0), #[]⟩
noncomputable abbrev x38 (P : Params) : Obj := ⟨(.type "dict"), none, (.dict #[⟨(PySem.PyData.keyHash P "__module__"), (.str "__module__" 205), (.str "unicore.base" 194)⟩, ⟨(PySem.PyData.keyHash P "__firstlineno__"), (.str "__firstlineno__" 209), (.int 6 208)⟩, ⟨(PySem.PyData.keyHash P "__init__"), (.str "__init__" 217), (.ref 36)⟩, ⟨(PySem.PyData.keyHash P "__static_attributes__"), (.str "__static_attributes__" 219), (.ref 37)⟩, ⟨(PySem.PyData.keyHash P "__weakref__"), (.str "__weakref__" 221), (.ref 40)⟩, ⟨(PySem.PyData.keyHash P "__doc__"), (.str "__doc__" 222), .none⟩] 3), #[]⟩
noncomputable abbrev x39 (_ : Params) : Obj := ⟨(.type "type"), none, (.cls ⟨"UniError", [(.type "Exception")], [(.ref 39), (.type "Exception"), (.type "BaseException"), (.type "object")], 38, "UniError", true, [], [(.ref 52)], false, none, false⟩), #[(.some (.ref 22)), none, (.some (.str "UniError" 198)), (.some (.str "UniError" 206)), (.some (.builtin "Exception.__new__")), (.some (.bool true))]⟩
noncomputable abbrev x40 (_ : Params) : Obj := ⟨(.type "getset_descriptor"), none, (.fields #[(.str "__weakref__" 220), (.ref 39), (.builtin "ExceptionGroup.__weakref__"), .none]), #[]⟩
noncomputable abbrev x41 (_ : Params) : Obj := ⟨(.type "super"), none, (.fields #[(.ref 39), (.ref 39), (.ref 39)]), #[]⟩
noncomputable abbrev x42 (_ : Params) : Obj := ⟨(.type "builtin_function_or_method"), none, (.fields #[(.builtin "object.__init_subclass__"), (.ref 39)]), #[]⟩
noncomputable abbrev x43 (_ : Params) : Obj := ⟨(.type "tuple"), none, (.seq #[(.ref 39)] 0), #[]⟩
noncomputable abbrev x44 (_ : Params) : Obj := ⟨(.type "builtin_function_or_method"), none, (.fields #[(.builtin "type.__prepare__"), (.type "type")]), #[]⟩
noncomputable abbrev x45 (P : Params) : Obj := ⟨(.type "dict"), none, (.dict #[⟨(PySem.PyData.keyHash P "__module__"), (.str "__module__" 234), (.str "unicore.base" 194)⟩, ⟨(PySem.PyData.keyHash P "__qualname__"), (.str "__qualname__" 236), (.str "BadNumber" 235)⟩, ⟨(PySem.PyData.keyHash P "__firstlineno__"), (.str "__firstlineno__" 238), (.int 10 237)⟩, ⟨(PySem.PyData.keyHash P "__static_attributes__"), (.str "__static_attributes__" 239), (.ref 50)⟩] 4), #[]⟩
noncomputable abbrev x46 (_ : Params) : Obj := ⟨(.type "tuple"), none, (.seq #[] 0), #[]⟩
noncomputable abbrev x47 (_ : Params) : Obj := ⟨.none, none, (.fields #[]), #[]⟩
noncomputable abbrev x48 (_ : Params) : Obj := ⟨(.type "code"), none, (.fields #[(.str "BadNumber" 229), (.str "BadNumber" 230), (.str "/claim/cut.py" 231), (.int 10 0), (.int 0 0), (.int 0 0), (.int 0 0), (.int 0 0), (.ref 46), (.bool false), (.int 181 0), (.ref 47), .none, .none, .none, .none, (.int 232 0), (.int 10 0), (.str "/claim/cut.py" 233)]), #[]⟩
noncomputable abbrev x49 (_ : Params) : Obj := ⟨(.type "frame"), none, .plain, #[(.some (.ref 48)), (.some (.ref 3)), (.some (.ref 45)), none, (.some (.str "unicore.base" 194)), none, (.some (.ref 0))]⟩
noncomputable abbrev x50 (_ : Params) : Obj := ⟨(.type "tuple"), none, (.seq #[] 0), #[]⟩
noncomputable abbrev x51 (P : Params) : Obj := ⟨(.type "dict"), none, (.dict #[⟨(PySem.PyData.keyHash P "__module__"), (.str "__module__" 234), (.str "unicore.base" 194)⟩, ⟨(PySem.PyData.keyHash P "__firstlineno__"), (.str "__firstlineno__" 238), (.int 10 237)⟩, ⟨(PySem.PyData.keyHash P "__static_attributes__"), (.str "__static_attributes__" 239), (.ref 50)⟩, ⟨(PySem.PyData.keyHash P "__doc__"), (.str "__doc__" 240), .none⟩] 2), #[]⟩
noncomputable abbrev x52 (_ : Params) : Obj := ⟨(.type "type"), none, (.cls ⟨"BadNumber", [(.ref 39)], [(.ref 52), (.ref 39), (.type "Exception"), (.type "BaseException"), (.type "object")], 51, "BadNumber", true, [], [], false, none, false⟩), #[(.some (.ref 43)), none, (.some (.str "BadNumber" 227)), (.some (.str "BadNumber" 235)), (.some (.builtin "Exception.__new__")), (.some (.bool true))]⟩
noncomputable abbrev x53 (_ : Params) : Obj := ⟨(.type "super"), none, (.fields #[(.ref 52), (.ref 52), (.ref 52)]), #[]⟩
noncomputable abbrev x54 (_ : Params) : Obj := ⟨(.type "builtin_function_or_method"), none, (.fields #[(.builtin "object.__init_subclass__"), (.ref 52)]), #[]⟩
noncomputable abbrev x55 (_ : Params) : Obj := ⟨(.type "tuple"), none, (.seq #[] 0), #[]⟩
noncomputable abbrev x56 (_ : Params) : Obj := ⟨.none, none, (.fields #[]), #[]⟩
noncomputable abbrev x57 (_ : Params) : Obj := ⟨(.type "tuple"), none, (.seq #[(.str "firsts" 246), (.str "number" 247), (.str "low" 248), (.str "high" 249), (.str "middle" 250)] 0), #[]⟩
noncomputable abbrev x58 (_ : Params) : Obj := ⟨(.type "tuple"), none, (.seq #[] 0), #[]⟩
noncomputable abbrev g59 : Arguments → List Stmt → Scope → Obj := fun a b sc => ⟨.none, none, (.func ⟨"place_by_half", "place_by_half", a, (.stmts b), sc, 0, [], .none, .none, .none, .none, none, .none, .none, 0⟩), #[]⟩
noncomputable abbrev f59 (_ : Params) : Obj := mkF (s := (sg 5)) g59 rfl
noncomputable def u59 (_ : Params) : Obj := fnU (st 5) g59
noncomputable abbrev x60 (_ : Params) : Obj := ⟨(.type "code"), none, (.fields #[(.str "place_by_half" 243), (.str "place_by_half" 244), (.str "/claim/cut.py" 245), (.int 12 0), (.int 2 0), (.int 0 0), (.int 0 0), (.int 3 0), (.ref 55), (.bool true), (.int 181 0), (.ref 56), .none, (.ref 57), (.ref 58), (.ref 59), (.int 251 0), (.int 12 0), (.str "/claim/cut.py" 252)]), #[]⟩
noncomputable abbrev g61 : Arguments → List Stmt → Scope → Obj := fun a b sc => ⟨(.type "function"), none, (.func ⟨"place_by_half", "place_by_half", a, (.stmts b), sc, 3, [], .none, .none, .none, (.str "unicore.base" 194), none, (.ref 60), .none, 0⟩), #[]⟩
noncomputable abbrev f61 (_ : Params) : Obj := mkF (s := (sg 5)) g61 rfl
noncomputable def u61 (_ : Params) : Obj := fnU (st 5) g61
noncomputable abbrev x62 (_ : Params) : Obj := ⟨(.type "tuple"), none, (.seq #[] 0), #[]⟩
noncomputable abbrev x63 (_ : Params) : Obj := ⟨.none, none, (.fields #[]), #[]⟩
noncomputable abbrev x64 (_ : Params) : Obj := ⟨(.type "tuple"), none, (.seq #[(.str "code" 263), (.str "data" 264), (.str "value" 265)] 0), #[]⟩
noncomputable abbrev x65 (_ : Params) : Obj := ⟨(.type "tuple"), none, (.seq #[] 0), #[]⟩
noncomputable abbrev g66 : Arguments → List Stmt → Scope → Obj := fun a b sc => ⟨.none, none, (.func ⟨"decimal_digit", "decimal_digit", a, (.stmts b), sc, 0, [], .none, .none, .none, .none, none, .none, .none, 0⟩), #[]⟩
noncomputable abbrev f66 (_ : Params) : Obj := mkF (s := (sg 9)) g66 rfl
noncomputable def u66 (_ : Params) : Obj := fnU (st 9) g66
noncomputable abbrev x67 (_ : Params) : Obj := ⟨(.type "code"), none, (.fields #[(.str "decimal_digit" 260), (.str "decimal_digit" 261), (.str "/claim/cut.py" 262), (.int 25 0), (.int 2 0), (.int 0 0), (.int 0 0), (.int 3 0), (.ref 62), (.bool true), (.int 181 0), (.ref 63), .none, (.ref 64), (.ref 65), (.ref 66), (.int 266 0), (.int 25 0), (.str "/claim/cut.py" 267)]), #[]⟩
noncomputable abbrev g68 : Arguments → List Stmt → Scope → Obj := fun a b sc => ⟨(.type "function"), none, (.func ⟨"decimal_digit", "decimal_digit", a, (.stmts b), sc, 3, [], .none, .none, .none, (.str "unicore.digits" 254), none, (.ref 67), .none, 0⟩), #[]⟩
noncomputable abbrev f68 (_ : Params) : Obj := mkF (s := (sg 9)) g68 rfl
noncomputable def u68 (_ : Params) : Obj := fnU (st 9) g68
noncomputable abbrev x69 (_ : Params) : Obj := ⟨(.type "tuple"), none, (.seq #[] 0), #[]⟩
noncomputable abbrev x70 (_ : Params) : Obj := ⟨.none, none, (.fields #[]), #[]⟩
noncomputable abbrev x71 (_ : Params) : Obj := ⟨(.type "tuple"), none, (.seq #[(.str "code" 272), (.str "data" 273), (.str "value" 274)] 0), #[]⟩
noncomputable abbrev x72 (_ : Params) : Obj := ⟨(.type "tuple"), none, (.seq #[] 0), #[]⟩
noncomputable abbrev g73 : Arguments → List Stmt → Scope → Obj := fun a b sc => ⟨.none, none, (.func ⟨"zero_of", "zero_of", a, (.stmts b), sc, 0, [], .none, .none, .none, .none, none, .none, .none, 0⟩), #[]⟩
noncomputable abbrev f73 (_ : Params) : Obj := mkF (s := (sg 10)) g73 rfl
noncomputable def u73 (_ : Params) : Obj := fnU (st 10) g73
noncomputable abbrev x74 (_ : Params) : Obj := ⟨(.type "code"), none, (.fields #[(.str "zero_of" 269), (.str "zero_of" 270), (.str "/claim/cut.py" 271), (.int 30 0), (.int 2 0), (.int 0 0), (.int 0 0), (.int 3 0), (.ref 69), (.bool true), (.int 181 0), (.ref 70), .none, (.ref 71), (.ref 72), (.ref 73), (.int 275 0), (.int 30 0), (.str "/claim/cut.py" 276)]), #[]⟩
noncomputable abbrev g75 : Arguments → List Stmt → Scope → Obj := fun a b sc => ⟨(.type "function"), none, (.func ⟨"zero_of", "zero_of", a, (.stmts b), sc, 3, [], .none, .none, .none, (.str "unicore.digits" 254), none, (.ref 74), .none, 0⟩), #[]⟩
noncomputable abbrev f75 (_ : Params) : Obj := mkF (s := (sg 10)) g75 rfl
noncomputable def u75 (_ : Params) : Obj := fnU (st 10) g75
noncomputable abbrev x76 (_ : Params) : Obj := ⟨(.type "tuple"), none, (.seq #[] 0), #[]⟩
noncomputable abbrev x77 (_ : Params) : Obj := ⟨.none, none, (.fields #[]), #[]⟩
noncomputable abbrev x78 (_ : Params) : Obj := ⟨(.type "tuple"), none, (.seq #[(.str "code" 281), (.str "data" 282), (.str "value" 283)] 0), #[]⟩
noncomputable abbrev x79 (_ : Params) : Obj := ⟨(.type "tuple"), none, (.seq #[] 0), #[]⟩
noncomputable abbrev g80 : Arguments → List Stmt → Scope → Obj := fun a b sc => ⟨.none, none, (.func ⟨"numeric_value", "numeric_value", a, (.stmts b), sc, 0, [], .none, .none, .none, .none, none, .none, .none, 0⟩), #[]⟩
noncomputable abbrev f80 (_ : Params) : Obj := mkF (s := (sg 11)) g80 rfl
noncomputable def u80 (_ : Params) : Obj := fnU (st 11) g80
noncomputable abbrev x81 (_ : Params) : Obj := ⟨(.type "code"), none, (.fields #[(.str "numeric_value" 278), (.str "numeric_value" 279), (.str "/claim/cut.py" 280), (.int 33 0), (.int 2 0), (.int 0 0), (.int 0 0), (.int 3 0), (.ref 76), (.bool true), (.int 181 0), (.ref 77), .none, (.ref 78), (.ref 79), (.ref 80), (.int 284 0), (.int 33 0), (.str "/claim/cut.py" 285)]), #[]⟩
noncomputable abbrev g82 : Arguments → List Stmt → Scope → Obj := fun a b sc => ⟨(.type "function"), none, (.func ⟨"numeric_value", "numeric_value", a, (.stmts b), sc, 3, [], .none, .none, .none, (.str "unicore.digits" 254), none, (.ref 81), .none, 0⟩), #[]⟩
noncomputable abbrev f82 (_ : Params) : Obj := mkF (s := (sg 11)) g82 rfl
noncomputable def u82 (_ : Params) : Obj := fnU (st 11) g82
noncomputable abbrev x83 (_ : Params) : Obj := ⟨(.type "tuple"), none, (.seq #[] 0), #[]⟩
noncomputable abbrev x84 (_ : Params) : Obj := ⟨.none, none, (.fields #[]), #[]⟩
noncomputable abbrev x85 (_ : Params) : Obj := ⟨(.type "tuple"), none, (.seq #[(.str "one" 290), (.str "other" 291)] 0), #[]⟩
noncomputable abbrev x86 (_ : Params) : Obj := ⟨(.type "tuple"), none, (.seq #[] 0), #[]⟩
noncomputable abbrev g87 : Arguments → List Stmt → Scope → Obj := fun a b sc => ⟨.none, none, (.func ⟨"number_common", "number_common", a, (.stmts b), sc, 0, [], .none, .none, .none, .none, none, .none, .none, 0⟩), #[]⟩
noncomputable abbrev f87 (_ : Params) : Obj := mkF (s := (sg 12)) g87 rfl
noncomputable def u87 (_ : Params) : Obj := fnU (st 12) g87
noncomputable abbrev x88 (_ : Params) : Obj := ⟨(.type "code"), none, (.fields #[(.str "number_common" 287), (.str "number_common" 288), (.str "/claim/cut.py" 289), (.int 36 0), (.int 2 0), (.int 0 0), (.int 0 0), (.int 3 0), (.ref 83), (.bool true), (.int 181 0), (.ref 84), .none, (.ref 85), (.ref 86), (.ref 87), (.int 292 0), (.int 36 0), (.str "/claim/cut.py" 293)]), #[]⟩
noncomputable abbrev g89 : Arguments → List Stmt → Scope → Obj := fun a b sc => ⟨(.type "function"), none, (.func ⟨"number_common", "number_common", a, (.stmts b), sc, 3, [], .none, .none, .none, (.str "unicore.digits" 254), none, (.ref 88), .none, 0⟩), #[]⟩
noncomputable abbrev f89 (_ : Params) : Obj := mkF (s := (sg 12)) g89 rfl
noncomputable def u89 (_ : Params) : Obj := fnU (st 12) g89
noncomputable abbrev x90 (_ : Params) : Obj := ⟨(.type "tuple"), none, (.seq #[] 0), #[]⟩
noncomputable abbrev x91 (_ : Params) : Obj := ⟨.none, none, (.fields #[]), #[]⟩
noncomputable abbrev x92 (_ : Params) : Obj := ⟨(.type "tuple"), none, (.seq #[(.str "num" 298), (.str "den" 299), (.str "by" 300)] 0), #[]⟩
noncomputable abbrev x93 (_ : Params) : Obj := ⟨(.type "tuple"), none, (.seq #[] 0), #[]⟩
noncomputable abbrev g94 : Arguments → List Stmt → Scope → Obj := fun a b sc => ⟨.none, none, (.func ⟨"number_lowest", "number_lowest", a, (.stmts b), sc, 0, [], .none, .none, .none, .none, none, .none, .none, 0⟩), #[]⟩
noncomputable abbrev f94 (_ : Params) : Obj := mkF (s := (sg 13)) g94 rfl
noncomputable def u94 (_ : Params) : Obj := fnU (st 13) g94
noncomputable abbrev x95 (_ : Params) : Obj := ⟨(.type "code"), none, (.fields #[(.str "number_lowest" 295), (.str "number_lowest" 296), (.str "/claim/cut.py" 297), (.int 41 0), (.int 2 0), (.int 0 0), (.int 0 0), (.int 3 0), (.ref 90), (.bool true), (.int 181 0), (.ref 91), .none, (.ref 92), (.ref 93), (.ref 94), (.int 301 0), (.int 41 0), (.str "/claim/cut.py" 302)]), #[]⟩
noncomputable abbrev g96 : Arguments → List Stmt → Scope → Obj := fun a b sc => ⟨(.type "function"), none, (.func ⟨"number_lowest", "number_lowest", a, (.stmts b), sc, 3, [], .none, .none, .none, (.str "unicore.digits" 254), none, (.ref 95), .none, 0⟩), #[]⟩
noncomputable abbrev f96 (_ : Params) : Obj := mkF (s := (sg 13)) g96 rfl
noncomputable def u96 (_ : Params) : Obj := fnU (st 13) g96
noncomputable abbrev x97 (_ : Params) : Obj := ⟨(.type "tuple"), none, (.seq #[] 0), #[]⟩
noncomputable abbrev x98 (_ : Params) : Obj := ⟨.none, none, (.fields #[]), #[]⟩
noncomputable abbrev x99 (_ : Params) : Obj := ⟨(.type "tuple"), none, (.seq #[(.str "one" 307), (.str "other" 308)] 0), #[]⟩
noncomputable abbrev x100 (_ : Params) : Obj := ⟨(.type "tuple"), none, (.seq #[] 0), #[]⟩
noncomputable abbrev g101 : Arguments → List Stmt → Scope → Obj := fun a b sc => ⟨.none, none, (.func ⟨"number_plus", "number_plus", a, (.stmts b), sc, 0, [], .none, .none, .none, .none, none, .none, .none, 0⟩), #[]⟩
noncomputable abbrev f101 (_ : Params) : Obj := mkF (s := (sg 14)) g101 rfl
noncomputable def u101 (_ : Params) : Obj := fnU (st 14) g101
noncomputable abbrev x102 (_ : Params) : Obj := ⟨(.type "code"), none, (.fields #[(.str "number_plus" 304), (.str "number_plus" 305), (.str "/claim/cut.py" 306), (.int 48 0), (.int 2 0), (.int 0 0), (.int 0 0), (.int 3 0), (.ref 97), (.bool true), (.int 181 0), (.ref 98), .none, (.ref 99), (.ref 100), (.ref 101), (.int 309 0), (.int 48 0), (.str "/claim/cut.py" 310)]), #[]⟩
noncomputable abbrev g103 : Arguments → List Stmt → Scope → Obj := fun a b sc => ⟨(.type "function"), none, (.func ⟨"number_plus", "number_plus", a, (.stmts b), sc, 3, [], .none, .none, .none, (.str "unicore.digits" 254), none, (.ref 102), .none, 0⟩), #[]⟩
noncomputable abbrev f103 (_ : Params) : Obj := mkF (s := (sg 14)) g103 rfl
noncomputable def u103 (_ : Params) : Obj := fnU (st 14) g103
noncomputable abbrev x104 (_ : Params) : Obj := ⟨(.type "tuple"), none, (.seq #[] 0), #[]⟩
noncomputable abbrev x105 (_ : Params) : Obj := ⟨.none, none, (.fields #[]), #[]⟩
noncomputable abbrev x106 (_ : Params) : Obj := ⟨(.type "tuple"), none, (.seq #[(.str "text" 315), (.str "data" 316), (.str "zero" 317), (.str "found" 318), (.str "code" 319), (.str "value" 320)] 0), #[]⟩
noncomputable abbrev x107 (_ : Params) : Obj := ⟨(.type "tuple"), none, (.seq #[] 0), #[]⟩
noncomputable abbrev g108 : Arguments → List Stmt → Scope → Obj := fun a b sc => ⟨.none, none, (.func ⟨"decimal_value", "decimal_value", a, (.stmts b), sc, 0, [], .none, .none, .none, .none, none, .none, .none, 0⟩), #[]⟩
noncomputable abbrev f108 (_ : Params) : Obj := mkF (s := (sg 15)) g108 rfl
noncomputable def u108 (_ : Params) : Obj := fnU (st 15) g108
noncomputable abbrev x109 (_ : Params) : Obj := ⟨(.type "code"), none, (.fields #[(.str "decimal_value" 312), (.str "decimal_value" 313), (.str "/claim/cut.py" 314), (.int 50 0), (.int 2 0), (.int 0 0), (.int 0 0), (.int 3 0), (.ref 104), (.bool true), (.int 181 0), (.ref 105), .none, (.ref 106), (.ref 107), (.ref 108), (.int 321 0), (.int 50 0), (.str "/claim/cut.py" 322)]), #[]⟩
noncomputable abbrev g110 : Arguments → List Stmt → Scope → Obj := fun a b sc => ⟨(.type "function"), none, (.func ⟨"decimal_value", "decimal_value", a, (.stmts b), sc, 3, [], .none, .none, .none, (.str "unicore.digits" 254), none, (.ref 109), .none, 0⟩), #[]⟩
noncomputable abbrev f110 (_ : Params) : Obj := mkF (s := (sg 15)) g110 rfl
noncomputable def u110 (_ : Params) : Obj := fnU (st 15) g110
noncomputable abbrev x111 (_ : Params) : Obj := ⟨(.type "tuple"), none, (.seq #[] 0), #[]⟩
noncomputable abbrev x112 (_ : Params) : Obj := ⟨(.type "builtin_function_or_method"), none, (.fields #[(.builtin "type.__prepare__"), (.type "type")]), #[]⟩
noncomputable abbrev x113 (P : Params) : Obj := ⟨(.type "dict"), none, (.dict #[⟨(PySem.PyData.keyHash P "__module__"), (.str "__module__" 331), (.str "unicore.digits" 254)⟩, ⟨(PySem.PyData.keyHash P "__qualname__"), (.str "__qualname__" 333), (.str "DigitRun" 332)⟩, ⟨(PySem.PyData.keyHash P "__firstlineno__"), (.str "__firstlineno__" 335), (.int 62 334)⟩, ⟨(PySem.PyData.keyHash P "__init__"), (.str "__init__" 345), (.ref 124)⟩, ⟨(PySem.PyData.keyHash P "row"), (.str "row" 352), (.ref 131)⟩, ⟨(PySem.PyData.keyHash P "__static_attributes__"), (.str "__static_attributes__" 356), (.ref 132)⟩] 6), #[]⟩
noncomputable abbrev x114 (_ : Params) : Obj := ⟨(.type "tuple"), none, (.seq #[] 0), #[]⟩
noncomputable abbrev x115 (_ : Params) : Obj := ⟨.none, none, (.fields #[(.int 64 0), (.int 4 0), (.ref 123), (.int 69 0), (.int 4 0), (.ref 130)]), #[]⟩
noncomputable abbrev x116 (_ : Params) : Obj := ⟨(.type "code"), none, (.fields #[(.str "DigitRun" 326), (.str "DigitRun" 327), (.str "/claim/cut.py" 328), (.int 62 0), (.int 0 0), (.int 0 0), (.int 0 0), (.int 0 0), (.ref 114), (.bool false), (.int 181 0), (.ref 115), .none, .none, .none, .none, (.int 329 0), (.int 62 0), (.str "/claim/cut.py" 330)]), #[]⟩
noncomputable abbrev x117 (_ : Params) : Obj := ⟨(.type "frame"), none, .plain, #[(.some (.ref 116)), (.some (.ref 3)), (.some (.ref 113)), none, (.some (.str "unicore.digits" 254)), none, (.some (.ref 0))]⟩
noncomputable abbrev x118 (_ : Params) : Obj := ⟨(.type "tuple"), none, (.seq #[] 0), #[]⟩
noncomputable abbrev x119 (_ : Params) : Obj := ⟨.none, none, (.fields #[]), #[]⟩
noncomputable abbrev x120 (_ : Params) : Obj := ⟨(.type "tuple"), none, (.seq #[(.str "self" 339), (.str "first" 340), (.str "last" 341), (.str "zero" 342)] 0), #[]⟩
noncomputable abbrev x121 (_ : Params) : Obj := ⟨(.type "tuple"), none, (.seq #[] 0), #[]⟩
noncomputable abbrev g122 : Arguments → List Stmt → Scope → Obj := fun a b sc => ⟨.none, none, (.func ⟨"__init__", "DigitRun.__init__", a, (.stmts b), sc, 0, [], .none, .none, .none, .none, none, .none, .none, 0⟩), #[]⟩
noncomputable abbrev f122 (_ : Params) : Obj := mkF (s := (sg2 16 0)) g122 rfl
noncomputable def u122 (_ : Params) : Obj := fnU (st2 16 0) g122
noncomputable abbrev x123 (_ : Params) : Obj := ⟨(.type "code"), none, (.fields #[(.str "__init__" 336), (.str "DigitRun.__init__" 337), (.str "/claim/cut.py" 338), (.int 64 0), (.int 4 0), (.int 0 0), (.int 0 0), (.int 3 0), (.ref 118), (.bool true), (.int 181 0), (.ref 119), .none, (.ref 120), (.ref 121), (.ref 122), (.int 343 0), (.int 64 0), (.str "/claim/cut.py" 344)]), #[]⟩
noncomputable abbrev g124 : Arguments → List Stmt → Scope → Obj := fun a b sc => ⟨(.type "function"), none, (.func ⟨"__init__", "DigitRun.__init__", a, (.stmts b), sc, 3, [], .none, .none, .none, (.str "unicore.digits" 254), none, (.ref 123), .none, 0⟩), #[]⟩
noncomputable abbrev f124 (_ : Params) : Obj := mkF (s := (sg2 16 0)) g124 rfl
noncomputable def u124 (_ : Params) : Obj := fnU (st2 16 0) g124
noncomputable abbrev x125 (_ : Params) : Obj := ⟨(.type "tuple"), none, (.seq #[] 0), #[]⟩
noncomputable abbrev x126 (_ : Params) : Obj := ⟨.none, none, (.fields #[]), #[]⟩
noncomputable abbrev x127 (_ : Params) : Obj := ⟨(.type "tuple"), none, (.seq #[(.str "self" 349)] 0), #[]⟩
noncomputable abbrev x128 (_ : Params) : Obj := ⟨(.type "tuple"), none, (.seq #[] 0), #[]⟩
noncomputable abbrev g129 : Arguments → List Stmt → Scope → Obj := fun a b sc => ⟨.none, none, (.func ⟨"row", "DigitRun.row", a, (.stmts b), sc, 0, [], .none, .none, .none, .none, none, .none, .none, 0⟩), #[]⟩
noncomputable abbrev f129 (_ : Params) : Obj := mkF (s := (sg2 16 1)) g129 rfl
noncomputable def u129 (_ : Params) : Obj := fnU (st2 16 1) g129
noncomputable abbrev x130 (_ : Params) : Obj := ⟨(.type "code"), none, (.fields #[(.str "row" 346), (.str "DigitRun.row" 347), (.str "/claim/cut.py" 348), (.int 69 0), (.int 1 0), (.int 0 0), (.int 0 0), (.int 3 0), (.ref 125), (.bool true), (.int 181 0), (.ref 126), .none, (.ref 127), (.ref 128), (.ref 129), (.int 350 0), (.int 69 0), (.str "/claim/cut.py" 351)]), #[]⟩
noncomputable abbrev g131 : Arguments → List Stmt → Scope → Obj := fun a b sc => ⟨(.type "function"), none, (.func ⟨"row", "DigitRun.row", a, (.stmts b), sc, 3, [], .none, .none, .none, (.str "unicore.digits" 254), none, (.ref 130), .none, 0⟩), #[]⟩
noncomputable abbrev f131 (_ : Params) : Obj := mkF (s := (sg2 16 1)) g131 rfl
noncomputable def u131 (_ : Params) : Obj := fnU (st2 16 1) g131
noncomputable abbrev x132 (_ : Params) : Obj := ⟨(.type "tuple"), none, (.seq #[(.str "first" 353), (.str "last" 354), (.str "zero" 355)] 0), #[]⟩
noncomputable abbrev x133 (P : Params) : Obj := ⟨(.type "dict"), none, (.dict #[⟨(PySem.PyData.keyHash P "__module__"), (.str "__module__" 331), (.str "unicore.digits" 254)⟩, ⟨(PySem.PyData.keyHash P "__firstlineno__"), (.str "__firstlineno__" 335), (.int 62 334)⟩, ⟨(PySem.PyData.keyHash P "__init__"), (.str "__init__" 345), (.ref 124)⟩, ⟨(PySem.PyData.keyHash P "row"), (.str "row" 352), (.ref 131)⟩, ⟨(PySem.PyData.keyHash P "__static_attributes__"), (.str "__static_attributes__" 356), (.ref 132)⟩, ⟨(PySem.PyData.keyHash P "__dict__"), (.str "__dict__" 358), (.ref 135)⟩, ⟨(PySem.PyData.keyHash P "__weakref__"), (.str "__weakref__" 360), (.ref 136)⟩, ⟨(PySem.PyData.keyHash P "__doc__"), (.str "__doc__" 361), .none⟩] 4), #[]⟩
noncomputable abbrev x134 (_ : Params) : Obj := ⟨(.type "type"), none, (.cls ⟨"DigitRun", [(.type "object")], [(.ref 134), (.type "object")], 133, "DigitRun", true, [], [], false, none, false⟩), #[none, none, (.some (.str "DigitRun" 324)), (.some (.str "DigitRun" 332)), (.some (.builtin "object.__new__")), (.some (.bool true))]⟩
noncomputable abbrev x135 (_ : Params) : Obj := ⟨(.type "getset_descriptor"), none, (.fields #[(.str "__dict__" 357), (.ref 134), (.builtin "function.__dict__"), (.builtin "function.__dict__#set")]), #[]⟩
noncomputable abbrev x136 (_ : Params) : Obj := ⟨(.type "getset_descriptor"), none, (.fields #[(.str "__weakref__" 359), (.ref 134), (.builtin "ExceptionGroup.__weakref__"), .none]), #[]⟩
noncomputable abbrev x137 (_ : Params) : Obj := ⟨(.type "super"), none, (.fields #[(.ref 134), (.ref 134), (.ref 134)]), #[]⟩
noncomputable abbrev x138 (_ : Params) : Obj := ⟨(.type "builtin_function_or_method"), none, (.fields #[(.builtin "object.__init_subclass__"), (.ref 134)]), #[]⟩
noncomputable abbrev x139 (_ : Params) : Obj := ⟨(.type "tuple"), none, (.seq #[] 0), #[]⟩
noncomputable abbrev x140 (_ : Params) : Obj := ⟨.none, none, (.fields #[]), #[]⟩
noncomputable abbrev x141 (_ : Params) : Obj := ⟨(.type "tuple"), none, (.seq #[(.str "text" 367), (.str "data" 368), (.str "found" 369), (.str "at" 370), (.str "zero" 371), (.str "end" 372)] 0), #[]⟩
noncomputable abbrev x142 (_ : Params) : Obj := ⟨(.type "tuple"), none, (.seq #[] 0), #[]⟩
noncomputable abbrev g143 : Arguments → List Stmt → Scope → Obj := fun a b sc => ⟨.none, none, (.func ⟨"digit_runs", "digit_runs", a, (.stmts b), sc, 0, [], .none, .none, .none, .none, none, .none, .none, 0⟩), #[]⟩
noncomputable abbrev f143 (_ : Params) : Obj := mkF (s := (sg 17)) g143 rfl
noncomputable def u143 (_ : Params) : Obj := fnU (st 17) g143
noncomputable abbrev x144 (_ : Params) : Obj := ⟨(.type "code"), none, (.fields #[(.str "digit_runs" 364), (.str "digit_runs" 365), (.str "/claim/cut.py" 366), (.int 71 0), (.int 2 0), (.int 0 0), (.int 0 0), (.int 3 0), (.ref 139), (.bool true), (.int 181 0), (.ref 140), .none, (.ref 141), (.ref 142), (.ref 143), (.int 373 0), (.int 71 0), (.str "/claim/cut.py" 374)]), #[]⟩
noncomputable abbrev g145 : Arguments → List Stmt → Scope → Obj := fun a b sc => ⟨(.type "function"), none, (.func ⟨"digit_runs", "digit_runs", a, (.stmts b), sc, 3, [], .none, .none, .none, (.str "unicore.digits" 254), none, (.ref 144), .none, 0⟩), #[]⟩
noncomputable abbrev f145 (_ : Params) : Obj := mkF (s := (sg 17)) g145 rfl
noncomputable def u145 (_ : Params) : Obj := fnU (st 17) g145
noncomputable abbrev x146 (_ : Params) : Obj := ⟨(.type "tuple"), none, (.seq #[] 0), #[]⟩
noncomputable abbrev x147 (_ : Params) : Obj := ⟨.none, none, (.fields #[]), #[]⟩
noncomputable abbrev x148 (_ : Params) : Obj := ⟨(.type "tuple"), none, (.seq #[(.str "text" 379), (.str "data" 380), (.str "at" 381), (.str "num" 382), (.str "den" 383), (.str "value" 384)] 0), #[]⟩
noncomputable abbrev x149 (_ : Params) : Obj := ⟨(.type "tuple"), none, (.seq #[] 0), #[]⟩
noncomputable abbrev g150 : Arguments → List Stmt → Scope → Obj := fun a b sc => ⟨.none, none, (.func ⟨"fraction_value", "fraction_value", a, (.stmts b), sc, 0, [], .none, .none, .none, .none, none, .none, .none, 0⟩), #[]⟩
noncomputable abbrev f150 (_ : Params) : Obj := mkF (s := (sg 18)) g150 rfl
noncomputable def u150 (_ : Params) : Obj := fnU (st 18) g150
noncomputable abbrev x151 (_ : Params) : Obj := ⟨(.type "code"), none, (.fields #[(.str "fraction_value" 376), (.str "fraction_value" 377), (.str "/claim/cut.py" 378), (.int 81 0), (.int 2 0), (.int 0 0), (.int 0 0), (.int 3 0), (.ref 146), (.bool true), (.int 181 0), (.ref 147), .none, (.ref 148), (.ref 149), (.ref 150), (.int 385 0), (.int 81 0), (.str "/claim/cut.py" 386)]), #[]⟩
noncomputable abbrev g152 : Arguments → List Stmt → Scope → Obj := fun a b sc => ⟨(.type "function"), none, (.func ⟨"fraction_value", "fraction_value", a, (.stmts b), sc, 3, [], .none, .none, .none, (.str "unicore.digits" 254), none, (.ref 151), .none, 0⟩), #[]⟩
noncomputable abbrev f152 (_ : Params) : Obj := mkF (s := (sg 18)) g152 rfl
noncomputable def u152 (_ : Params) : Obj := fnU (st 18) g152
noncomputable abbrev x153 (_ : Params) : Obj := ⟨(.type "tuple"), none, (.seq #[] 0), #[]⟩
noncomputable abbrev x154 (_ : Params) : Obj := ⟨.none, none, (.fields #[]), #[]⟩
noncomputable abbrev x155 (_ : Params) : Obj := ⟨(.type "tuple"), none, (.seq #[(.str "text" 391), (.str "data" 392), (.str "found" 393), (.str "at" 394), (.str "end" 395)] 0), #[]⟩
noncomputable abbrev x156 (_ : Params) : Obj := ⟨(.type "tuple"), none, (.seq #[] 0), #[]⟩
noncomputable abbrev g157 : Arguments → List Stmt → Scope → Obj := fun a b sc => ⟨.none, none, (.func ⟨"numbers_in", "numbers_in", a, (.stmts b), sc, 0, [], .none, .none, .none, .none, none, .none, .none, 0⟩), #[]⟩
noncomputable abbrev f157 (_ : Params) : Obj := mkF (s := (sg 19)) g157 rfl
noncomputable def u157 (_ : Params) : Obj := fnU (st 19) g157
noncomputable abbrev x158 (_ : Params) : Obj := ⟨(.type "code"), none, (.fields #[(.str "numbers_in" 388), (.str "numbers_in" 389), (.str "/claim/cut.py" 390), (.int 100 0), (.int 2 0), (.int 0 0), (.int 0 0), (.int 3 0), (.ref 153), (.bool true), (.int 181 0), (.ref 154), .none, (.ref 155), (.ref 156), (.ref 157), (.int 396 0), (.int 100 0), (.str "/claim/cut.py" 397)]), #[]⟩
noncomputable abbrev g159 : Arguments → List Stmt → Scope → Obj := fun a b sc => ⟨(.type "function"), none, (.func ⟨"numbers_in", "numbers_in", a, (.stmts b), sc, 3, [], .none, .none, .none, (.str "unicore.digits" 254), none, (.ref 158), .none, 0⟩), #[]⟩
noncomputable abbrev f159 (_ : Params) : Obj := mkF (s := (sg 19)) g159 rfl
noncomputable def u159 (_ : Params) : Obj := fnU (st 19) g159
noncomputable abbrev x160 (_ : Params) : Obj := ⟨(.type "tuple"), none, (.seq #[] 0), #[]⟩
noncomputable abbrev x161 (_ : Params) : Obj := ⟨.none, none, (.fields #[]), #[]⟩
noncomputable abbrev x162 (_ : Params) : Obj := ⟨(.type "tuple"), none, (.seq #[(.str "text" 402), (.str "at" 403), (.str "data" 404), (.str "zero" 405), (.str "end" 406)] 0), #[]⟩
noncomputable abbrev x163 (_ : Params) : Obj := ⟨(.type "tuple"), none, (.seq #[] 0), #[]⟩
noncomputable abbrev g164 : Arguments → List Stmt → Scope → Obj := fun a b sc => ⟨.none, none, (.func ⟨"number_run_end", "number_run_end", a, (.stmts b), sc, 0, [], .none, .none, .none, .none, none, .none, .none, 0⟩), #[]⟩
noncomputable abbrev f164 (_ : Params) : Obj := mkF (s := (sg 20)) g164 rfl
noncomputable def u164 (_ : Params) : Obj := fnU (st 20) g164
noncomputable abbrev x165 (_ : Params) : Obj := ⟨(.type "code"), none, (.fields #[(.str "number_run_end" 399), (.str "number_run_end" 400), (.str "/claim/cut.py" 401), (.int 108 0), (.int 3 0), (.int 0 0), (.int 0 0), (.int 3 0), (.ref 160), (.bool true), (.int 181 0), (.ref 161), .none, (.ref 162), (.ref 163), (.ref 164), (.int 407 0), (.int 108 0), (.str "/claim/cut.py" 408)]), #[]⟩
noncomputable abbrev g166 : Arguments → List Stmt → Scope → Obj := fun a b sc => ⟨(.type "function"), none, (.func ⟨"number_run_end", "number_run_end", a, (.stmts b), sc, 3, [], .none, .none, .none, (.str "unicore.digits" 254), none, (.ref 165), .none, 0⟩), #[]⟩
noncomputable abbrev f166 (_ : Params) : Obj := mkF (s := (sg 20)) g166 rfl
noncomputable def u166 (_ : Params) : Obj := fnU (st 20) g166
noncomputable abbrev x167 (_ : Params) : Obj := ⟨(.type "tuple"), none, (.seq #[] 0), #[]⟩
noncomputable abbrev x168 (_ : Params) : Obj := ⟨.none, none, (.fields #[]), #[]⟩
noncomputable abbrev x169 (_ : Params) : Obj := ⟨(.type "tuple"), none, (.seq #[(.str "text" 413), (.str "at" 414), (.str "data" 415), (.str "end" 416), (.str "value" 417), (.str "behind" 418), (.str "is_one" 419)] 0), #[]⟩
noncomputable abbrev x170 (_ : Params) : Obj := ⟨(.type "tuple"), none, (.seq #[] 0), #[]⟩
noncomputable abbrev g171 : Arguments → List Stmt → Scope → Obj := fun a b sc => ⟨.none, none, (.func ⟨"number_end", "number_end", a, (.stmts b), sc, 0, [], .none, .none, .none, .none, none, .none, .none, 0⟩), #[]⟩
noncomputable abbrev f171 (_ : Params) : Obj := mkF (s := (sg 21)) g171 rfl
noncomputable def u171 (_ : Params) : Obj := fnU (st 21) g171
noncomputable abbrev x172 (_ : Params) : Obj := ⟨(.type "code"), none, (.fields #[(.str "number_end" 410), (.str "number_end" 411), (.str "/claim/cut.py" 412), (.int 115 0), (.int 3 0), (.int 0 0), (.int 0 0), (.int 3 0), (.ref 167), (.bool true), (.int 181 0), (.ref 168), .none, (.ref 169), (.ref 170), (.ref 171), (.int 420 0), (.int 115 0), (.str "/claim/cut.py" 421)]), #[]⟩
noncomputable abbrev g173 : Arguments → List Stmt → Scope → Obj := fun a b sc => ⟨(.type "function"), none, (.func ⟨"number_end", "number_end", a, (.stmts b), sc, 3, [], .none, .none, .none, (.str "unicore.digits" 254), none, (.ref 172), .none, 0⟩), #[]⟩
noncomputable abbrev f173 (_ : Params) : Obj := mkF (s := (sg 21)) g173 rfl
noncomputable def u173 (_ : Params) : Obj := fnU (st 21) g173
noncomputable abbrev x174 (_ : Params) : Obj := ⟨(.type "tuple"), none, (.seq #[] 0), #[]⟩
noncomputable abbrev x175 (_ : Params) : Obj := ⟨.none, none, (.fields #[]), #[]⟩
noncomputable abbrev x176 (_ : Params) : Obj := ⟨(.type "tuple"), none, (.seq #[(.str "text" 426), (.str "at" 427), (.str "data" 428)] 0), #[]⟩
noncomputable abbrev x177 (_ : Params) : Obj := ⟨(.type "tuple"), none, (.seq #[] 0), #[]⟩
noncomputable abbrev g178 : Arguments → List Stmt → Scope → Obj := fun a b sc => ⟨.none, none, (.func ⟨"number_is_sign", "number_is_sign", a, (.stmts b), sc, 0, [], .none, .none, .none, .none, none, .none, .none, 0⟩), #[]⟩
noncomputable abbrev f178 (_ : Params) : Obj := mkF (s := (sg 22)) g178 rfl
noncomputable def u178 (_ : Params) : Obj := fnU (st 22) g178
noncomputable abbrev x179 (_ : Params) : Obj := ⟨(.type "code"), none, (.fields #[(.str "number_is_sign" 423), (.str "number_is_sign" 424), (.str "/claim/cut.py" 425), (.int 128 0), (.int 3 0), (.int 0 0), (.int 0 0), (.int 3 0), (.ref 174), (.bool true), (.int 181 0), (.ref 175), .none, (.ref 176), (.ref 177), (.ref 178), (.int 429 0), (.int 128 0), (.str "/claim/cut.py" 430)]), #[]⟩
noncomputable abbrev g180 : Arguments → List Stmt → Scope → Obj := fun a b sc => ⟨(.type "function"), none, (.func ⟨"number_is_sign", "number_is_sign", a, (.stmts b), sc, 3, [], .none, .none, .none, (.str "unicore.digits" 254), none, (.ref 179), .none, 0⟩), #[]⟩
noncomputable abbrev f180 (_ : Params) : Obj := mkF (s := (sg 22)) g180 rfl
noncomputable def u180 (_ : Params) : Obj := fnU (st 22) g180
noncomputable abbrev x181 (_ : Params) : Obj := ⟨(.type "tuple"), none, (.seq #[] 0), #[]⟩
noncomputable abbrev x182 (_ : Params) : Obj := ⟨.none, none, (.fields #[]), #[]⟩
noncomputable abbrev g183 : Arguments → List Stmt → Scope → Obj := fun a b sc => ⟨.none, none, (.func ⟨"range_are_like", "range_are_like", a, (.stmts b), sc, 0, [], .none, .none, .none, .none, none, .none, .none, 0⟩), #[]⟩
noncomputable abbrev f183 (_ : Params) : Obj := mkF (s := (sg 24)) g183 rfl
noncomputable def u183 (_ : Params) : Obj := fnU (st 24) g183
noncomputable abbrev x184 (_ : Params) : Obj := ⟨(.type "code"), none, (.fields #[(.str "range_are_like" 434), (.str "range_are_like" 435), (.str "/claim/cut.py" 436), (.int 133 0), (.int 2 0), (.int 0 0), (.int 0 0), (.int 3 0), (.ref 181), (.bool true), (.int 181 0), (.ref 182), .none, .none, .none, (.ref 183), (.int 437 0), (.int 133 0), (.str "/claim/cut.py" 438)]), #[]⟩
noncomputable abbrev g185 : Arguments → List Stmt → Scope → Obj := fun a b sc => ⟨(.type "function"), none, (.func ⟨"range_are_like", "range_are_like", a, (.stmts b), sc, 3, [], .none, .none, .none, (.str "unicore.ranges" 432), none, (.ref 184), .none, 0⟩), #[]⟩
noncomputable abbrev f185 (_ : Params) : Obj := mkF (s := (sg 24)) g185 rfl
noncomputable def u185 (_ : Params) : Obj := fnU (st 24) g185
noncomputable abbrev x186 (_ : Params) : Obj := ⟨(.type "tuple"), none, (.seq #[] 0), #[]⟩
noncomputable abbrev x187 (_ : Params) : Obj := ⟨(.type "builtin_function_or_method"), none, (.fields #[(.builtin "type.__prepare__"), (.type "type")]), #[]⟩
noncomputable abbrev x188 (P : Params) : Obj := ⟨(.type "dict"), none, (.dict #[⟨(PySem.PyData.keyHash P "__module__"), (.str "__module__" 447), (.str "unicore.ranges" 432)⟩, ⟨(PySem.PyData.keyHash P "__qualname__"), (.str "__qualname__" 449), (.str "RangeMap" 448)⟩, ⟨(PySem.PyData.keyHash P "__firstlineno__"), (.str "__firstlineno__" 451), (.int 137 450)⟩, ⟨(PySem.PyData.keyHash P "__init__"), (.str "__init__" 459), (.ref 199)⟩, ⟨(PySem.PyData.keyHash P "get"), (.str "get" 467), (.ref 206)⟩, ⟨(PySem.PyData.keyHash P "put"), (.str "put" 482), (.ref 213)⟩, ⟨(PySem.PyData.keyHash P "ranges"), (.str "ranges" 489), (.ref 220)⟩, ⟨(PySem.PyData.keyHash P "set_of"), (.str "set_of" 497), (.ref 227)⟩, ⟨(PySem.PyData.keyHash P "__static_attributes__"), (.str "__static_attributes__" 501), (.ref 228)⟩] 9), #[]⟩
noncomputable abbrev x189 (_ : Params) : Obj := ⟨(.type "tuple"), none, (.seq #[] 0), #[]⟩
noncomputable abbrev x190 (_ : Params) : Obj := ⟨.none, none, (.fields #[(.int 139 0), (.int 4 0), (.ref 198), (.int 144 0), (.int 4 0), (.ref 205), (.int 147 0), (.int 4 0), (.ref 212), (.int 163 0), (.int 4 0), (.ref 219), (.int 166 0), (.int 4 0), (.ref 226)]), #[]⟩
noncomputable abbrev x191 (_ : Params) : Obj := ⟨(.type "code"), none, (.fields #[(.str "RangeMap" 442), (.str "RangeMap" 443), (.str "/claim/cut.py" 444), (.int 137 0), (.int 0 0), (.int 0 0), (.int 0 0), (.int 0 0), (.ref 189), (.bool false), (.int 181 0), (.ref 190), .none, .none, .none, .none, (.int 445 0), (.int 137 0), (.str "/claim/cut.py" 446)]), #[]⟩
noncomputable abbrev x192 (_ : Params) : Obj := ⟨(.type "frame"), none, .plain, #[(.some (.ref 191)), (.some (.ref 3)), (.some (.ref 188)), none, (.some (.str "unicore.ranges" 432)), none, (.some (.ref 0))]⟩
noncomputable abbrev x193 (_ : Params) : Obj := ⟨(.type "tuple"), none, (.seq #[] 0), #[]⟩
noncomputable abbrev x194 (_ : Params) : Obj := ⟨.none, none, (.fields #[]), #[]⟩
noncomputable abbrev x195 (_ : Params) : Obj := ⟨(.type "tuple"), none, (.seq #[(.str "self" 455), (.str "default" 456)] 0), #[]⟩
noncomputable abbrev x196 (_ : Params) : Obj := ⟨(.type "tuple"), none, (.seq #[] 0), #[]⟩
noncomputable abbrev g197 : Arguments → List Stmt → Scope → Obj := fun a b sc => ⟨.none, none, (.func ⟨"__init__", "RangeMap.__init__", a, (.stmts b), sc, 0, [], .none, .none, .none, .none, none, .none, .none, 0⟩), #[]⟩
noncomputable abbrev f197 (_ : Params) : Obj := mkF (s := (sg2 25 0)) g197 rfl
noncomputable def u197 (_ : Params) : Obj := fnU (st2 25 0) g197
noncomputable abbrev x198 (_ : Params) : Obj := ⟨(.type "code"), none, (.fields #[(.str "__init__" 452), (.str "RangeMap.__init__" 453), (.str "/claim/cut.py" 454), (.int 139 0), (.int 2 0), (.int 0 0), (.int 0 0), (.int 3 0), (.ref 193), (.bool true), (.int 181 0), (.ref 194), .none, (.ref 195), (.ref 196), (.ref 197), (.int 457 0), (.int 139 0), (.str "/claim/cut.py" 458)]), #[]⟩
noncomputable abbrev g199 : Arguments → List Stmt → Scope → Obj := fun a b sc => ⟨(.type "function"), none, (.func ⟨"__init__", "RangeMap.__init__", a, (.stmts b), sc, 3, [], .none, .none, .none, (.str "unicore.ranges" 432), none, (.ref 198), .none, 0⟩), #[]⟩
noncomputable abbrev f199 (_ : Params) : Obj := mkF (s := (sg2 25 0)) g199 rfl
noncomputable def u199 (_ : Params) : Obj := fnU (st2 25 0) g199
noncomputable abbrev x200 (_ : Params) : Obj := ⟨(.type "tuple"), none, (.seq #[] 0), #[]⟩
noncomputable abbrev x201 (_ : Params) : Obj := ⟨.none, none, (.fields #[]), #[]⟩
noncomputable abbrev x202 (_ : Params) : Obj := ⟨(.type "tuple"), none, (.seq #[(.str "self" 463), (.str "code" 464)] 0), #[]⟩
noncomputable abbrev x203 (_ : Params) : Obj := ⟨(.type "tuple"), none, (.seq #[] 0), #[]⟩
noncomputable abbrev g204 : Arguments → List Stmt → Scope → Obj := fun a b sc => ⟨.none, none, (.func ⟨"get", "RangeMap.get", a, (.stmts b), sc, 0, [], .none, .none, .none, .none, none, .none, .none, 0⟩), #[]⟩
noncomputable abbrev f204 (_ : Params) : Obj := mkF (s := (sg2 25 1)) g204 rfl
noncomputable def u204 (_ : Params) : Obj := fnU (st2 25 1) g204
noncomputable abbrev x205 (_ : Params) : Obj := ⟨(.type "code"), none, (.fields #[(.str "get" 460), (.str "RangeMap.get" 461), (.str "/claim/cut.py" 462), (.int 144 0), (.int 2 0), (.int 0 0), (.int 0 0), (.int 3 0), (.ref 200), (.bool true), (.int 181 0), (.ref 201), .none, (.ref 202), (.ref 203), (.ref 204), (.int 465 0), (.int 144 0), (.str "/claim/cut.py" 466)]), #[]⟩
noncomputable abbrev g206 : Arguments → List Stmt → Scope → Obj := fun a b sc => ⟨(.type "function"), none, (.func ⟨"get", "RangeMap.get", a, (.stmts b), sc, 3, [], .none, .none, .none, (.str "unicore.ranges" 432), none, (.ref 205), .none, 0⟩), #[]⟩
noncomputable abbrev f206 (_ : Params) : Obj := mkF (s := (sg2 25 1)) g206 rfl
noncomputable def u206 (_ : Params) : Obj := fnU (st2 25 1) g206
noncomputable abbrev x207 (_ : Params) : Obj := ⟨(.type "tuple"), none, (.seq #[] 0), #[]⟩
noncomputable abbrev x208 (_ : Params) : Obj := ⟨.none, none, (.fields #[]), #[]⟩
noncomputable abbrev x209 (_ : Params) : Obj := ⟨(.type "tuple"), none, (.seq #[(.str "self" 471), (.str "first" 472), (.str "last" 473), (.str "value" 474), (.str "low" 475), (.str "high" 476), (.str "behind" 477), (.str "starts" 478), (.str "values" 479)] 0), #[]⟩
noncomputable abbrev x210 (_ : Params) : Obj := ⟨(.type "tuple"), none, (.seq #[] 0), #[]⟩
noncomputable abbrev g211 : Arguments → List Stmt → Scope → Obj := fun a b sc => ⟨.none, none, (.func ⟨"put", "RangeMap.put", a, (.stmts b), sc, 0, [], .none, .none, .none, .none, none, .none, .none, 0⟩), #[]⟩
noncomputable abbrev f211 (_ : Params) : Obj := mkF (s := (sg2 25 2)) g211 rfl
noncomputable def u211 (_ : Params) : Obj := fnU (st2 25 2) g211
noncomputable abbrev x212 (_ : Params) : Obj := ⟨(.type "code"), none, (.fields #[(.str "put" 468), (.str "RangeMap.put" 469), (.str "/claim/cut.py" 470), (.int 147 0), (.int 4 0), (.int 0 0), (.int 0 0), (.int 3 0), (.ref 207), (.bool true), (.int 181 0), (.ref 208), .none, (.ref 209), (.ref 210), (.ref 211), (.int 480 0), (.int 147 0), (.str "/claim/cut.py" 481)]), #[]⟩
noncomputable abbrev g213 : Arguments → List Stmt → Scope → Obj := fun a b sc => ⟨(.type "function"), none, (.func ⟨"put", "RangeMap.put", a, (.stmts b), sc, 3, [], .none, .none, .none, (.str "unicore.ranges" 432), none, (.ref 212), .none, 0⟩), #[]⟩
noncomputable abbrev f213 (_ : Params) : Obj := mkF (s := (sg2 25 2)) g213 rfl
noncomputable def u213 (_ : Params) : Obj := fnU (st2 25 2) g213
noncomputable abbrev x214 (_ : Params) : Obj := ⟨(.type "tuple"), none, (.seq #[] 0), #[]⟩
noncomputable abbrev x215 (_ : Params) : Obj := ⟨.none, none, (.fields #[]), #[]⟩
noncomputable abbrev x216 (_ : Params) : Obj := ⟨(.type "tuple"), none, (.seq #[(.str "self" 486)] 0), #[]⟩
noncomputable abbrev x217 (_ : Params) : Obj := ⟨(.type "tuple"), none, (.seq #[] 0), #[]⟩
noncomputable abbrev g218 : Arguments → List Stmt → Scope → Obj := fun a b sc => ⟨.none, none, (.func ⟨"ranges", "RangeMap.ranges", a, (.stmts b), sc, 0, [], .none, .none, .none, .none, none, .none, .none, 0⟩), #[]⟩
noncomputable abbrev f218 (_ : Params) : Obj := mkF (s := (sg2 25 3)) g218 rfl
noncomputable def u218 (_ : Params) : Obj := fnU (st2 25 3) g218
noncomputable abbrev x219 (_ : Params) : Obj := ⟨(.type "code"), none, (.fields #[(.str "ranges" 483), (.str "RangeMap.ranges" 484), (.str "/claim/cut.py" 485), (.int 163 0), (.int 1 0), (.int 0 0), (.int 0 0), (.int 3 0), (.ref 214), (.bool true), (.int 181 0), (.ref 215), .none, (.ref 216), (.ref 217), (.ref 218), (.int 487 0), (.int 163 0), (.str "/claim/cut.py" 488)]), #[]⟩
noncomputable abbrev g220 : Arguments → List Stmt → Scope → Obj := fun a b sc => ⟨(.type "function"), none, (.func ⟨"ranges", "RangeMap.ranges", a, (.stmts b), sc, 3, [], .none, .none, .none, (.str "unicore.ranges" 432), none, (.ref 219), .none, 0⟩), #[]⟩
noncomputable abbrev f220 (_ : Params) : Obj := mkF (s := (sg2 25 3)) g220 rfl
noncomputable def u220 (_ : Params) : Obj := fnU (st2 25 3) g220
noncomputable abbrev x221 (_ : Params) : Obj := ⟨(.type "tuple"), none, (.seq #[] 0), #[]⟩
noncomputable abbrev x222 (_ : Params) : Obj := ⟨.none, none, (.fields #[]), #[]⟩
noncomputable abbrev x223 (_ : Params) : Obj := ⟨(.type "tuple"), none, (.seq #[(.str "self" 493), (.str "value" 494)] 0), #[]⟩
noncomputable abbrev x224 (_ : Params) : Obj := ⟨(.type "tuple"), none, (.seq #[] 0), #[]⟩
noncomputable abbrev g225 : Arguments → List Stmt → Scope → Obj := fun a b sc => ⟨.none, none, (.func ⟨"set_of", "RangeMap.set_of", a, (.stmts b), sc, 0, [], .none, .none, .none, .none, none, .none, .none, 0⟩), #[]⟩
noncomputable abbrev f225 (_ : Params) : Obj := mkF (s := (sg2 25 4)) g225 rfl
noncomputable def u225 (_ : Params) : Obj := fnU (st2 25 4) g225
noncomputable abbrev x226 (_ : Params) : Obj := ⟨(.type "code"), none, (.fields #[(.str "set_of" 490), (.str "RangeMap.set_of" 491), (.str "/claim/cut.py" 492), (.int 166 0), (.int 2 0), (.int 0 0), (.int 0 0), (.int 3 0), (.ref 221), (.bool true), (.int 181 0), (.ref 222), .none, (.ref 223), (.ref 224), (.ref 225), (.int 495 0), (.int 166 0), (.str "/claim/cut.py" 496)]), #[]⟩
noncomputable abbrev g227 : Arguments → List Stmt → Scope → Obj := fun a b sc => ⟨(.type "function"), none, (.func ⟨"set_of", "RangeMap.set_of", a, (.stmts b), sc, 3, [], .none, .none, .none, (.str "unicore.ranges" 432), none, (.ref 226), .none, 0⟩), #[]⟩
noncomputable abbrev f227 (_ : Params) : Obj := mkF (s := (sg2 25 4)) g227 rfl
noncomputable def u227 (_ : Params) : Obj := fnU (st2 25 4) g227
noncomputable abbrev x228 (_ : Params) : Obj := ⟨(.type "tuple"), none, (.seq #[(.str "default" 498), (.str "starts" 499), (.str "values" 500)] 0), #[]⟩
noncomputable abbrev x229 (P : Params) : Obj := ⟨(.type "dict"), none, (.dict #[⟨(PySem.PyData.keyHash P "__module__"), (.str "__module__" 447), (.str "unicore.ranges" 432)⟩, ⟨(PySem.PyData.keyHash P "__firstlineno__"), (.str "__firstlineno__" 451), (.int 137 450)⟩, ⟨(PySem.PyData.keyHash P "__init__"), (.str "__init__" 459), (.ref 199)⟩, ⟨(PySem.PyData.keyHash P "get"), (.str "get" 467), (.ref 206)⟩, ⟨(PySem.PyData.keyHash P "put"), (.str "put" 482), (.ref 213)⟩, ⟨(PySem.PyData.keyHash P "ranges"), (.str "ranges" 489), (.ref 220)⟩, ⟨(PySem.PyData.keyHash P "set_of"), (.str "set_of" 497), (.ref 227)⟩, ⟨(PySem.PyData.keyHash P "__static_attributes__"), (.str "__static_attributes__" 501), (.ref 228)⟩, ⟨(PySem.PyData.keyHash P "__dict__"), (.str "__dict__" 503), (.ref 231)⟩, ⟨(PySem.PyData.keyHash P "__weakref__"), (.str "__weakref__" 505), (.ref 232)⟩, ⟨(PySem.PyData.keyHash P "__doc__"), (.str "__doc__" 506), .none⟩] 4), #[]⟩
noncomputable abbrev x230 (_ : Params) : Obj := ⟨(.type "type"), none, (.cls ⟨"RangeMap", [(.type "object")], [(.ref 230), (.type "object")], 229, "RangeMap", true, [], [], false, none, false⟩), #[none, none, (.some (.str "RangeMap" 440)), (.some (.str "RangeMap" 448)), (.some (.builtin "object.__new__")), (.some (.bool true))]⟩
noncomputable abbrev x231 (_ : Params) : Obj := ⟨(.type "getset_descriptor"), none, (.fields #[(.str "__dict__" 502), (.ref 230), (.builtin "function.__dict__"), (.builtin "function.__dict__#set")]), #[]⟩
noncomputable abbrev x232 (_ : Params) : Obj := ⟨(.type "getset_descriptor"), none, (.fields #[(.str "__weakref__" 504), (.ref 230), (.builtin "ExceptionGroup.__weakref__"), .none]), #[]⟩
noncomputable abbrev x233 (_ : Params) : Obj := ⟨(.type "super"), none, (.fields #[(.ref 230), (.ref 230), (.ref 230)]), #[]⟩
noncomputable abbrev x234 (_ : Params) : Obj := ⟨(.type "builtin_function_or_method"), none, (.fields #[(.builtin "object.__init_subclass__"), (.ref 230)]), #[]⟩
noncomputable abbrev x235 (_ : Params) : Obj := ⟨(.type "tuple"), none, (.seq #[] 0), #[]⟩
noncomputable abbrev x236 (_ : Params) : Obj := ⟨.none, none, (.fields #[]), #[]⟩
noncomputable abbrev x237 (_ : Params) : Obj := ⟨(.type "tuple"), none, (.seq #[(.str "found" 514), (.str "name" 515)] 0), #[]⟩
noncomputable abbrev x238 (_ : Params) : Obj := ⟨(.type "tuple"), none, (.seq #[] 0), #[]⟩
noncomputable abbrev g239 : Arguments → List Stmt → Scope → Obj := fun a b sc => ⟨.none, none, (.func ⟨"data_defaults", "data_defaults", a, (.stmts b), sc, 0, [], .none, .none, .none, .none, none, .none, .none, 0⟩), #[]⟩
noncomputable abbrev f239 (_ : Params) : Obj := mkF (s := (sg 27)) g239 rfl
noncomputable def u239 (_ : Params) : Obj := fnU (st 27) g239
noncomputable abbrev x240 (_ : Params) : Obj := ⟨(.type "code"), none, (.fields #[(.str "data_defaults" 511), (.str "data_defaults" 512), (.str "/claim/cut.py" 513), (.int 169 0), (.int 0 0), (.int 0 0), (.int 0 0), (.int 3 0), (.ref 235), (.bool true), (.int 181 0), (.ref 236), .none, (.ref 237), (.ref 238), (.ref 239), (.int 516 0), (.int 169 0), (.str "/claim/cut.py" 517)]), #[]⟩
noncomputable abbrev g241 : Arguments → List Stmt → Scope → Obj := fun a b sc => ⟨(.type "function"), none, (.func ⟨"data_defaults", "data_defaults", a, (.stmts b), sc, 3, [], .none, .none, .none, (.str "unicore.data" 509), none, (.ref 240), .none, 0⟩), #[]⟩
noncomputable abbrev f241 (_ : Params) : Obj := mkF (s := (sg 27)) g241 rfl
noncomputable def u241 (_ : Params) : Obj := fnU (st 27) g241
noncomputable abbrev x242 (_ : Params) : Obj := ⟨(.type "tuple"), none, (.seq #[] 0), #[]⟩
noncomputable abbrev x243 (_ : Params) : Obj := ⟨(.type "builtin_function_or_method"), none, (.fields #[(.builtin "type.__prepare__"), (.type "type")]), #[]⟩
noncomputable abbrev x244 (P : Params) : Obj := ⟨(.type "dict"), none, (.dict #[⟨(PySem.PyData.keyHash P "__module__"), (.str "__module__" 526), (.str "unicore.data" 509)⟩, ⟨(PySem.PyData.keyHash P "__qualname__"), (.str "__qualname__" 528), (.str "Data" 527)⟩, ⟨(PySem.PyData.keyHash P "__firstlineno__"), (.str "__firstlineno__" 530), (.int 181 529)⟩, ⟨(PySem.PyData.keyHash P "__init__"), (.str "__init__" 537), (.ref 255)⟩, ⟨(PySem.PyData.keyHash P "put"), (.str "put" 548), (.ref 262)⟩, ⟨(PySem.PyData.keyHash P "get"), (.str "get" 557), (.ref 269)⟩, ⟨(PySem.PyData.keyHash P "map_of"), (.str "map_of" 565), (.ref 276)⟩, ⟨(PySem.PyData.keyHash P "__static_attributes__"), (.str "__static_attributes__" 570), (.ref 277)⟩] 8), #[]⟩
noncomputable abbrev x245 (_ : Params) : Obj := ⟨(.type "tuple"), none, (.seq #[] 0), #[]⟩
noncomputable abbrev x246 (_ : Params) : Obj := ⟨.none, none, (.fields #[(.int 183 0), (.int 4 0), (.ref 254), (.int 189 0), (.int 4 0), (.ref 261), (.int 192 0), (.int 4 0), (.ref 268), (.int 197 0), (.int 4 0), (.ref 275)]), #[]⟩
noncomputable abbrev x247 (_ : Params) : Obj := ⟨(.type "code"), none, (.fields #[(.str "Data" 521), (.str "Data" 522), (.str "/claim/cut.py" 523), (.int 181 0), (.int 0 0), (.int 0 0), (.int 0 0), (.int 0 0), (.ref 245), (.bool false), (.int 181 0), (.ref 246), .none, .none, .none, .none, (.int 524 0), (.int 181 0), (.str "/claim/cut.py" 525)]), #[]⟩
noncomputable abbrev x248 (_ : Params) : Obj := ⟨(.type "frame"), none, .plain, #[(.some (.ref 247)), (.some (.ref 3)), (.some (.ref 244)), none, (.some (.str "unicore.data" 509)), none, (.some (.ref 0))]⟩
noncomputable abbrev x249 (_ : Params) : Obj := ⟨(.type "tuple"), none, (.seq #[] 0), #[]⟩
noncomputable abbrev x250 (_ : Params) : Obj := ⟨.none, none, (.fields #[]), #[]⟩
noncomputable abbrev x251 (_ : Params) : Obj := ⟨(.type "tuple"), none, (.seq #[(.str "self" 534)] 0), #[]⟩
noncomputable abbrev x252 (_ : Params) : Obj := ⟨(.type "tuple"), none, (.seq #[] 0), #[]⟩
noncomputable abbrev g253 : Arguments → List Stmt → Scope → Obj := fun a b sc => ⟨.none, none, (.func ⟨"__init__", "Data.__init__", a, (.stmts b), sc, 0, [], .none, .none, .none, .none, none, .none, .none, 0⟩), #[]⟩
noncomputable abbrev f253 (_ : Params) : Obj := mkF (s := (sg2 28 0)) g253 rfl
noncomputable def u253 (_ : Params) : Obj := fnU (st2 28 0) g253
noncomputable abbrev x254 (_ : Params) : Obj := ⟨(.type "code"), none, (.fields #[(.str "__init__" 531), (.str "Data.__init__" 532), (.str "/claim/cut.py" 533), (.int 183 0), (.int 1 0), (.int 0 0), (.int 0 0), (.int 3 0), (.ref 249), (.bool true), (.int 181 0), (.ref 250), .none, (.ref 251), (.ref 252), (.ref 253), (.int 535 0), (.int 183 0), (.str "/claim/cut.py" 536)]), #[]⟩
noncomputable abbrev g255 : Arguments → List Stmt → Scope → Obj := fun a b sc => ⟨(.type "function"), none, (.func ⟨"__init__", "Data.__init__", a, (.stmts b), sc, 3, [], .none, .none, .none, (.str "unicore.data" 509), none, (.ref 254), .none, 0⟩), #[]⟩
noncomputable abbrev f255 (_ : Params) : Obj := mkF (s := (sg2 28 0)) g255 rfl
noncomputable def u255 (_ : Params) : Obj := fnU (st2 28 0) g255
noncomputable abbrev x256 (_ : Params) : Obj := ⟨(.type "tuple"), none, (.seq #[] 0), #[]⟩
noncomputable abbrev x257 (_ : Params) : Obj := ⟨.none, none, (.fields #[]), #[]⟩
noncomputable abbrev x258 (_ : Params) : Obj := ⟨(.type "tuple"), none, (.seq #[(.str "self" 541), (.str "name" 542), (.str "first" 543), (.str "last" 544), (.str "value" 545)] 0), #[]⟩
noncomputable abbrev x259 (_ : Params) : Obj := ⟨(.type "tuple"), none, (.seq #[] 0), #[]⟩
noncomputable abbrev g260 : Arguments → List Stmt → Scope → Obj := fun a b sc => ⟨.none, none, (.func ⟨"put", "Data.put", a, (.stmts b), sc, 0, [], .none, .none, .none, .none, none, .none, .none, 0⟩), #[]⟩
noncomputable abbrev f260 (_ : Params) : Obj := mkF (s := (sg2 28 1)) g260 rfl
noncomputable def u260 (_ : Params) : Obj := fnU (st2 28 1) g260
noncomputable abbrev x261 (_ : Params) : Obj := ⟨(.type "code"), none, (.fields #[(.str "put" 538), (.str "Data.put" 539), (.str "/claim/cut.py" 540), (.int 189 0), (.int 5 0), (.int 0 0), (.int 0 0), (.int 3 0), (.ref 256), (.bool true), (.int 181 0), (.ref 257), .none, (.ref 258), (.ref 259), (.ref 260), (.int 546 0), (.int 189 0), (.str "/claim/cut.py" 547)]), #[]⟩
noncomputable abbrev g262 : Arguments → List Stmt → Scope → Obj := fun a b sc => ⟨(.type "function"), none, (.func ⟨"put", "Data.put", a, (.stmts b), sc, 3, [], .none, .none, .none, (.str "unicore.data" 509), none, (.ref 261), .none, 0⟩), #[]⟩
noncomputable abbrev f262 (_ : Params) : Obj := mkF (s := (sg2 28 1)) g262 rfl
noncomputable def u262 (_ : Params) : Obj := fnU (st2 28 1) g262
noncomputable abbrev x263 (_ : Params) : Obj := ⟨(.type "tuple"), none, (.seq #[] 0), #[]⟩
noncomputable abbrev x264 (_ : Params) : Obj := ⟨.none, none, (.fields #[]), #[]⟩
noncomputable abbrev x265 (_ : Params) : Obj := ⟨(.type "tuple"), none, (.seq #[(.str "self" 552), (.str "name" 553), (.str "code" 554)] 0), #[]⟩
noncomputable abbrev x266 (_ : Params) : Obj := ⟨(.type "tuple"), none, (.seq #[] 0), #[]⟩
noncomputable abbrev g267 : Arguments → List Stmt → Scope → Obj := fun a b sc => ⟨.none, none, (.func ⟨"get", "Data.get", a, (.stmts b), sc, 0, [], .none, .none, .none, .none, none, .none, .none, 0⟩), #[]⟩
noncomputable abbrev f267 (_ : Params) : Obj := mkF (s := (sg2 28 2)) g267 rfl
noncomputable def u267 (_ : Params) : Obj := fnU (st2 28 2) g267
noncomputable abbrev x268 (_ : Params) : Obj := ⟨(.type "code"), none, (.fields #[(.str "get" 549), (.str "Data.get" 550), (.str "/claim/cut.py" 551), (.int 192 0), (.int 3 0), (.int 0 0), (.int 0 0), (.int 3 0), (.ref 263), (.bool true), (.int 181 0), (.ref 264), .none, (.ref 265), (.ref 266), (.ref 267), (.int 555 0), (.int 192 0), (.str "/claim/cut.py" 556)]), #[]⟩
noncomputable abbrev g269 : Arguments → List Stmt → Scope → Obj := fun a b sc => ⟨(.type "function"), none, (.func ⟨"get", "Data.get", a, (.stmts b), sc, 3, [], .none, .none, .none, (.str "unicore.data" 509), none, (.ref 268), .none, 0⟩), #[]⟩
noncomputable abbrev f269 (_ : Params) : Obj := mkF (s := (sg2 28 2)) g269 rfl
noncomputable def u269 (_ : Params) : Obj := fnU (st2 28 2) g269
noncomputable abbrev x270 (_ : Params) : Obj := ⟨(.type "tuple"), none, (.seq #[] 0), #[]⟩
noncomputable abbrev x271 (_ : Params) : Obj := ⟨.none, none, (.fields #[]), #[]⟩
noncomputable abbrev x272 (_ : Params) : Obj := ⟨(.type "tuple"), none, (.seq #[(.str "self" 561), (.str "name" 562)] 0), #[]⟩
noncomputable abbrev x273 (_ : Params) : Obj := ⟨(.type "tuple"), none, (.seq #[] 0), #[]⟩
noncomputable abbrev g274 : Arguments → List Stmt → Scope → Obj := fun a b sc => ⟨.none, none, (.func ⟨"map_of", "Data.map_of", a, (.stmts b), sc, 0, [], .none, .none, .none, .none, none, .none, .none, 0⟩), #[]⟩
noncomputable abbrev f274 (_ : Params) : Obj := mkF (s := (sg2 28 3)) g274 rfl
noncomputable def u274 (_ : Params) : Obj := fnU (st2 28 3) g274
noncomputable abbrev x275 (_ : Params) : Obj := ⟨(.type "code"), none, (.fields #[(.str "map_of" 558), (.str "Data.map_of" 559), (.str "/claim/cut.py" 560), (.int 197 0), (.int 2 0), (.int 0 0), (.int 0 0), (.int 3 0), (.ref 270), (.bool true), (.int 181 0), (.ref 271), .none, (.ref 272), (.ref 273), (.ref 274), (.int 563 0), (.int 197 0), (.str "/claim/cut.py" 564)]), #[]⟩
noncomputable abbrev g276 : Arguments → List Stmt → Scope → Obj := fun a b sc => ⟨(.type "function"), none, (.func ⟨"map_of", "Data.map_of", a, (.stmts b), sc, 3, [], .none, .none, .none, (.str "unicore.data" 509), none, (.ref 275), .none, 0⟩), #[]⟩
noncomputable abbrev f276 (_ : Params) : Obj := mkF (s := (sg2 28 3)) g276 rfl
noncomputable def u276 (_ : Params) : Obj := fnU (st2 28 3) g276
noncomputable abbrev x277 (_ : Params) : Obj := ⟨(.type "tuple"), none, (.seq #[(.str "defaults" 566), (.str "maps" 567), (.str "properties" 568), (.str "words" 569)] 0), #[]⟩
noncomputable abbrev x278 (P : Params) : Obj := ⟨(.type "dict"), none, (.dict #[⟨(PySem.PyData.keyHash P "__module__"), (.str "__module__" 526), (.str "unicore.data" 509)⟩, ⟨(PySem.PyData.keyHash P "__firstlineno__"), (.str "__firstlineno__" 530), (.int 181 529)⟩, ⟨(PySem.PyData.keyHash P "__init__"), (.str "__init__" 537), (.ref 255)⟩, ⟨(PySem.PyData.keyHash P "put"), (.str "put" 548), (.ref 262)⟩, ⟨(PySem.PyData.keyHash P "get"), (.str "get" 557), (.ref 269)⟩, ⟨(PySem.PyData.keyHash P "map_of"), (.str "map_of" 565), (.ref 276)⟩, ⟨(PySem.PyData.keyHash P "__static_attributes__"), (.str "__static_attributes__" 570), (.ref 277)⟩, ⟨(PySem.PyData.keyHash P "__dict__"), (.str "__dict__" 572), (.ref 280)⟩, ⟨(PySem.PyData.keyHash P "__weakref__"), (.str "__weakref__" 574), (.ref 281)⟩, ⟨(PySem.PyData.keyHash P "__doc__"), (.str "__doc__" 575), .none⟩] 4), #[]⟩
noncomputable abbrev x279 (_ : Params) : Obj := ⟨(.type "type"), none, (.cls ⟨"Data", [(.type "object")], [(.ref 279), (.type "object")], 278, "Data", true, [], [], false, none, false⟩), #[none, none, (.some (.str "Data" 519)), (.some (.str "Data" 527)), (.some (.builtin "object.__new__")), (.some (.bool true))]⟩
noncomputable abbrev x280 (_ : Params) : Obj := ⟨(.type "getset_descriptor"), none, (.fields #[(.str "__dict__" 571), (.ref 279), (.builtin "function.__dict__"), (.builtin "function.__dict__#set")]), #[]⟩
noncomputable abbrev x281 (_ : Params) : Obj := ⟨(.type "getset_descriptor"), none, (.fields #[(.str "__weakref__" 573), (.ref 279), (.builtin "ExceptionGroup.__weakref__"), .none]), #[]⟩
noncomputable abbrev x282 (_ : Params) : Obj := ⟨(.type "super"), none, (.fields #[(.ref 279), (.ref 279), (.ref 279)]), #[]⟩
noncomputable abbrev x283 (_ : Params) : Obj := ⟨(.type "builtin_function_or_method"), none, (.fields #[(.builtin "object.__init_subclass__"), (.ref 279)]), #[]⟩
noncomputable abbrev x284 (_ : Params) : Obj := ⟨(.type "tuple"), none, (.seq #[(.int 48 580), (.int 1632 581)] 0), #[]⟩
noncomputable abbrev x285 (_ : Params) : Obj := ⟨(.type "tuple"), none, (.seq #[] 0), #[]⟩
noncomputable abbrev x286 (_ : Params) : Obj := ⟨.none, none, (.fields #[]), #[]⟩
noncomputable abbrev x287 (_ : Params) : Obj := ⟨(.type "tuple"), none, (.seq #[] 0), #[]⟩
noncomputable abbrev x288 (_ : Params) : Obj := ⟨(.type "tuple"), none, (.seq #[] 0), #[]⟩
noncomputable abbrev g289 : Arguments → List Stmt → Scope → Obj := fun a b sc => ⟨.none, none, (.func ⟨"_law_signs", "_law_signs", a, (.stmts b), sc, 0, [], .none, .none, .none, .none, none, .none, .none, 0⟩), #[]⟩
noncomputable abbrev f289 (_ : Params) : Obj := mkF (s := (sg 31)) g289 rfl
noncomputable def u289 (_ : Params) : Obj := fnU (st 31) g289
noncomputable abbrev x290 (_ : Params) : Obj := ⟨(.type "code"), none, (.fields #[(.str "_law_signs" 583), (.str "_law_signs" 584), (.str "/claim/cut.py" 585), (.int 203 0), (.int 0 0), (.int 0 0), (.int 0 0), (.int 3 0), (.ref 285), (.bool true), (.int 181 0), (.ref 286), .none, (.ref 287), (.ref 288), (.ref 289), (.int 586 0), (.int 203 0), (.str "/claim/cut.py" 587)]), #[]⟩
noncomputable abbrev g291 : Arguments → List Stmt → Scope → Obj := fun a b sc => ⟨(.type "function"), none, (.func ⟨"_law_signs", "_law_signs", a, (.stmts b), sc, 3, [], .none, .none, .none, (.str "law_pq1302_01" 578), none, (.ref 290), .none, 0⟩), #[]⟩
noncomputable abbrev f291 (_ : Params) : Obj := mkF (s := (sg 31)) g291 rfl
noncomputable def u291 (_ : Params) : Obj := fnU (st 31) g291
noncomputable abbrev x292 (_ : Params) : Obj := ⟨(.type "tuple"), none, (.seq #[(.int 189 589), (.int 8533 590), (.int 3884 591), (.int 8548 592), (.int 178 593), (.int 12295 594), (.int 3891 595), (.int 8542 596)] 0), #[]⟩
noncomputable abbrev x293 (_ : Params) : Obj := ⟨(.type "tuple"), none, (.seq #[] 0), #[]⟩
noncomputable abbrev x294 (_ : Params) : Obj := ⟨.none, none, (.fields #[]), #[]⟩
noncomputable abbrev x295 (_ : Params) : Obj := ⟨(.type "tuple"), none, (.seq #[(.str "row" 601), (.str "below" 602)] 0), #[]⟩
noncomputable abbrev x296 (_ : Params) : Obj := ⟨(.type "tuple"), none, (.seq #[] 0), #[]⟩
noncomputable abbrev g297 : Arguments → List Stmt → Scope → Obj := fun a b sc => ⟨.none, none, (.func ⟨"_law_next", "_law_next", a, (.stmts b), sc, 0, [], .none, .none, .none, .none, none, .none, .none, 0⟩), #[]⟩
noncomputable abbrev f297 (_ : Params) : Obj := mkF (s := (sg 33)) g297 rfl
noncomputable def u297 (_ : Params) : Obj := fnU (st 33) g297
noncomputable abbrev x298 (_ : Params) : Obj := ⟨(.type "code"), none, (.fields #[(.str "_law_next" 598), (.str "_law_next" 599), (.str "/claim/cut.py" 600), (.int 206 0), (.int 2 0), (.int 0 0), (.int 0 0), (.int 3 0), (.ref 293), (.bool true), (.int 181 0), (.ref 294), .none, (.ref 295), (.ref 296), (.ref 297), (.int 603 0), (.int 206 0), (.str "/claim/cut.py" 604)]), #[]⟩
noncomputable abbrev g299 : Arguments → List Stmt → Scope → Obj := fun a b sc => ⟨(.type "function"), none, (.func ⟨"_law_next", "_law_next", a, (.stmts b), sc, 3, [], .none, .none, .none, (.str "law_pq1302_01" 578), none, (.ref 298), .none, 0⟩), #[]⟩
noncomputable abbrev f299 (_ : Params) : Obj := mkF (s := (sg 33)) g299 rfl
noncomputable def u299 (_ : Params) : Obj := fnU (st 33) g299
noncomputable abbrev x300 (_ : Params) : Obj := ⟨(.type "tuple"), none, (.seq #[] 0), #[]⟩
noncomputable abbrev x301 (_ : Params) : Obj := ⟨.none, none, (.fields #[]), #[]⟩
noncomputable abbrev x302 (_ : Params) : Obj := ⟨(.type "tuple"), none, (.seq #[(.str "made" 609), (.str "zero" 610), (.str "number" 611), (.str "code" 612)] 0), #[]⟩
noncomputable abbrev x303 (_ : Params) : Obj := ⟨(.type "tuple"), none, (.seq #[] 0), #[]⟩
noncomputable abbrev g304 : Arguments → List Stmt → Scope → Obj := fun a b sc => ⟨.none, none, (.func ⟨"_law_data", "_law_data", a, (.stmts b), sc, 0, [], .none, .none, .none, .none, none, .none, .none, 0⟩), #[]⟩
noncomputable abbrev f304 (_ : Params) : Obj := mkF (s := (sg 34)) g304 rfl
noncomputable def u304 (_ : Params) : Obj := fnU (st 34) g304
noncomputable abbrev x305 (_ : Params) : Obj := ⟨(.type "code"), none, (.fields #[(.str "_law_data" 606), (.str "_law_data" 607), (.str "/claim/cut.py" 608), (.int 211 0), (.int 0 0), (.int 0 0), (.int 0 0), (.int 3 0), (.ref 300), (.bool true), (.int 181 0), (.ref 301), .none, (.ref 302), (.ref 303), (.ref 304), (.int 613 0), (.int 211 0), (.str "/claim/cut.py" 614)]), #[]⟩
noncomputable abbrev g306 : Arguments → List Stmt → Scope → Obj := fun a b sc => ⟨(.type "function"), none, (.func ⟨"_law_data", "_law_data", a, (.stmts b), sc, 3, [], .none, .none, .none, (.str "law_pq1302_01" 578), none, (.ref 305), .none, 0⟩), #[]⟩
noncomputable abbrev f306 (_ : Params) : Obj := mkF (s := (sg 34)) g306 rfl
noncomputable def u306 (_ : Params) : Obj := fnU (st 34) g306
noncomputable abbrev x307 (_ : Params) : Obj := ⟨(.type "tuple"), none, (.seq #[] 0), #[]⟩
noncomputable abbrev x308 (_ : Params) : Obj := ⟨.none, none, (.fields #[]), #[]⟩
noncomputable abbrev x309 (_ : Params) : Obj := ⟨(.type "tuple"), none, (.seq #[(.str "row" 619), (.str "kind" 620)] 0), #[]⟩
noncomputable abbrev x310 (_ : Params) : Obj := ⟨(.type "tuple"), none, (.seq #[] 0), #[]⟩
noncomputable abbrev g311 : Arguments → List Stmt → Scope → Obj := fun a b sc => ⟨.none, none, (.func ⟨"_law_code", "_law_code", a, (.stmts b), sc, 0, [], .none, .none, .none, .none, none, .none, .none, 0⟩), #[]⟩
noncomputable abbrev f311 (_ : Params) : Obj := mkF (s := (sg 35)) g311 rfl
noncomputable def u311 (_ : Params) : Obj := fnU (st 35) g311
noncomputable abbrev x312 (_ : Params) : Obj := ⟨(.type "code"), none, (.fields #[(.str "_law_code" 616), (.str "_law_code" 617), (.str "/claim/cut.py" 618), (.int 221 0), (.int 1 0), (.int 0 0), (.int 0 0), (.int 3 0), (.ref 307), (.bool true), (.int 181 0), (.ref 308), .none, (.ref 309), (.ref 310), (.ref 311), (.int 621 0), (.int 221 0), (.str "/claim/cut.py" 622)]), #[]⟩
noncomputable abbrev g313 : Arguments → List Stmt → Scope → Obj := fun a b sc => ⟨(.type "function"), none, (.func ⟨"_law_code", "_law_code", a, (.stmts b), sc, 3, [], .none, .none, .none, (.str "law_pq1302_01" 578), none, (.ref 312), .none, 0⟩), #[]⟩
noncomputable abbrev f313 (_ : Params) : Obj := mkF (s := (sg 35)) g313 rfl
noncomputable def u313 (_ : Params) : Obj := fnU (st 35) g313
noncomputable abbrev x314 (_ : Params) : Obj := ⟨(.type "tuple"), none, (.seq #[] 0), #[]⟩
noncomputable abbrev x315 (_ : Params) : Obj := ⟨.none, none, (.fields #[]), #[]⟩
noncomputable abbrev x316 (_ : Params) : Obj := ⟨(.type "tuple"), none, (.seq #[(.str "text" 627), (.str "at" 628), (.str "zero" 629)] 0), #[]⟩
noncomputable abbrev x317 (_ : Params) : Obj := ⟨(.type "tuple"), none, (.seq #[] 0), #[]⟩
noncomputable abbrev g318 : Arguments → List Stmt → Scope → Obj := fun a b sc => ⟨.none, none, (.func ⟨"_law_zero", "_law_zero", a, (.stmts b), sc, 0, [], .none, .none, .none, .none, none, .none, .none, 0⟩), #[]⟩
noncomputable abbrev f318 (_ : Params) : Obj := mkF (s := (sg 36)) g318 rfl
noncomputable def u318 (_ : Params) : Obj := fnU (st 36) g318
noncomputable abbrev x319 (_ : Params) : Obj := ⟨(.type "code"), none, (.fields #[(.str "_law_zero" 624), (.str "_law_zero" 625), (.str "/claim/cut.py" 626), (.int 230 0), (.int 2 0), (.int 0 0), (.int 0 0), (.int 3 0), (.ref 314), (.bool true), (.int 181 0), (.ref 315), .none, (.ref 316), (.ref 317), (.ref 318), (.int 630 0), (.int 230 0), (.str "/claim/cut.py" 631)]), #[]⟩
noncomputable abbrev g320 : Arguments → List Stmt → Scope → Obj := fun a b sc => ⟨(.type "function"), none, (.func ⟨"_law_zero", "_law_zero", a, (.stmts b), sc, 3, [], .none, .none, .none, (.str "law_pq1302_01" 578), none, (.ref 319), .none, 0⟩), #[]⟩
noncomputable abbrev f320 (_ : Params) : Obj := mkF (s := (sg 36)) g320 rfl
noncomputable def u320 (_ : Params) : Obj := fnU (st 36) g320
noncomputable abbrev x321 (_ : Params) : Obj := ⟨(.type "tuple"), none, (.seq #[] 0), #[]⟩
noncomputable abbrev x322 (_ : Params) : Obj := ⟨.none, none, (.fields #[]), #[]⟩
noncomputable abbrev x323 (_ : Params) : Obj := ⟨(.type "tuple"), none, (.seq #[(.str "text" 636), (.str "at" 637), (.str "zero" 638), (.str "number" 639)] 0), #[]⟩
noncomputable abbrev x324 (_ : Params) : Obj := ⟨(.type "tuple"), none, (.seq #[] 0), #[]⟩
noncomputable abbrev g325 : Arguments → List Stmt → Scope → Obj := fun a b sc => ⟨.none, none, (.func ⟨"_law_run", "_law_run", a, (.stmts b), sc, 0, [], .none, .none, .none, .none, none, .none, .none, 0⟩), #[]⟩
noncomputable abbrev f325 (_ : Params) : Obj := mkF (s := (sg 37)) g325 rfl
noncomputable def u325 (_ : Params) : Obj := fnU (st 37) g325
noncomputable abbrev x326 (_ : Params) : Obj := ⟨(.type "code"), none, (.fields #[(.str "_law_run" 633), (.str "_law_run" 634), (.str "/claim/cut.py" 635), (.int 235 0), (.int 2 0), (.int 0 0), (.int 0 0), (.int 3 0), (.ref 321), (.bool true), (.int 181 0), (.ref 322), .none, (.ref 323), (.ref 324), (.ref 325), (.int 640 0), (.int 235 0), (.str "/claim/cut.py" 641)]), #[]⟩
noncomputable abbrev g327 : Arguments → List Stmt → Scope → Obj := fun a b sc => ⟨(.type "function"), none, (.func ⟨"_law_run", "_law_run", a, (.stmts b), sc, 3, [], .none, .none, .none, (.str "law_pq1302_01" 578), none, (.ref 326), .none, 0⟩), #[]⟩
noncomputable abbrev f327 (_ : Params) : Obj := mkF (s := (sg 37)) g327 rfl
noncomputable def u327 (_ : Params) : Obj := fnU (st 37) g327
noncomputable abbrev x328 (_ : Params) : Obj := ⟨(.type "tuple"), none, (.seq #[] 0), #[]⟩
noncomputable abbrev x329 (_ : Params) : Obj := ⟨.none, none, (.fields #[]), #[]⟩
noncomputable abbrev g330 : Arguments → List Stmt → Scope → Obj := fun a b sc => ⟨.none, none, (.func ⟨"_law_lowest", "_law_lowest", a, (.stmts b), sc, 0, [], .none, .none, .none, .none, none, .none, .none, 0⟩), #[]⟩
noncomputable abbrev f330 (_ : Params) : Obj := mkF (s := (sg 38)) g330 rfl
noncomputable def u330 (_ : Params) : Obj := fnU (st 38) g330
noncomputable abbrev x331 (_ : Params) : Obj := ⟨(.type "code"), none, (.fields #[(.str "_law_lowest" 643), (.str "_law_lowest" 644), (.str "/claim/cut.py" 645), (.int 241 0), (.int 2 0), (.int 0 0), (.int 0 0), (.int 3 0), (.ref 328), (.bool true), (.int 181 0), (.ref 329), .none, .none, .none, (.ref 330), (.int 646 0), (.int 241 0), (.str "/claim/cut.py" 647)]), #[]⟩
noncomputable abbrev g332 : Arguments → List Stmt → Scope → Obj := fun a b sc => ⟨(.type "function"), none, (.func ⟨"_law_lowest", "_law_lowest", a, (.stmts b), sc, 3, [], .none, .none, .none, (.str "law_pq1302_01" 578), none, (.ref 331), .none, 0⟩), #[]⟩
noncomputable abbrev f332 (_ : Params) : Obj := mkF (s := (sg 38)) g332 rfl
noncomputable def u332 (_ : Params) : Obj := fnU (st 38) g332
noncomputable abbrev x333 (_ : Params) : Obj := ⟨(.type "tuple"), none, (.seq #[] 0), #[]⟩
noncomputable abbrev x334 (_ : Params) : Obj := ⟨.none, none, (.fields #[]), #[]⟩
noncomputable abbrev x335 (_ : Params) : Obj := ⟨(.type "tuple"), none, (.seq #[(.str "text" 652), (.str "at" 653), (.str "end" 654), (.str "number" 655), (.str "behind" 656), (.str "last" 657), (.str "other" 658), (.str "num" 659), (.str "den" 660)] 0), #[]⟩
noncomputable abbrev x336 (_ : Params) : Obj := ⟨(.type "tuple"), none, (.seq #[] 0), #[]⟩
noncomputable abbrev g337 : Arguments → List Stmt → Scope → Obj := fun a b sc => ⟨.none, none, (.func ⟨"_law_met", "_law_met", a, (.stmts b), sc, 0, [], .none, .none, .none, .none, none, .none, .none, 0⟩), #[]⟩
noncomputable abbrev f337 (_ : Params) : Obj := mkF (s := (sg 39)) g337 rfl
noncomputable def u337 (_ : Params) : Obj := fnU (st 39) g337
noncomputable abbrev x338 (_ : Params) : Obj := ⟨(.type "code"), none, (.fields #[(.str "_law_met" 649), (.str "_law_met" 650), (.str "/claim/cut.py" 651), (.int 244 0), (.int 2 0), (.int 0 0), (.int 0 0), (.int 3 0), (.ref 333), (.bool true), (.int 181 0), (.ref 334), .none, (.ref 335), (.ref 336), (.ref 337), (.int 661 0), (.int 244 0), (.str "/claim/cut.py" 662)]), #[]⟩
noncomputable abbrev g339 : Arguments → List Stmt → Scope → Obj := fun a b sc => ⟨(.type "function"), none, (.func ⟨"_law_met", "_law_met", a, (.stmts b), sc, 3, [], .none, .none, .none, (.str "law_pq1302_01" 578), none, (.ref 338), .none, 0⟩), #[]⟩
noncomputable abbrev f339 (_ : Params) : Obj := mkF (s := (sg 39)) g339 rfl
noncomputable def u339 (_ : Params) : Obj := fnU (st 39) g339
noncomputable abbrev x340 (_ : Params) : Obj := ⟨(.type "tuple"), none, (.seq #[] 0), #[]⟩
noncomputable abbrev x341 (_ : Params) : Obj := ⟨.none, none, (.fields #[]), #[]⟩
noncomputable abbrev x342 (_ : Params) : Obj := ⟨(.type "tuple"), none, (.seq #[(.str "text" 667), (.str "found" 668), (.str "at" 669), (.str "end" 670), (.str "value" 671)] 0), #[]⟩
noncomputable abbrev x343 (_ : Params) : Obj := ⟨(.type "tuple"), none, (.seq #[] 0), #[]⟩
noncomputable abbrev g344 : Arguments → List Stmt → Scope → Obj := fun a b sc => ⟨.none, none, (.func ⟨"_law_numbers", "_law_numbers", a, (.stmts b), sc, 0, [], .none, .none, .none, .none, none, .none, .none, 0⟩), #[]⟩
noncomputable abbrev f344 (_ : Params) : Obj := mkF (s := (sg 40)) g344 rfl
noncomputable def u344 (_ : Params) : Obj := fnU (st 40) g344
noncomputable abbrev x345 (_ : Params) : Obj := ⟨(.type "code"), none, (.fields #[(.str "_law_numbers" 664), (.str "_law_numbers" 665), (.str "/claim/cut.py" 666), (.int 257 0), (.int 1 0), (.int 0 0), (.int 0 0), (.int 3 0), (.ref 340), (.bool true), (.int 181 0), (.ref 341), .none, (.ref 342), (.ref 343), (.ref 344), (.int 672 0), (.int 257 0), (.str "/claim/cut.py" 673)]), #[]⟩
noncomputable abbrev g346 : Arguments → List Stmt → Scope → Obj := fun a b sc => ⟨(.type "function"), none, (.func ⟨"_law_numbers", "_law_numbers", a, (.stmts b), sc, 3, [], .none, .none, .none, (.str "law_pq1302_01" 578), none, (.ref 345), .none, 0⟩), #[]⟩
noncomputable abbrev f346 (_ : Params) : Obj := mkF (s := (sg 40)) g346 rfl
noncomputable def u346 (_ : Params) : Obj := fnU (st 40) g346
noncomputable abbrev x347 (_ : Params) : Obj := ⟨(.type "tuple"), none, (.seq #[] 0), #[]⟩
noncomputable abbrev x348 (_ : Params) : Obj := ⟨.none, none, (.fields #[]), #[]⟩
noncomputable abbrev g349 : Arguments → List Stmt → Scope → Obj := fun a b sc => ⟨.none, none, (.func ⟨"_law_is_told", "_law_is_told", a, (.stmts b), sc, 0, [], .none, .none, .none, .none, none, .none, .none, 0⟩), #[]⟩
noncomputable abbrev f349 (_ : Params) : Obj := mkF (s := (sg 41)) g349 rfl
noncomputable def u349 (_ : Params) : Obj := fnU (st 41) g349
noncomputable abbrev x350 (_ : Params) : Obj := ⟨(.type "code"), none, (.fields #[(.str "_law_is_told" 675), (.str "_law_is_told" 676), (.str "/claim/cut.py" 677), (.int 265 0), (.int 2 0), (.int 0 0), (.int 0 0), (.int 3 0), (.ref 347), (.bool true), (.int 181 0), (.ref 348), .none, .none, .none, (.ref 349), (.int 678 0), (.int 265 0), (.str "/claim/cut.py" 679)]), #[]⟩
noncomputable abbrev g351 : Arguments → List Stmt → Scope → Obj := fun a b sc => ⟨(.type "function"), none, (.func ⟨"_law_is_told", "_law_is_told", a, (.stmts b), sc, 3, [], .none, .none, .none, (.str "law_pq1302_01" 578), none, (.ref 350), .none, 0⟩), #[]⟩
noncomputable abbrev f351 (_ : Params) : Obj := mkF (s := (sg 41)) g351 rfl
noncomputable def u351 (_ : Params) : Obj := fnU (st 41) g351
noncomputable abbrev x352 (_ : Params) : Obj := ⟨(.type "tuple"), none, (.seq #[] 0), #[]⟩
noncomputable abbrev x353 (_ : Params) : Obj := ⟨.none, none, (.fields #[]), #[]⟩
noncomputable abbrev g354 : Arguments → List Stmt → Scope → Obj := fun a b sc => ⟨.none, none, (.func ⟨"law", "law", a, (.stmts b), sc, 0, [], .none, .none, .none, .none, none, .none, .none, 0⟩), #[]⟩
noncomputable abbrev f354 (_ : Params) : Obj := mkF (s := (sg 42)) g354 rfl
noncomputable def u354 (_ : Params) : Obj := fnU (st 42) g354
noncomputable abbrev x355 (_ : Params) : Obj := ⟨(.type "code"), none, (.fields #[(.str "law" 681), (.str "law" 682), (.str "/claim/cut.py" 683), (.int 269 0), (.int 1 0), (.int 0 0), (.int 0 0), (.int 3 0), (.ref 352), (.bool true), (.int 181 0), (.ref 353), .none, .none, .none, (.ref 354), (.int 684 0), (.int 269 0), (.str "/claim/cut.py" 685)]), #[]⟩
noncomputable abbrev g356 : Arguments → List Stmt → Scope → Obj := fun a b sc => ⟨(.type "function"), none, (.func ⟨"law", "law", a, (.stmts b), sc, 3, [], .none, .none, .none, (.str "law_pq1302_01" 578), none, (.ref 355), .none, 0⟩), #[]⟩
noncomputable abbrev f356 (_ : Params) : Obj := mkF (s := (sg 42)) g356 rfl
noncomputable def u356 (_ : Params) : Obj := fnU (st 42) g356
noncomputable abbrev x12_47 (_ : Params) : Obj := ⟨.none, none, (.fields #[]), #[]⟩
noncomputable def d3_79 (P : Params) : List DictEntry := [⟨(PySem.PyData.keyHash P "__doc__"), (.str "__doc__" 166), .none⟩, ⟨(PySem.PyData.keyHash P "__package__"), (.str "__package__" 167), .none⟩, ⟨(PySem.PyData.keyHash P "__loader__"), (.str "__loader__" 168), (.builtin "__main__.__loader__#opaque")⟩, ⟨(PySem.PyData.keyHash P "__spec__"), (.str "__spec__" 169), .none⟩, ⟨(PySem.PyData.keyHash P "__annotations__"), (.str "__annotations__" 170), (.ref 6)⟩, ⟨(PySem.PyData.keyHash P "__builtins__"), (.str "__builtins__" 171), (.ref 4)⟩, ⟨(PySem.PyData.keyHash P "__file__"), (.str "__file__" 173), (.str "/claim/cut.py" 172)⟩, ⟨(PySem.PyData.keyHash P "__cached__"), (.str "__cached__" 174), .none⟩, ⟨(PySem.PyData.keyHash P "_wall"), (.str "_wall" 193), (.ref 21)⟩, ⟨(PySem.PyData.keyHash P "MAX_CODE"), (.str "MAX_CODE" 197), (.int 1114111 196)⟩, ⟨(PySem.PyData.keyHash P "UniError"), (.str "UniError" 226), (.ref 39)⟩]
noncomputable def x3_79 (P : Params) : Obj := ⟨(.type "dict"), none, (.dict ⟨⟨(PySem.PyData.keyHash P "__name__"), (.str "__name__" 165), (.str "unicore.base" 194)⟩ :: (d3_79 P)⟩ 12), #[]⟩
noncomputable abbrev x12_79 (_ : Params) : Obj := ⟨.none, none, (.fields #[(.int 1 0), (.int 0 0), (.ref 20), (.int 6 0), (.int 0 0), (.ref 27)]), #[]⟩
noncomputable abbrev x39_79 (_ : Params) : Obj := ⟨(.type "type"), none, (.cls ⟨"UniError", [(.type "Exception")], [(.ref 39), (.type "Exception"), (.type "BaseException"), (.type "object")], 38, "UniError", true, [], [], false, none, false⟩), #[(.some (.ref 22)), none, (.some (.str "UniError" 198)), (.some (.str "UniError" 206)), (.some (.builtin "Exception.__new__")), (.some (.bool true))]⟩
noncomputable def d3_129 (P : Params) : List DictEntry := [⟨(PySem.PyData.keyHash P "BadNumber"), (.str "BadNumber" 242), (.ref 52)⟩, ⟨(PySem.PyData.keyHash P "place_by_half"), (.str "place_by_half" 253), (.ref 61)⟩, ⟨(PySem.PyData.keyHash P "FRACTION_SLASH"), (.str "FRACTION_SLASH" 257), (.int 8260 256)⟩, ⟨(PySem.PyData.keyHash P "DECIMAL"), (.str "DECIMAL" 259), (.str "de" 258)⟩, ⟨(PySem.PyData.keyHash P "decimal_digit"), (.str "decimal_digit" 268), (.ref 68)⟩, ⟨(PySem.PyData.keyHash P "zero_of"), (.str "zero_of" 277), (.ref 75)⟩, ⟨(PySem.PyData.keyHash P "numeric_value"), (.str "numeric_value" 286), (.ref 82)⟩, ⟨(PySem.PyData.keyHash P "number_common"), (.str "number_common" 294), (.ref 89)⟩]
noncomputable def x3_129 (P : Params) : Obj := ⟨(.type "dict"), none, (.dict ⟨⟨(PySem.PyData.keyHash P "__name__"), (.str "__name__" 165), (.str "unicore.digits" 254)⟩ :: (d3_79 P ++ (d3_129 P))⟩ 20), #[]⟩
noncomputable abbrev x12_129 (_ : Params) : Obj := ⟨.none, none, (.fields #[(.int 1 0), (.int 0 0), (.ref 20), (.int 6 0), (.int 0 0), (.ref 27), (.int 10 0), (.int 0 0), (.ref 48), (.int 12 0), (.int 0 0), (.ref 60), (.int 25 0), (.int 0 0), (.ref 67), (.int 30 0), (.int 0 0), (.ref 74), (.int 33 0), (.int 0 0), (.ref 81), (.int 36 0), (.int 0 0), (.ref 88)]), #[]⟩
noncomputable def d3_187 (P : Params) : List DictEntry := [⟨(PySem.PyData.keyHash P "number_lowest"), (.str "number_lowest" 303), (.ref 96)⟩, ⟨(PySem.PyData.keyHash P "number_plus"), (.str "number_plus" 311), (.ref 103)⟩, ⟨(PySem.PyData.keyHash P "decimal_value"), (.str "decimal_value" 323), (.ref 110)⟩, ⟨(PySem.PyData.keyHash P "DigitRun"), (.str "DigitRun" 363), (.ref 134)⟩, ⟨(PySem.PyData.keyHash P "digit_runs"), (.str "digit_runs" 375), (.ref 145)⟩]
noncomputable def x3_187 (P : Params) : Obj := ⟨(.type "dict"), none, (.dict ⟨⟨(PySem.PyData.keyHash P "__name__"), (.str "__name__" 165), (.str "unicore.digits" 254)⟩ :: (d3_79 P ++ (d3_129 P ++ (d3_187 P)))⟩ 25), #[]⟩
noncomputable abbrev x12_187 (_ : Params) : Obj := ⟨.none, none, (.fields #[(.int 1 0), (.int 0 0), (.ref 20), (.int 6 0), (.int 0 0), (.ref 27), (.int 10 0), (.int 0 0), (.ref 48), (.int 12 0), (.int 0 0), (.ref 60), (.int 25 0), (.int 0 0), (.ref 67), (.int 30 0), (.int 0 0), (.ref 74), (.int 33 0), (.int 0 0), (.ref 81), (.int 36 0), (.int 0 0), (.ref 88), (.int 41 0), (.int 0 0), (.ref 95), (.int 48 0), (.int 0 0), (.ref 102), (.int 50 0), (.int 0 0), (.ref 109), (.int 62 0), (.int 0 0), (.ref 116), (.int 71 0), (.int 0 0), (.ref 144)]), #[]⟩
noncomputable def d3_229 (P : Params) : List DictEntry := [⟨(PySem.PyData.keyHash P "fraction_value"), (.str "fraction_value" 387), (.ref 152)⟩, ⟨(PySem.PyData.keyHash P "numbers_in"), (.str "numbers_in" 398), (.ref 159)⟩, ⟨(PySem.PyData.keyHash P "number_run_end"), (.str "number_run_end" 409), (.ref 166)⟩, ⟨(PySem.PyData.keyHash P "number_end"), (.str "number_end" 422), (.ref 173)⟩, ⟨(PySem.PyData.keyHash P "number_is_sign"), (.str "number_is_sign" 431), (.ref 180)⟩, ⟨(PySem.PyData.keyHash P "range_are_like"), (.str "range_are_like" 439), (.ref 185)⟩]
noncomputable def x3_229 (P : Params) : Obj := ⟨(.type "dict"), none, (.dict ⟨⟨(PySem.PyData.keyHash P "__name__"), (.str "__name__" 165), (.str "unicore.ranges" 432)⟩ :: (d3_79 P ++ (d3_129 P ++ (d3_187 P ++ (d3_229 P))))⟩ 31), #[]⟩
noncomputable abbrev x12_229 (_ : Params) : Obj := ⟨.none, none, (.fields #[(.int 1 0), (.int 0 0), (.ref 20), (.int 6 0), (.int 0 0), (.ref 27), (.int 10 0), (.int 0 0), (.ref 48), (.int 12 0), (.int 0 0), (.ref 60), (.int 25 0), (.int 0 0), (.ref 67), (.int 30 0), (.int 0 0), (.ref 74), (.int 33 0), (.int 0 0), (.ref 81), (.int 36 0), (.int 0 0), (.ref 88), (.int 41 0), (.int 0 0), (.ref 95), (.int 48 0), (.int 0 0), (.ref 102), (.int 50 0), (.int 0 0), (.ref 109), (.int 62 0), (.int 0 0), (.ref 116), (.int 71 0), (.int 0 0), (.ref 144), (.int 81 0), (.int 0 0), (.ref 151), (.int 100 0), (.int 0 0), (.ref 158), (.int 108 0), (.int 0 0), (.ref 165), (.int 115 0), (.int 0 0), (.ref 172), (.int 128 0), (.int 0 0), (.ref 179), (.int 133 0), (.int 0 0), (.ref 184)]), #[]⟩
noncomputable def d3_287 (P : Params) : List DictEntry := [⟨(PySem.PyData.keyHash P "RangeMap"), (.str "RangeMap" 508), (.ref 230)⟩, ⟨(PySem.PyData.keyHash P "data_defaults"), (.str "data_defaults" 518), (.ref 241)⟩]
noncomputable def x3_287 (P : Params) : Obj := ⟨(.type "dict"), none, (.dict ⟨⟨(PySem.PyData.keyHash P "__name__"), (.str "__name__" 165), (.str "unicore.data" 509)⟩ :: (d3_79 P ++ (d3_129 P ++ (d3_187 P ++ (d3_229 P ++ (d3_287 P)))))⟩ 33), #[]⟩
noncomputable abbrev x12_287 (_ : Params) : Obj := ⟨.none, none, (.fields #[(.int 1 0), (.int 0 0), (.ref 20), (.int 6 0), (.int 0 0), (.ref 27), (.int 10 0), (.int 0 0), (.ref 48), (.int 12 0), (.int 0 0), (.ref 60), (.int 25 0), (.int 0 0), (.ref 67), (.int 30 0), (.int 0 0), (.ref 74), (.int 33 0), (.int 0 0), (.ref 81), (.int 36 0), (.int 0 0), (.ref 88), (.int 41 0), (.int 0 0), (.ref 95), (.int 48 0), (.int 0 0), (.ref 102), (.int 50 0), (.int 0 0), (.ref 109), (.int 62 0), (.int 0 0), (.ref 116), (.int 71 0), (.int 0 0), (.ref 144), (.int 81 0), (.int 0 0), (.ref 151), (.int 100 0), (.int 0 0), (.ref 158), (.int 108 0), (.int 0 0), (.ref 165), (.int 115 0), (.int 0 0), (.ref 172), (.int 128 0), (.int 0 0), (.ref 179), (.int 133 0), (.int 0 0), (.ref 184), (.int 137 0), (.int 0 0), (.ref 191), (.int 169 0), (.int 0 0), (.ref 240)]), #[]⟩
noncomputable def d3_340 (P : Params) : List DictEntry := [⟨(PySem.PyData.keyHash P "Data"), (.str "Data" 577), (.ref 279)⟩, ⟨(PySem.PyData.keyHash P "_law_zeros"), (.str "_law_zeros" 582), (.ref 284)⟩, ⟨(PySem.PyData.keyHash P "_law_signs"), (.str "_law_signs" 588), (.ref 291)⟩, ⟨(PySem.PyData.keyHash P "_law_order"), (.str "_law_order" 597), (.ref 292)⟩]
noncomputable def x3_340 (P : Params) : Obj := ⟨(.type "dict"), none, (.dict ⟨⟨(PySem.PyData.keyHash P "__name__"), (.str "__name__" 165), (.str "law_pq1302_01" 578)⟩ :: (d3_79 P ++ (d3_129 P ++ (d3_187 P ++ (d3_229 P ++ (d3_287 P ++ (d3_340 P))))))⟩ 37), #[]⟩
noncomputable def d3_357 (P : Params) : List DictEntry := [⟨(PySem.PyData.keyHash P "_law_next"), (.str "_law_next" 605), (.ref 299)⟩, ⟨(PySem.PyData.keyHash P "_law_data"), (.str "_law_data" 615), (.ref 306)⟩, ⟨(PySem.PyData.keyHash P "_law_code"), (.str "_law_code" 623), (.ref 313)⟩, ⟨(PySem.PyData.keyHash P "_law_zero"), (.str "_law_zero" 632), (.ref 320)⟩, ⟨(PySem.PyData.keyHash P "_law_run"), (.str "_law_run" 642), (.ref 327)⟩, ⟨(PySem.PyData.keyHash P "_law_lowest"), (.str "_law_lowest" 648), (.ref 332)⟩, ⟨(PySem.PyData.keyHash P "_law_met"), (.str "_law_met" 663), (.ref 339)⟩, ⟨(PySem.PyData.keyHash P "_law_numbers"), (.str "_law_numbers" 674), (.ref 346)⟩, ⟨(PySem.PyData.keyHash P "_law_is_told"), (.str "_law_is_told" 680), (.ref 351)⟩, ⟨(PySem.PyData.keyHash P "law"), (.str "law" 686), (.ref 356)⟩]
noncomputable def u3 (P : Params) : Obj := ⟨(.type "dict"), none, (.dict ⟨⟨(PySem.PyData.keyHash P "__name__"), (.str "__name__" 165), (.str "law_pq1302_01" 578)⟩ :: (d3_79 P ++ (d3_129 P ++ (d3_187 P ++ (d3_229 P ++ (d3_287 P ++ (d3_340 P ++ (d3_357 P)))))))⟩ 47), #[]⟩
noncomputable abbrev x12_340 (_ : Params) : Obj := ⟨.none, none, (.fields #[(.int 1 0), (.int 0 0), (.ref 20), (.int 6 0), (.int 0 0), (.ref 27), (.int 10 0), (.int 0 0), (.ref 48), (.int 12 0), (.int 0 0), (.ref 60), (.int 25 0), (.int 0 0), (.ref 67), (.int 30 0), (.int 0 0), (.ref 74), (.int 33 0), (.int 0 0), (.ref 81), (.int 36 0), (.int 0 0), (.ref 88), (.int 41 0), (.int 0 0), (.ref 95), (.int 48 0), (.int 0 0), (.ref 102), (.int 50 0), (.int 0 0), (.ref 109), (.int 62 0), (.int 0 0), (.ref 116), (.int 71 0), (.int 0 0), (.ref 144), (.int 81 0), (.int 0 0), (.ref 151), (.int 100 0), (.int 0 0), (.ref 158), (.int 108 0), (.int 0 0), (.ref 165), (.int 115 0), (.int 0 0), (.ref 172), (.int 128 0), (.int 0 0), (.ref 179), (.int 133 0), (.int 0 0), (.ref 184), (.int 137 0), (.int 0 0), (.ref 191), (.int 169 0), (.int 0 0), (.ref 240), (.int 181 0), (.int 0 0), (.ref 247), (.int 203 0), (.int 0 0), (.ref 290)]), #[]⟩
noncomputable def bl0 (P : Params) : List Obj := [PySem.W.boot_o_0 P, PySem.W.boot_o_1 P, x2 P, u3 P, PySem.W.boot_o_4 P, PySem.W.boot_o_5 P, PySem.W.boot_o_6 P, PySem.W.boot_o_7 P, PySem.W.boot_o_8 P, PySem.W.boot_o_9 P, PySem.W.boot_o_10 P, x11 P, x12 P, x13 P, x14 P, x15 P]
noncomputable def bl1 (P : Params) : List Obj := [x16 P, x17 P, x18 P, u19 P, x20 P, u21 P, x22 P, x23 P, x24 P, x25 P, x26 P, x27 P, x28 P, x29 P, x30 P, x31 P]
noncomputable def bl2 (P : Params) : List Obj := [x32 P, x33 P, u34 P, x35 P, u36 P, x37 P, x38 P, x39 P, x40 P, x41 P, x42 P, x43 P, x44 P, x45 P, x46 P, x47 P]
noncomputable def bl3 (P : Params) : List Obj := [x48 P, x49 P, x50 P, x51 P, x52 P, x53 P, x54 P, x55 P, x56 P, x57 P, x58 P, u59 P, x60 P, u61 P, x62 P, x63 P]
noncomputable def bl4 (P : Params) : List Obj := [x64 P, x65 P, u66 P, x67 P, u68 P, x69 P, x70 P, x71 P, x72 P, u73 P, x74 P, u75 P, x76 P, x77 P, x78 P, x79 P]
noncomputable def bl5 (P : Params) : List Obj := [u80 P, x81 P, u82 P, x83 P, x84 P, x85 P, x86 P, u87 P, x88 P, u89 P, x90 P, x91 P, x92 P, x93 P, u94 P, x95 P]
noncomputable def bl6 (P : Params) : List Obj := [u96 P, x97 P, x98 P, x99 P, x100 P, u101 P, x102 P, u103 P, x104 P, x105 P, x106 P, x107 P, u108 P, x109 P, u110 P, x111 P]
noncomputable def bl7 (P : Params) : List Obj := [x112 P, x113 P, x114 P, x115 P, x116 P, x117 P, x118 P, x119 P, x120 P, x121 P, u122 P, x123 P, u124 P, x125 P, x126 P, x127 P]
noncomputable def bl8 (P : Params) : List Obj := [x128 P, u129 P, x130 P, u131 P, x132 P, x133 P, x134 P, x135 P, x136 P, x137 P, x138 P, x139 P, x140 P, x141 P, x142 P, u143 P]
noncomputable def bl9 (P : Params) : List Obj := [x144 P, u145 P, x146 P, x147 P, x148 P, x149 P, u150 P, x151 P, u152 P, x153 P, x154 P, x155 P, x156 P, u157 P, x158 P, u159 P]
noncomputable def bl10 (P : Params) : List Obj := [x160 P, x161 P, x162 P, x163 P, u164 P, x165 P, u166 P, x167 P, x168 P, x169 P, x170 P, u171 P, x172 P, u173 P, x174 P, x175 P]
noncomputable def bl11 (P : Params) : List Obj := [x176 P, x177 P, u178 P, x179 P, u180 P, x181 P, x182 P, u183 P, x184 P, u185 P, x186 P, x187 P, x188 P, x189 P, x190 P, x191 P]
noncomputable def bl12 (P : Params) : List Obj := [x192 P, x193 P, x194 P, x195 P, x196 P, u197 P, x198 P, u199 P, x200 P, x201 P, x202 P, x203 P, u204 P, x205 P, u206 P, x207 P]
noncomputable def bl13 (P : Params) : List Obj := [x208 P, x209 P, x210 P, u211 P, x212 P, u213 P, x214 P, x215 P, x216 P, x217 P, u218 P, x219 P, u220 P, x221 P, x222 P, x223 P]
noncomputable def bl14 (P : Params) : List Obj := [x224 P, u225 P, x226 P, u227 P, x228 P, x229 P, x230 P, x231 P, x232 P, x233 P, x234 P, x235 P, x236 P, x237 P, x238 P, u239 P]
noncomputable def bl15 (P : Params) : List Obj := [x240 P, u241 P, x242 P, x243 P, x244 P, x245 P, x246 P, x247 P, x248 P, x249 P, x250 P, x251 P, x252 P, u253 P, x254 P, u255 P]
noncomputable def bl16 (P : Params) : List Obj := [x256 P, x257 P, x258 P, x259 P, u260 P, x261 P, u262 P, x263 P, x264 P, x265 P, x266 P, u267 P, x268 P, u269 P, x270 P, x271 P]
noncomputable def bl17 (P : Params) : List Obj := [x272 P, x273 P, u274 P, x275 P, u276 P, x277 P, x278 P, x279 P, x280 P, x281 P, x282 P, x283 P, x284 P, x285 P, x286 P, x287 P]
noncomputable def bl18 (P : Params) : List Obj := [x288 P, u289 P, x290 P, u291 P, x292 P, x293 P, x294 P, x295 P, x296 P, u297 P, x298 P, u299 P, x300 P, x301 P, x302 P, x303 P]
noncomputable def bl19 (P : Params) : List Obj := [u304 P, x305 P, u306 P, x307 P, x308 P, x309 P, x310 P, u311 P, x312 P, u313 P, x314 P, x315 P, x316 P, x317 P, u318 P, x319 P]
noncomputable def bl20 (P : Params) : List Obj := [u320 P, x321 P, x322 P, x323 P, x324 P, u325 P, x326 P, u327 P, x328 P, x329 P, u330 P, x331 P, u332 P, x333 P, x334 P, x335 P]
noncomputable def bl21 (P : Params) : List Obj := [x336 P, u337 P, x338 P, u339 P, x340 P, x341 P, x342 P, x343 P, u344 P, x345 P, u346 P, x347 P, x348 P, u349 P, x350 P, u351 P]
noncomputable def bl22 (P : Params) : List Obj := [x352 P, x353 P, u354 P, x355 P, u356 P]
noncomputable def obl0 (P : Params) : List (List Obj) := [bl0 P, bl1 P, bl2 P, bl3 P, bl4 P, bl5 P, bl6 P, bl7 P]
noncomputable def obl1 (P : Params) : List (List Obj) := [bl8 P, bl9 P, bl10 P, bl11 P, bl12 P, bl13 P, bl14 P, bl15 P]
noncomputable def obl2 (P : Params) : List (List Obj) := [bl16 P, bl17 P, bl18 P, bl19 P, bl20 P, bl21 P, bl22 P]
noncomputable def ob (P : Params) (i : Nat) : Obj := ((obl0 P ++ (obl1 P ++ obl2 P)).getD (i / 16) []).getD (i % 16) obN
noncomputable def tr0 (P : Params) : BT := mkT (ovr [(2, PySem.W.boot_o_2 P), (3, PySem.W.boot_o_3 P), (12, x12_47 P)] (ob P)) 15 10 1 0
noncomputable def tr1 (P : Params) : BT := mkT (ovr [(3, x3_79 P), (12, x12_79 P), (39, x39_79 P)] (ob P)) 43 10 1 0
noncomputable def tr2 (P : Params) : BT := mkT (ovr [(3, x3_129 P), (12, x12_129 P)] (ob P)) 90 10 1 0
noncomputable def tr3 (P : Params) : BT := mkT (ovr [(3, x3_187 P), (12, x12_187 P)] (ob P)) 146 10 1 0
noncomputable def tr4 (P : Params) : BT := mkT (ovr [(3, x3_229 P), (12, x12_229 P)] (ob P)) 186 10 1 0
noncomputable def tr5 (P : Params) : BT := mkT (ovr [(3, x3_287 P), (12, x12_287 P)] (ob P)) 242 10 1 0
noncomputable def tr6 (P : Params) : BT := mkT (ovr [(3, x3_340 P), (12, x12_340 P)] (ob P)) 293 10 1 0
noncomputable def tr7 (P : Params) : BT := mkT (ovr [] (ob P)) 357 10 1 0
noncomputable def hb0 (P : Params) : List Obj := bl0 P ++ (bl1 P ++ (bl2 P ++ (bl3 P ++ (bl4 P ++ (bl5 P ++ (bl6 P ++ (bl7 P)))))))
noncomputable def hb1 (P : Params) : List Obj := bl8 P ++ (bl9 P ++ (bl10 P ++ (bl11 P ++ (bl12 P ++ (bl13 P ++ (bl14 P ++ (bl15 P)))))))
noncomputable def hb2 (P : Params) : List Obj := bl16 P ++ (bl17 P ++ (bl18 P ++ (bl19 P ++ (bl20 P ++ (bl21 P ++ (bl22 P))))))
noncomputable def heapF (P : Params) : Heap := ⟨⟨hb0 P ++ (hb1 P ++ (hb2 P))⟩, ⟨[], [], [], 0, [], [], false, #[], [], 0, false, false, false, 0, [2000, 10, 10], false, 0, true, [], [], 0, false⟩⟩
noncomputable def heapP (P : Params) : Heap := ⟨⟨[PySem.W.boot_o_0 P, PySem.W.boot_o_1 P, PySem.W.boot_o_2 P, PySem.W.boot_o_3 P, PySem.W.boot_o_4 P, PySem.W.boot_o_5 P, PySem.W.boot_o_6 P, PySem.W.boot_o_7 P, PySem.W.boot_o_8 P, PySem.W.boot_o_9 P, PySem.W.boot_o_10 P, x11 P, x12_47 P, x13 P, x14 P]⟩, ⟨[], [], [], 0, [], [], false, #[], [], 0, false, false, false, 0, [2000, 10, 10], false, 0, true, [], [], 0, false⟩⟩
noncomputable def hd.heap_39 : Params → Frag := fun P => (nat_lit 2, x2 P) :: (nat_lit 3, x3 P) :: (nat_lit 15, x15 P) :: (nat_lit 17, x17 P) :: (nat_lit 18, x18 P) :: (nat_lit 20, x20 P) :: (nat_lit 21, f21 P) :: (nat_lit 22, x22 P) :: (nat_lit 29, x29 P) :: (nat_lit 30, x30 P) :: (nat_lit 32, x32 P) :: (nat_lit 33, x33 P) :: (nat_lit 35, x35 P) :: (nat_lit 36, f36 P) :: (nat_lit 37, x37 P) :: (nat_lit 38, x38 P) :: (nat_lit 39, x39 P) :: (nat_lit 40, x40 P) :: (nat_lit 43, x43 P) :: (nat_lit 50, x50 P) :: (nat_lit 51, x51 P) :: (nat_lit 52, x52 P) :: (nat_lit 55, x55 P) :: (nat_lit 57, x57 P) :: (nat_lit 58, x58 P) :: (nat_lit 60, x60 P) :: (nat_lit 61, f61 P) :: (nat_lit 62, x62 P) :: (nat_lit 64, x64 P) :: (nat_lit 65, x65 P) :: (nat_lit 67, x67 P) :: (nat_lit 68, f68 P) :: (nat_lit 69, x69 P) :: (nat_lit 71, x71 P) :: (nat_lit 72, x72 P) :: (nat_lit 74, x74 P) :: (nat_lit 75, f75 P) :: (nat_lit 76, x76 P) :: (nat_lit 78, x78 P) :: (nat_lit 79, x79 P) :: (nat_lit 81, x81 P) :: (nat_lit 82, f82 P) :: (nat_lit 83, x83 P) :: (nat_lit 85, x85 P) :: (nat_lit 86, x86 P) :: (nat_lit 88, x88 P) :: (nat_lit 89, f89 P) :: (nat_lit 90, x90 P) :: (nat_lit 92, x92 P) :: (nat_lit 93, x93 P) :: (nat_lit 95, x95 P) :: (nat_lit 96, f96 P) :: (nat_lit 97, x97 P) :: (nat_lit 99, x99 P) :: (nat_lit 100, x100 P) :: (nat_lit 102, x102 P) :: (nat_lit 103, f103 P) :: (nat_lit 104, x104 P) :: (nat_lit 106, x106 P) :: (nat_lit 107, x107 P) :: (nat_lit 109, x109 P) :: (nat_lit 110, f110 P) :: (nat_lit 118, x118 P) :: (nat_lit 120, x120 P) :: (nat_lit 121, x121 P) :: (nat_lit 123, x123 P) :: (nat_lit 124, f124 P) :: (nat_lit 125, x125 P) :: (nat_lit 127, x127 P) :: (nat_lit 128, x128 P) :: (nat_lit 130, x130 P) :: (nat_lit 131, f131 P) :: (nat_lit 132, x132 P) :: (nat_lit 133, x133 P) :: (nat_lit 134, x134 P) :: (nat_lit 135, x135 P) :: (nat_lit 136, x136 P) :: (nat_lit 139, x139 P) :: (nat_lit 141, x141 P) :: (nat_lit 142, x142 P) :: (nat_lit 144, x144 P) :: (nat_lit 145, f145 P) :: (nat_lit 146, x146 P) :: (nat_lit 148, x148 P) :: (nat_lit 149, x149 P) :: (nat_lit 151, x151 P) :: (nat_lit 152, f152 P) :: (nat_lit 153, x153 P) :: (nat_lit 155, x155 P) :: (nat_lit 156, x156 P) :: (nat_lit 158, x158 P) :: (nat_lit 159, f159 P) :: (nat_lit 160, x160 P) :: (nat_lit 162, x162 P) :: (nat_lit 163, x163 P) :: (nat_lit 165, x165 P) :: (nat_lit 166, f166 P) :: (nat_lit 167, x167 P) :: (nat_lit 169, x169 P) :: (nat_lit 170, x170 P) :: (nat_lit 172, x172 P) :: (nat_lit 173, f173 P) :: (nat_lit 174, x174 P) :: (nat_lit 176, x176 P) :: (nat_lit 177, x177 P) :: (nat_lit 179, x179 P) :: (nat_lit 180, f180 P) :: (nat_lit 181, x181 P) :: (nat_lit 184, x184 P) :: (nat_lit 185, f185 P) :: (nat_lit 193, x193 P) :: (nat_lit 195, x195 P) :: (nat_lit 196, x196 P) :: (nat_lit 198, x198 P) :: (nat_lit 199, f199 P) :: (nat_lit 200, x200 P) :: (nat_lit 202, x202 P) :: (nat_lit 203, x203 P) :: (nat_lit 205, x205 P) :: (nat_lit 206, f206 P) :: (nat_lit 207, x207 P) :: (nat_lit 209, x209 P) :: (nat_lit 210, x210 P) :: (nat_lit 212, x212 P) :: (nat_lit 213, f213 P) :: (nat_lit 214, x214 P) :: (nat_lit 216, x216 P) :: (nat_lit 217, x217 P) :: (nat_lit 219, x219 P) :: (nat_lit 220, f220 P) :: (nat_lit 221, x221 P) :: (nat_lit 223, x223 P) :: (nat_lit 224, x224 P) :: (nat_lit 226, x226 P) :: (nat_lit 227, f227 P) :: (nat_lit 228, x228 P) :: (nat_lit 229, x229 P) :: (nat_lit 230, x230 P) :: (nat_lit 231, x231 P) :: (nat_lit 232, x232 P) :: (nat_lit 235, x235 P) :: (nat_lit 237, x237 P) :: (nat_lit 238, x238 P) :: (nat_lit 240, x240 P) :: (nat_lit 241, f241 P) :: (nat_lit 249, x249 P) :: (nat_lit 251, x251 P) :: (nat_lit 252, x252 P) :: (nat_lit 254, x254 P) :: (nat_lit 255, f255 P) :: (nat_lit 256, x256 P) :: (nat_lit 258, x258 P) :: (nat_lit 259, x259 P) :: (nat_lit 261, x261 P) :: (nat_lit 262, f262 P) :: (nat_lit 263, x263 P) :: (nat_lit 265, x265 P) :: (nat_lit 266, x266 P) :: (nat_lit 268, x268 P) :: (nat_lit 269, f269 P) :: (nat_lit 270, x270 P) :: (nat_lit 272, x272 P) :: (nat_lit 273, x273 P) :: (nat_lit 275, x275 P) :: (nat_lit 276, f276 P) :: (nat_lit 277, x277 P) :: (nat_lit 278, x278 P) :: (nat_lit 279, x279 P) :: (nat_lit 280, x280 P) :: (nat_lit 281, x281 P) :: (nat_lit 284, x284 P) :: (nat_lit 285, x285 P) :: (nat_lit 287, x287 P) :: (nat_lit 288, x288 P) :: (nat_lit 290, x290 P) :: (nat_lit 291, f291 P) :: (nat_lit 292, x292 P) :: (nat_lit 293, x293 P) :: (nat_lit 295, x295 P) :: (nat_lit 296, x296 P) :: (nat_lit 298, x298 P) :: (nat_lit 299, f299 P) :: (nat_lit 300, x300 P) :: (nat_lit 302, x302 P) :: (nat_lit 303, x303 P) :: (nat_lit 305, x305 P) :: (nat_lit 306, f306 P) :: (nat_lit 307, x307 P) :: (nat_lit 309, x309 P) :: (nat_lit 310, x310 P) :: (nat_lit 312, x312 P) :: (nat_lit 313, f313 P) :: (nat_lit 314, x314 P) :: (nat_lit 316, x316 P) :: (nat_lit 317, x317 P) :: (nat_lit 319, x319 P) :: (nat_lit 320, f320 P) :: (nat_lit 321, x321 P) :: (nat_lit 323, x323 P) :: (nat_lit 324, x324 P) :: (nat_lit 326, x326 P) :: (nat_lit 327, f327 P) :: (nat_lit 328, x328 P) :: (nat_lit 331, x331 P) :: (nat_lit 332, f332 P) :: (nat_lit 333, x333 P) :: (nat_lit 335, x335 P) :: (nat_lit 336, x336 P) :: (nat_lit 338, x338 P) :: (nat_lit 339, f339 P) :: (nat_lit 340, x340 P) :: (nat_lit 342, x342 P) :: (nat_lit 343, x343 P) :: (nat_lit 345, x345 P) :: (nat_lit 346, f346 P) :: (nat_lit 347, x347 P) :: (nat_lit 350, x350 P) :: (nat_lit 351, f351 P) :: (nat_lit 352, x352 P) :: (nat_lit 355, x355 P) :: (nat_lit 356, f356 P) :: []
noncomputable abbrev hd.ads : List Addr := 2 :: 3 :: 15 :: 17 :: 18 :: 20 :: 21 :: 22 :: 29 :: 30 :: 32 :: 33 :: 35 :: 36 :: 37 :: 38 :: 39 :: 40 :: 43 :: 50 :: 51 :: 52 :: 55 :: 57 :: 58 :: 60 :: 61 :: 62 :: 64 :: 65 :: 67 :: 68 :: 69 :: 71 :: 72 :: 74 :: 75 :: 76 :: 78 :: 79 :: 81 :: 82 :: 83 :: 85 :: 86 :: 88 :: 89 :: 90 :: 92 :: 93 :: 95 :: 96 :: 97 :: 99 :: 100 :: 102 :: 103 :: 104 :: 106 :: 107 :: 109 :: 110 :: 118 :: 120 :: 121 :: 123 :: 124 :: 125 :: 127 :: 128 :: 130 :: 131 :: 132 :: 133 :: 134 :: 135 :: 136 :: 139 :: 141 :: 142 :: 144 :: 145 :: 146 :: 148 :: 149 :: 151 :: 152 :: 153 :: 155 :: 156 :: 158 :: 159 :: 160 :: 162 :: 163 :: 165 :: 166 :: 167 :: 169 :: 170 :: 172 :: 173 :: 174 :: 176 :: 177 :: 179 :: 180 :: 181 :: 184 :: 185 :: 193 :: 195 :: 196 :: 198 :: 199 :: 200 :: 202 :: 203 :: 205 :: 206 :: 207 :: 209 :: 210 :: 212 :: 213 :: 214 :: 216 :: 217 :: 219 :: 220 :: 221 :: 223 :: 224 :: 226 :: 227 :: 228 :: 229 :: 230 :: 231 :: 232 :: 235 :: 237 :: 238 :: 240 :: 241 :: 249 :: 251 :: 252 :: 254 :: 255 :: 256 :: 258 :: 259 :: 261 :: 262 :: 263 :: 265 :: 266 :: 268 :: 269 :: 270 :: 272 :: 273 :: 275 :: 276 :: 277 :: 278 :: 279 :: 280 :: 281 :: 284 :: 285 :: 287 :: 288 :: 290 :: 291 :: 292 :: 293 :: 295 :: 296 :: 298 :: 299 :: 300 :: 302 :: 303 :: 305 :: 306 :: 307 :: 309 :: 310 :: 312 :: 313 :: 314 :: 316 :: 317 :: 319 :: 320 :: 321 :: 323 :: 324 :: 326 :: 327 :: 328 :: 331 :: 332 :: 333 :: 335 :: 336 :: 338 :: 339 :: 340 :: 342 :: 343 :: 345 :: 346 :: 347 :: 350 :: 351 :: 352 :: 355 :: 356 :: []
noncomputable def hd.view_39 : Program := view PW [0, 2, 3, 4, 5, 7, 8, 9, 10, 11, 12, 13, 14, 15, 16, 17, 18, 19, 20, 21, 22, 24, 25, 27, 28, 30, 31, 32, 33, 34, 35, 36, 37, 38, 39, 40, 41, 42]
noncomputable abbrev BE : List Stmt := behindTheImports PW
noncomputable def E41 : Env := { scope := PW.main.scope, locals := mainNs, globals := mainNs, cells := [], code := .ref 13, frame := some 14 }
noncomputable abbrev CE : Code := Code.body BE E41
noncomputable abbrev ZP : Pos := ⟨0, 0, 0, 0⟩
noncomputable abbrev TF : List Frame := [topFrame ZP]
noncomputable abbrev AN : Option Value := some (.ref 6)
noncomputable abbrev G0 : Array GenState := ⟨[]⟩
noncomputable abbrev DR : Drawn := ⟨0, 0, 0, 0⟩
noncomputable abbrev LF : Life := ⟨[], [], [], 0, [], [], false, #[], [], 0, false, false, false, 0, [2000, 10, 10], false, 0, true, [], [], 0, false⟩
noncomputable abbrev SF (w : World) (os : OsState) : Shared := ⟨heapF w.params, G0, DR, 687, os⟩
noncomputable abbrev LO : List Str := ["UniError"]
noncomputable def sts0 : List Stmt := (BE.drop 0).take 4
noncomputable def sts1 : List Stmt := (BE.drop 4).take 9
noncomputable def sts2 : List Stmt := (BE.drop 13).take 5
noncomputable def sts3 : List Stmt := (BE.drop 18).take 7
noncomputable def sts4 : List Stmt := (BE.drop 25).take 3
noncomputable def sts5 : List Stmt := (BE.drop 28).take 5
noncomputable def sts6 : List Stmt := (BE.drop 33).take 10
noncomputable abbrev XT (s : Shared) : Bool := xlAt hd.view_39 [] s && recOk (RowW.records (OpenRow.toRowW RR2)) s
noncomputable def eL0 (w : World) : OsState → Option (Shared × Thread) := fun os => topGo treeTable PW w 11 AN 12 ⟨boot_heap w.params, G0, boot_drawn, boot_toks, os⟩ (topStub PW)
noncomputable def eR0 (w : World) : OsState → Option (Shared × Thread) := fun os => some (⟨heapP w.params, G0, DR, 187, os⟩, ⟨denote treeTable CE, CE, ZP, TF⟩)
theorem eQ0 : (fun _ _ => true) eL0 eR0 = true := by k_qdec
theorem eT0 (w : World) : PySem.W.Fast.tw10549750123623911149 w = PySem.W.Fast.tw557478404576284580 w := by kernel_rfl!
theorem eq0 (w : World) : eL0 w = eR0 w := (congrFun PySem.W.Fast.te10549750123623911149 w).trans ((eT0 w).trans (congrFun PySem.W.Fast.te557478404576284580 w).symm)
noncomputable def eL1 (w : World) : OsState → Option (Flow × Shared × Code × Pos) := fun os => segRun treeTable PW w 11 AN 1 1 ⟨heapP w.params, G0, DR, 187, os⟩ (blockOf BE E41 CE ZP TF)
noncomputable def eR1 (w : World) : OsState → Option (Flow × Shared × Code × Pos) := fun os => some (.next, SharedT.abs ⟨tr0 w.params, 15, LF, G0, DR, 187, os⟩, CE, ZP)
theorem eQ1 : (fun _ _ => true) eL1 eR1 = true := by k_qdec
theorem eT1 (w : World) : PySem.W.Fast.tw916417627720882613 w = PySem.W.Fast.tw8512227052464888468 w := by kernel_rfl!
theorem eq1 (w : World) : eL1 w = eR1 w := (congrFun PySem.W.Fast.te916417627720882613 w).trans ((eT1 w).trans (congrFun PySem.W.Fast.te8512227052464888468 w).symm)
noncomputable def eL2 (w : World) : OsState → Option (Flow × SharedT × Code × Pos) := fun os => segRunT treeTable PW w 11 AN 1 277 ⟨tr0 w.params, 15, LF, G0, DR, 187, os⟩ (piecesOf sts0 E41 CE ⟨0, 0, 0, 0⟩ TF)
noncomputable def eR2 (w : World) : OsState → Option (Flow × SharedT × Code × Pos) := fun os => some (.next, ⟨tr1 w.params, 43, LF, G0, DR, 227, os⟩, CE, ⟨6, 0, 9, 24⟩)
theorem eQ2 : (fun _ _ => true) eL2 eR2 = true := by k_qdec
theorem eT2 (w : World) : PySem.W.Fast.tw6703831594060808801 w = PySem.W.Fast.tw1195372116133937418 w := by kernel_rfl!
theorem eq2 (w : World) : eL2 w = eR2 w := (congrFun PySem.W.Fast.te6703831594060808801 w).trans ((eT2 w).trans (congrFun PySem.W.Fast.te1195372116133937418 w).symm)
noncomputable def eL3 (w : World) : OsState → Option (Flow × SharedT × Code × Pos) := fun os => segRunT treeTable PW w 11 AN 1 397 ⟨tr1 w.params, 43, LF, G0, DR, 227, os⟩ (piecesOf sts1 E41 CE ⟨6, 0, 9, 24⟩ TF)
noncomputable def eR3 (w : World) : OsState → Option (Flow × SharedT × Code × Pos) := fun os => some (.next, ⟨tr2 w.params, 90, LF, G0, DR, 295, os⟩, CE, ⟨36, 0, 40, 14⟩)
theorem eQ3 : (fun _ _ => true) eL3 eR3 = true := by k_qdec
theorem eT3 (w : World) : PySem.W.Fast.tw7958744351729923071 w = PySem.W.Fast.tw11677364766382125807 w := by kernel_rfl!
theorem eq3 (w : World) : eL3 w = eR3 w := (congrFun PySem.W.Fast.te7958744351729923071 w).trans ((eT3 w).trans (congrFun PySem.W.Fast.te11677364766382125807 w).symm)
noncomputable def eL4 (w : World) : OsState → Option (Flow × SharedT × Code × Pos) := fun os => segRunT treeTable PW w 11 AN 1 387 ⟨tr2 w.params, 90, LF, G0, DR, 295, os⟩ (piecesOf sts2 E41 CE ⟨36, 0, 40, 14⟩ TF)
noncomputable def eR4 (w : World) : OsState → Option (Flow × SharedT × Code × Pos) := fun os => some (.next, ⟨tr3 w.params, 146, LF, G0, DR, 376, os⟩, CE, ⟨71, 0, 80, 16⟩)
theorem eQ4 : (fun _ _ => true) eL4 eR4 = true := by k_qdec
theorem eT4 (w : World) : PySem.W.Fast.tw12306764599363761208 w = PySem.W.Fast.tw360749408740668394 w := by kernel_rfl!
theorem eq4 (w : World) : eL4 w = eR4 w := (congrFun PySem.W.Fast.te12306764599363761208 w).trans ((eT4 w).trans (congrFun PySem.W.Fast.te360749408740668394 w).symm)
noncomputable def eL5 (w : World) : OsState → Option (Flow × SharedT × Code × Pos) := fun os => segRunT treeTable PW w 11 AN 1 202 ⟨tr3 w.params, 146, LF, G0, DR, 376, os⟩ (piecesOf sts3 E41 CE ⟨71, 0, 80, 16⟩ TF)
noncomputable def eR5 (w : World) : OsState → Option (Flow × SharedT × Code × Pos) := fun os => some (.next, ⟨tr4 w.params, 186, LF, G0, DR, 440, os⟩, CE, ⟨133, 0, 136, 76⟩)
theorem eQ5 : (fun _ _ => true) eL5 eR5 = true := by k_qdec
theorem eT5 (w : World) : PySem.W.Fast.tw10085584494039223453 w = PySem.W.Fast.tw8495366759426096271 w := by kernel_rfl!
theorem eq5 (w : World) : eL5 w = eR5 w := (congrFun PySem.W.Fast.te10085584494039223453 w).trans ((eT5 w).trans (congrFun PySem.W.Fast.te8495366759426096271 w).symm)
noncomputable def eL6 (w : World) : OsState → Option (Flow × SharedT × Code × Pos) := fun os => segRunT treeTable PW w 11 AN 1 398 ⟨tr4 w.params, 186, LF, G0, DR, 440, os⟩ (piecesOf sts4 E41 CE ⟨133, 0, 136, 76⟩ TF)
noncomputable def eR6 (w : World) : OsState → Option (Flow × SharedT × Code × Pos) := fun os => some (.next, ⟨tr5 w.params, 242, LF, G0, DR, 519, os⟩, CE, ⟨169, 0, 180, 16⟩)
theorem eQ6 : (fun _ _ => true) eL6 eR6 = true := by k_qdec
theorem eT6 (w : World) : PySem.W.Fast.tw16010260543543256776 w = PySem.W.Fast.tw3754549935914979002 w := by kernel_rfl!
theorem eq6 (w : World) : eL6 w = eR6 w := (congrFun PySem.W.Fast.te16010260543543256776 w).trans ((eT6 w).trans (congrFun PySem.W.Fast.te3754549935914979002 w).symm)
noncomputable def eL7 (w : World) : OsState → Option (Flow × SharedT × Code × Pos) := fun os => segRunT treeTable PW w 11 AN 1 392 ⟨tr5 w.params, 242, LF, G0, DR, 519, os⟩ (piecesOf sts5 E41 CE ⟨169, 0, 180, 16⟩ TF)
noncomputable def eR7 (w : World) : OsState → Option (Flow × SharedT × Code × Pos) := fun os => some (.next, ⟨tr6 w.params, 293, LF, G0, DR, 598, os⟩, CE, ⟨205, 0, 205, 10⟩)
theorem eQ7 : (fun _ _ => true) eL7 eR7 = true := by k_qdec
theorem eT7 (w : World) : PySem.W.Fast.tw7672958057180139998 w = PySem.W.Fast.tw15327287213219263599 w := by kernel_rfl!
theorem eq7 (w : World) : eL7 w = eR7 w := (congrFun PySem.W.Fast.te7672958057180139998 w).trans ((eT7 w).trans (congrFun PySem.W.Fast.te15327287213219263599 w).symm)
noncomputable def eL8 (w : World) : OsState → Option (Flow × SharedT × Code × Pos) := fun os => segRunT treeTable PW w 11 AN 1 304 ⟨tr6 w.params, 293, LF, G0, DR, 598, os⟩ (piecesOf sts6 E41 CE ⟨205, 0, 205, 10⟩ TF)
noncomputable def eR8 (w : World) : OsState → Option (Flow × SharedT × Code × Pos) := fun os => some (.next, ⟨tr7 w.params, 357, LF, G0, DR, 687, os⟩, CE, ⟨269, 0, 293, 96⟩)
theorem eQ8 : (fun _ _ => true) eL8 eR8 = true := by k_qdec
theorem eT8 (w : World) : PySem.W.Fast.tw12341664438620805088 w = PySem.W.Fast.tw14317459934793757736 w := by kernel_rfl!
theorem eq8 (w : World) : eL8 w = eR8 w := (congrFun PySem.W.Fast.te12341664438620805088 w).trans ((eT8 w).trans (congrFun PySem.W.Fast.te14317459934793757736 w).symm)
noncomputable def eL9 (w : World) : OsState → Option Shared := fun os => topRun treeTable PW w 11 AN 2 (SharedT.abs ⟨tr7 w.params, 357, LF, G0, DR, 687, os⟩) ⟨doneF .next, CE, ⟨269, 0, 293, 96⟩, TF⟩
noncomputable def eR9 (w : World) : OsState → Option Shared := fun os => some (SF w os)
theorem eQ9 : (fun _ _ => true) eL9 eR9 = true := by k_qdec
theorem eT9 (w : World) : PySem.W.Fast.tw9824134546877797937 w = PySem.W.Fast.tw4194378932022914292 w := by kernel_rfl!
theorem eq9 (w : World) : eL9 w = eR9 w := (congrFun PySem.W.Fast.te9824134546877797937 w).trans ((eT9 w).trans (congrFun PySem.W.Fast.te4194378932022914292 w).symm)
noncomputable def eL10 (w : World) : Bool × Nat × Option Value := ((boot_heap w.params).isNs mainGlobals && G0.size == 0, (boot_heap w.params).objs.size, (boot_heap w.params).nsMap mainGlobals "__annotations__")
noncomputable def eR10 (w : World) : Bool × Nat × Option Value := (true, 11, AN)
theorem eQ10 : (fun _ => true) eL10 = true := by k_qdec
theorem eT10 (w : World) : PySem.W.Fast.tw12865952948638921405 w = eR10 w := by kernel_rfl!
theorem eq10 (w : World) : eL10 w = eR10 w := (congrFun PySem.W.Fast.te12865952948638921405 w).trans (eT10 w)
noncomputable def eL11 (w : World) : OsState → Bool := fun os => staticsOk (importedModules PW.main.body) (boot_heap w.params) (heapF w.params) && namesBound PW (heapF w.params) && gensDone (SF w os) && laidKept (boot_heap w.params) (heapF w.params)
noncomputable def eR11 (w : World) : OsState → Bool := fun _ => true
theorem eQ11 : (fun _ => true) eL11 = true := by k_qdec
theorem eT11 (w : World) : PySem.W.Fast.tw17812834407458754112 w = eR11 w := by kernel_rfl!
theorem eq11 (w : World) : eL11 w = eR11 w := (congrFun PySem.W.Fast.te17812834407458754112 w).trans (eT11 w)
noncomputable def eL12 (w : World) := fun os : OsState => openSeen hd.view_39 LO (importedModules PW.main.body) XT true (SF w os)
noncomputable def eR12 (w : World) := fun _ : OsState => openGood hd.view_39 LO
theorem eQ12 : (fun _ _ => true) eL12 eR12 = true := by k_qdec
theorem eT12 (w : World) : PySem.W.Fast.tw8812751617965101382 w = PySem.W.Fast.tw14854453158956522838 w := by kernel_rfl!
theorem eq12 (w : World) : eL12 w = eR12 w := (congrFun PySem.W.Fast.te8812751617965101382 w).trans ((eT12 w).trans (congrFun PySem.W.Fast.te14854453158956522838 w).symm)
noncomputable abbrev hd.HK : Hook := kHook hd.heap_39 hd.ads (fun _ => by kernel_rfl)
theorem hd.y (w : World) (os : OsState) : hd.HK.obs (SF w os) = hd.HK.val w := by kernel_rfl!
theorem hd.piece {n : Nat} {t t' : BT} {k k' : Nat} {m m' : Nat} {p p' : Pos} {l : List Stmt} {w : World}
    (h : (fun os => segRunT treeTable PW w 11 AN 1 n ⟨t, k, LF, G0, DR, m, os⟩ (piecesOf l E41 CE p TF)) = fun os => some (.next, ⟨t', k', LF, G0, DR, m', os⟩, CE, p')) (os : OsState) :
    segRun treeTable PW w 11 AN 1 n (SharedT.abs ⟨t, k, LF, G0, DR, m, os⟩) (piecesOf l E41 CE p TF) = some (.next, SharedT.abs ⟨t', k', LF, G0, DR, m', os⟩, CE, p') :=
  segRun_of (congrFun h os)
theorem hd.body : BE = sts0 ++ (sts1 ++ (sts2 ++ (sts3 ++ (sts4 ++ (sts5 ++ (sts6 ++ [])))))) := by kernel_rfl!
theorem hd.go {w : World} {N : Nat} {s r : Shared} {p : Pos} (h : topRun treeTable PW w 11 AN N s (restOf (sts0 ++ (sts1 ++ (sts2 ++ (sts3 ++ (sts4 ++ (sts5 ++ (sts6 ++ []))))))) E41 CE p TF) = some r) : topRun treeTable PW w 11 AN N s (restOf BE E41 CE p TF) = some r :=
  hd.body ▸ h
theorem hd.run (w : World) (os : OsState) : topRun treeTable PW w 11 AN (12 + (1 + (277 + (397 + (387 + (202 + (398 + (392 + (304 + 2))))))))) ⟨boot_heap w.params, G0, boot_drawn, boot_toks, os⟩ (topStub PW) = some (SF w os) :=
  go_top (congrFun (eq0 w) os) (piece_block (congrFun (eq1 w) os) (hd.go ((piece_app (hd.piece (eq2 w) os) (piece_app (hd.piece (eq3 w) os) (piece_app (hd.piece (eq4 w) os) (piece_app (hd.piece (eq5 w) os) (piece_app (hd.piece (eq6 w) os) (piece_app (hd.piece (eq7 w) os) (piece_app (hd.piece (eq8 w) os)
    (congrFun (eq9 w) os)))))))))))
theorem hd.left2 : LeftO PW hd.view_39 LO XT hd.HK.obs hd.HK.val 4826 true :=
  LeftO.of_pieces (H₁ := heapF) (gs₁ := G0) (d₁ := DR) (k₁ := 687) (boot_open (by kernel_rfl!) (by decide) (fun s => by kernel_rfl!)) (fun w => eq10 w) hd.run (by decide)
    (fun w => funext fun os => looks_pair (congrFun (eq11 w) os) (looks_pair (congrFun (eq12 w) os) (hd.y w os)))
theorem hd.left : LeftO PySem.Challenge.pw_pq1302_01 hd.view_39 LO XT hd.HK.obs hd.HK.val 4826 true := pwE ▸ hd.left2
theorem hd {d : DefRec} {kwd : List (Str × PySem.Expr)} (call : WalkO hd.view_39 [Str.ofString "UniError"] (XL hd.view_39 []) (kHook hd.heap_39 hd.ads (fun _ => by kernel_rfl)).says (OpenRow.toRowW (OpenLaw.row PySem.Challenge.rw_pq1302_01)) d kwd fun f vs => PySem.call f vs)
    (hdef : defOf hd.view_39 RR.name = some (d, kwd) := by rfl) (hp : RR.prog.theDef RR.name = some (d.params, d.body, d.scope) := by rfl) (hk : kwWritten? d.params.kwonlyargs d.params.kw_defaults = some kwd := by rfl) :
    PySem.Challenge.rw_pq1302_01.Holds := by
  w_on
  refine (fun (h : OpenLaw.Holds RW2) => (rwE ▸ h : OpenLaw.Holds PySem.Challenge.rw_pq1302_01)) ?_
  o_law
  rw [rwE]
  refine W.holds_open (q := hd.view_39) (loose := LO) (Xt := XT) (XP := XL hd.view_39 []) (Yf := hd.HK.obs) (Ya := hd.HK.val) (YP := hd.HK.says) (N := 4826) hd.left hd.HK.of hd.HK.keeps
    (fun s e => xl_of s (Bool.and_eq_true_iff.mp e).1) XL.keeps hdef hp hk (fun s e => recFacts_of (Bool.and_eq_true_iff.mp e).2) (by rfl) (by first | assumption | decide +kernel) (by decide +kernel) ⟨rfl, rfl, rfl, rfl, rfl, by decide +kernel⟩ ?hw call
  w_witness2
example : True := by
  first
  | (refine (fun (_ : PySem.Challenge.rw_pq1302_01.Holds) => trivial) ?_; refine hd ?_; k_fill; fail "enough")
  | trivial
example : True := by
  w_top off
  trivial
--@nofill
/-! ## the ground: what a call needs, what lies in a ledger -/
abbrev PP : Program := PySem.Challenge.rw_pq1302_01.row.prog
abbrev Led := List (Addr × Obj)

def Spec (w : World) (f : Addr) (vs : List Value) (r : Nat) (news : Led) (Out : Value → Led → Prop) : Prop :=
  ∀ (mean : ExcName → Option Value) (mg mb : Str → Option Value) (dp un : Nat) (gd : Option (List Code)) (cn : Str) (cs : Scope) (a : Addr) (ccd : Value) (cl : List (Str × Addr)) (outer : List Env) (A₀ : Around) (base h₀ : Heap) (L : Addr) (m : Str → Option Value) (s : Shared) (Q E : Value → Shared → Prop),
    Below A₀ base outer h₀ → Fr h₀ L s.heap m → (hd.heap_39 w.params).In h₀ → News h₀ L s.heap news →
    Top hd.view_39 (looseW hd.view_39 [Str.ofString "UniError"]) mean mg mb h₀ → cs.kind = .function → dp + r < recursionLimit → un + 16 * r < cLine →
    (∀ v nx h' tk', Out v nx → Fr h₀ L h' m → News h₀ L h' nx → Q v { s with heap := h', toks := tk' }) →
    wpAny (model PP w) (ktrTop dp un gd cn cs L a ccd cl outer) (call (.ref f) vs) Q E s

/-! ## small arithmetic: one lemma in place of many runs of lia -/
theorem sub_run {j : Int} {r : Nat} (h : 0 ≤ j) : (j + (r : Int)).toNat - j.toNat = r := by rw [Int.toNat_add_nat h, Nat.add_sub_cancel_left]
theorem mn_lt {a n k c : Nat} (h : n < c) : min a (n - k) < c := Nat.lt_of_le_of_lt (Nat.le_trans (Nat.min_le_right _ _) (Nat.sub_le _ _)) h
theorem room0 {dp a b lim : Nat} (h : dp + b < lim) (k : a ≤ b) : dp + a < lim := Nat.lt_of_le_of_lt (Nat.add_le_add_left k dp) h
theorem room1 {dp a b lim : Nat} (h : dp + b < lim) (k : 1 + a ≤ b) : dp + 1 + a < lim := by rw [Nat.add_assoc]; exact room0 h k
theorem unit1 {un a b lim : Nat} (h : un + b < lim) (k : 16 + a ≤ b) : un + 16 + a < lim := by rw [Nat.add_assoc]; exact room0 h k
theorem ms_lt {n a e : Int} (h : a < e) (h2 : a < n) : (n - e).toNat < (n - a).toNat := (Int.toNat_lt_toNat (Int.sub_pos_of_lt h2)).mpr (Int.sub_lt_sub_left h n)
theorem tn_lt {n : Nat} {a : Int} (h0 : 0 ≤ a) (h : a < (n : Int)) : a.toNat < n := (Int.toNat_lt h0).mpr h
theorem tn_tn {a b : Int} (h0 : 0 ≤ a) (h : a < b) : a.toNat < b.toNat := (Int.toNat_lt_toNat (Int.lt_of_le_of_lt h0 h)).mpr h
theorem tn_s {a : Int} (h : 0 ≤ a) : (a + 1).toNat = a.toNat + 1 := Int.toNat_add_nat h 1
theorem pos_sub {n : Nat} {a : Int} (h0 : 0 ≤ a) (h : a < (n : Int)) : 0 < n - a.toNat := Nat.sub_pos_of_lt (tn_lt h0 h)
theorem dr_le {n k : Nat} {a : Int} (h0 : 0 ≤ a) (h : a < (n : Int)) (q : k ≤ n - a.toNat) : a + (k : Int) ≤ (n : Int) := by
  have q2 := Int.ofNat_le.mpr (Nat.add_le_of_le_sub' (Nat.le_of_lt (tn_lt h0 h)) q)
  rwa [Int.natCast_add, Int.toNat_of_nonneg h0] at q2
theorem tk_pos {ns : List Int} {a b : Int} (h0 : 0 ≤ a) (h : a < b) (h2 : a < (ns.length : Int)) : 0 < ((ns.drop a.toNat).take (b.toNat - a.toNat)).length := by
  rw [List.length_take, List.length_drop]; exact Nat.lt_min.mpr ⟨Nat.sub_pos_of_lt (tn_tn h0 h), pos_sub h0 h2⟩
theorem tk_lt {ns : List Int} {a b c : Nat} (h : ns.length < c) : ((ns.drop a).take b).length < c := by
  rw [List.length_take, List.length_drop]; exact mn_lt h
theorem dp_lt {ns : List Int} {a c : Nat} (h : ns.length < c) : (ns.drop a).length < c := by
  rw [List.length_drop]; exact Nat.lt_of_le_of_lt (Nat.sub_le _ _) h
theorem tk_lt0 {ns : List Int} {b c : Nat} (h : ns.length < c) : (ns.take b).length < c := by
  rw [List.length_take]; exact Nat.lt_of_le_of_lt (Nat.min_le_right _ _) h
theorem tk_p0 {ns : List Int} {b : Nat} (h : 0 < b) (h2 : 0 < ns.length) : 0 < (ns.take b).length := by
  rw [List.length_take]; exact Nat.lt_min.mpr ⟨h, h2⟩
theorem dp_p {ns : List Int} {a : Nat} (h : a < ns.length) : 0 < (ns.drop a).length := by
  rw [List.length_drop]; exact Nat.sub_pos_of_lt h
theorem tsub {e i : Int} (h : 0 ≤ i) : (e - i).toNat = e.toNat - i.toNat := by
  obtain ⟨k, rfl⟩ := Int.eq_ofNat_of_zero_le h
  exact Int.toNat_sub' e k
theorem le_tn {n : Nat} {a : Int} (h0 : 0 ≤ a) (h : ¬ a < (n : Int)) : n ≤ a.toNat := (Int.le_toNat h0).mpr (Int.not_lt.mp h)
theorem le_tn2 {n : Nat} {a : Int} (h0 : 0 ≤ a) (h : (n : Int) ≤ a) : n ≤ a.toNat := (Int.le_toNat h0).mpr h
theorem tn_a {a : Int} {k : Nat} (h : 0 ≤ a) : a.toNat + k = (a + (k : Int)).toNat := (Int.toNat_add_nat h k).symm
theorem lt_s (a : Int) : a < a + 1 := Int.lt_add_one_iff.mpr (Int.le_refl a)
theorem le_s {a b : Int} (h : a ≤ b) : a ≤ b + 1 := Int.le_add_one h
theorem subS {a k n : Nat} (h : a - k ≤ n + 1) : a - (k + 1) ≤ n := by rw [Nat.sub_add_eq]; exact Nat.sub_le_of_le_add h
theorem subK {a k n m : Nat} (h : a - k ≤ n + 1) (hp : 0 < m) : a - (k + m) ≤ n := Nat.le_trans (Nat.sub_le_sub_left (Nat.add_le_add_left hp k) a) (subS h)
theorem mx_tn {x : Int} {n : Nat} (h : 0 ≤ x) : max 0 (min x (n : Int)) = ((min x.toNat n : Nat) : Int) := by
  obtain ⟨k, rfl⟩ := Int.eq_ofNat_of_zero_le h
  rw [Int.toNat_natCast, Int.max_eq_right (Int.le_min.mpr ⟨h, Int.natCast_nonneg n⟩)]
  rcases Nat.le_total k n with q | q
  · rw [Nat.min_eq_left q, Int.min_eq_left (Int.ofNat_le.mpr q)]
  · rw [Nat.min_eq_right q, Int.min_eq_right (Int.ofNat_le.mpr q)]
theorem slash_in {n r : Nat} {j : Int} (h0 : 0 ≤ j) (q : r ≤ n - j.toNat) (h : j < j + (r : Int)) : j < (n : Int) :=
  (Int.toNat_lt h0).mp (Nat.lt_of_sub_pos (Nat.lt_of_lt_of_le (Int.ofNat_lt.mp (Int.lt_of_add_lt_add_left (a := j) (by rw [Int.natCast_zero, Int.add_zero]; exact h))) q))
/-! ## lists: membership by parts -/
theorem aA {α : Type} {P : α → Prop} {a b : List α} (h : ∀ p ∈ a, P p) (k : ∀ p ∈ b, P p) : ∀ p ∈ a ++ b, P p := fun p hp => (List.mem_append.mp hp).elim (h p) (k p)
theorem aC {α : Type} {P : α → Prop} {x : α} {l : List α} (h : P x) (k : ∀ p ∈ l, P p) : ∀ p ∈ x :: l, P p := List.forall_mem_cons.mpr ⟨h, k⟩
theorem sL {α : Type} {a b c : List α} (h : ∀ p ∈ a, p ∈ b) : ∀ p ∈ a, p ∈ b ++ c := fun p hp => List.mem_append_left c (h p hp)
theorem sR {α : Type} {a b c : List α} (h : ∀ p ∈ a, p ∈ c) : ∀ p ∈ a, p ∈ b ++ c := fun p hp => List.mem_append_right b (h p hp)
theorem sT {α : Type} {a b : List α} {x : α} (h : ∀ p ∈ a, p ∈ b) : ∀ p ∈ a, p ∈ x :: b := fun p hp => .tail _ (h p hp)
theorem oL {α : Type} {P : α → Prop} {a b : List α} (h : ∀ p ∈ a ++ b, P p) : ∀ p ∈ a, P p := fun p hp => h p (List.mem_append_left b hp)
theorem oR {α : Type} {P : α → Prop} {a b : List α} (h : ∀ p ∈ a ++ b, P p) : ∀ p ∈ b, P p := fun p hp => h p (List.mem_append_right a hp)
theorem oT {α : Type} {P : α → Prop} {x : α} {a : List α} (h : ∀ p ∈ x :: a, P p) : ∀ p ∈ a, P p := fun p hp => h p (.tail x hp)
theorem oH {α : Type} {P : α → Prop} {x : α} {a : List α} (h : ∀ p ∈ x :: a, P p) : P x := h x (.head a)
theorem Spec.use {w : World} {f : Addr} {vs : List Value} {r : Nat} {news : Led} {Out : Value → Led → Prop} {mean : ExcName → Option Value} {mg mb : Str → Option Value} {dp un : Nat} {gd : Option (List Code)} {cn : Str} {cs : Scope} {a : Addr} {ccd : Value} {cl : List (Str × Addr)} {outer : List Env} {A₀ : Around} {base h₀ : Heap} {L : Addr} {m : Str → Option Value} {hp : Heap} {gs : Array GenState} {dr : Drawn} {t0 : Tok} {os : OsState} {Q E : Value → Shared → Prop}
    (B : Below A₀ base outer h₀) (F : Fr h₀ L hp m) (X : (hd.heap_39 w.params).In h₀) (N : News h₀ L hp news)
    (T : Top hd.view_39 (looseW hd.view_39 [Str.ofString "UniError"]) mean mg mb h₀) (hk : cs.kind = .function) (S : Spec w f vs r news Out) (hd : dp + r < recursionLimit) (hu : un + 16 * r < cLine)
    (ret : ∀ v nx h' tk', Out v nx → Fr h₀ L h' m → News h₀ L h' nx → Q v ⟨h', gs, dr, tk', os⟩) :
    wpAny (model PP w) (ktrTop dp un gd cn cs L a ccd cl outer) (call (.ref f) vs) Q E ⟨hp, gs, dr, t0, os⟩ :=
  S mean mg mb dp un gd cn cs a ccd cl outer A₀ base h₀ L m ⟨hp, gs, dr, t0, os⟩ Q E B F X N T hk hd hu ret

section
variable {w : World} {f : Addr} {vs : List Value} {r : Nat} {news : Led} {mean : ExcName → Option Value} {mg mb : Str → Option Value} {dp un : Nat} {gd : Option (List Code)} {cn : Str} {cs : Scope} {a : Addr} {ccd : Value} {cl : List (Str × Addr)} {outer : List Env} {A₀ : Around} {base h₀ : Heap} {L : Addr} {m : Str → Option Value} {hp : Heap} {gs : Array GenState} {dr : Drawn} {t0 : Tok} {os : OsState} {Q E : Value → Shared → Prop}
theorem Spec.useI {k : Int} (N : News h₀ L hp news) (S : Spec w f vs r news (fun v nx => nx = news ∧ ∃ t, v = .int k t)) (B : Below A₀ base outer h₀) (F : Fr h₀ L hp m) (X : (hd.heap_39 w.params).In h₀)
    (T : Top hd.view_39 (looseW hd.view_39 [Str.ofString "UniError"]) mean mg mb h₀) (hk : cs.kind = .function) (hd : dp + r < recursionLimit) (hu : un + 16 * r < cLine)
    (ret : ∀ t h' tk', Fr h₀ L h' m → News h₀ L h' news → Q (.int k t) ⟨h', gs, dr, tk', os⟩) :
    wpAny (model PP w) (ktrTop dp un gd cn cs L a ccd cl outer) (call (.ref f) vs) Q E ⟨hp, gs, dr, t0, os⟩ :=
  S.use B F X N T hk hd hu fun _ _ h' tk' ⟨e, t, e2⟩ F' N' => by subst e; subst e2; exact ret t h' tk' F' N'
theorem Spec.useV {c : Value} (N : News h₀ L hp news) (S : Spec w f vs r news (fun v nx => nx = news ∧ v = c)) (B : Below A₀ base outer h₀) (F : Fr h₀ L hp m) (X : (hd.heap_39 w.params).In h₀)
    (T : Top hd.view_39 (looseW hd.view_39 [Str.ofString "UniError"]) mean mg mb h₀) (hk : cs.kind = .function) (hd : dp + r < recursionLimit) (hu : un + 16 * r < cLine)
    (ret : ∀ h' tk', Fr h₀ L h' m → News h₀ L h' news → Q c ⟨h', gs, dr, tk', os⟩) :
    wpAny (model PP w) (ktrTop dp un gd cn cs L a ccd cl outer) (call (.ref f) vs) Q E ⟨hp, gs, dr, t0, os⟩ :=
  S.use B F X N T hk hd hu fun _ _ h' tk' ⟨e, e2⟩ F' N' => by subst e; subst e2; exact ret h' tk' F' N'
theorem Spec.useT {o : Tok → Tok → Obj} (N : News h₀ L hp news) (S : Spec w f vs r news (fun v nx => ∃ T u1 u2, v = .ref T ∧ nx = (T, o u1 u2) :: news ∧ ∀ p ∈ news, p.1 < T)) (B : Below A₀ base outer h₀) (F : Fr h₀ L hp m) (X : (hd.heap_39 w.params).In h₀)
    (T : Top hd.view_39 (looseW hd.view_39 [Str.ofString "UniError"]) mean mg mb h₀) (hk : cs.kind = .function) (hd : dp + r < recursionLimit) (hu : un + 16 * r < cLine)
    (ret : ∀ T u1 u2 h' tk', (∀ p ∈ news, p.1 < T) → Fr h₀ L h' m → News h₀ L h' ((T, o u1 u2) :: news) → Q (.ref T) ⟨h', gs, dr, tk', os⟩) :
    wpAny (model PP w) (ktrTop dp un gd cn cs L a ccd cl outer) (call (.ref f) vs) Q E ⟨hp, gs, dr, t0, os⟩ :=
  S.use B F X N T hk hd hu fun _ _ h' tk' ⟨T, u1, u2, e, e2, l⟩ F' N' => by subst e; subst e2; exact ret T u1 u2 h' tk' l F' N'
theorem Spec.useL {P : Led → List Value → Prop} (N : News h₀ L hp news) (S : Spec w f vs r news (fun v nx => ∃ fl us n tl, v = .ref fl ∧ nx = (fl, listOf us.toArray n) :: (tl ++ news) ∧ P tl us ∧ (∀ p ∈ news, p.1 < fl))) (B : Below A₀ base outer h₀) (F : Fr h₀ L hp m) (X : (hd.heap_39 w.params).In h₀)
    (T : Top hd.view_39 (looseW hd.view_39 [Str.ofString "UniError"]) mean mg mb h₀) (hk : cs.kind = .function) (hd : dp + r < recursionLimit) (hu : un + 16 * r < cLine)
    (ret : ∀ fl us n tl h' tk', P tl us → (∀ p ∈ news, p.1 < fl) → Fr h₀ L h' m → News h₀ L h' ((fl, listOf us.toArray n) :: (tl ++ news)) → Q (.ref fl) ⟨h', gs, dr, tk', os⟩) :
    wpAny (model PP w) (ktrTop dp un gd cn cs L a ccd cl outer) (call (.ref f) vs) Q E ⟨hp, gs, dr, t0, os⟩ :=
  S.use B F X N T hk hd hu fun _ _ h' tk' ⟨fl, us, n, tl, e, e2, d, l⟩ F' N' => by subst e; subst e2; exact ret fl us n tl h' tk' d l F' N'
theorem Spec.useN {P : Prop} {R : Int → Prop} (N : News h₀ L hp news) (S : Spec w f vs r news (fun v nx => nx = news ∧ ((P ∧ v = .none) ∨ ∃ d t, R d ∧ v = .int d t))) (B : Below A₀ base outer h₀) (F : Fr h₀ L hp m) (X : (hd.heap_39 w.params).In h₀)
    (T : Top hd.view_39 (looseW hd.view_39 [Str.ofString "UniError"]) mean mg mb h₀) (hk : cs.kind = .function) (hd : dp + r < recursionLimit) (hu : un + 16 * r < cLine)
    (ret1 : ∀ h' tk', P → Fr h₀ L h' m → News h₀ L h' news → Q .none ⟨h', gs, dr, tk', os⟩)
    (ret2 : ∀ d t h' tk', R d → Fr h₀ L h' m → News h₀ L h' news → Q (.int d t) ⟨h', gs, dr, tk', os⟩) :
    wpAny (model PP w) (ktrTop dp un gd cn cs L a ccd cl outer) (call (.ref f) vs) Q E ⟨hp, gs, dr, t0, os⟩ :=
  S.use B F X N T hk hd hu fun v _ h' tk' O F' N' => by
    obtain ⟨e, O⟩ := O
    subst e
    rcases O with ⟨p, e⟩ | ⟨d, t, p, e⟩ <;> subst e
    · exact ret1 h' tk' p F' N'
    · exact ret2 d t h' tk' p F' N'
end
/-- the walk halts here -/
def Hold (P : Prop) : Prop := P
theorem hold {P : Prop} (h : Hold P) : P := h
/-- a list of ints lies at l -/
inductive TL (news : Led) (l : Addr) (ns : List Int) : Prop
  | mk (vs : List Value) (n : Nat) (z1 : (l, listOf vs.toArray n) ∈ news) (z2 : IntsAre vs ns) : TL news l ns
theorem TL.mono {news news' : Led} {l : Addr} {ns : List Int} (h : TL news l ns) (s : ∀ p ∈ news, p ∈ news') : TL news' l ns :=
  let ⟨vs, n, hm, hi⟩ := h; ⟨vs, n, s _ hm, hi⟩

section
variable {prog : Program} {w : World} {A : Around} {E : Value → Shared → Prop} {s : Shared} {h₀ : Heap} {L l : Addr} {cur : Led} {ns : List Int} {m : Str → Option Value}
theorem tl_len {Q : Value → Shared → Prop} (N : News h₀ L s.heap cur) (t : TL cur l ns) (hz : ns.length < 2 ^ 62) (h : Q (.int (ns.length : Int) (s.toks + 1)) { s with toks := s.toks + 1 + 1 }) :
    wpAny (model prog w) A (call (.builtin "len") [.ref l]) Q E s := by
  obtain ⟨vs, n, hm, hi⟩ := t
  exact kst_len N hm hi.length (by lia) h
theorem tl_item {value slice : PySem.Expr} {k : Int} {u : Tok} {Q : Value → Shared → Prop} (N : News h₀ L s.heap cur) (t : TL cur l ns) (h0 : 0 ≤ k) (h1 : k < (ns.length : Int)) (hz : ns.length < 2 ^ 62)
    (h : ∀ t, Q (.int (ns.getD k.toNat 0) t) s)
    (hs : subscripted slice false (.ref l) (.int k u) = operate [.ref l, .int k u] (getItem (.ref l) (.int k u)) := by with_unfolding_all rfl) :
    wpAny (model prog w) A (subscriptTail value slice (.ref l) (.int k u)) Q E s := by
  obtain ⟨vs, n, hm, hi⟩ := t
  have hl : s.heap.IsList l vs.toArray := ⟨_, (N _ hm).1, rfl, n, rfl⟩
  obtain ⟨t, hx⟩ := hi.get k.toNat (ns.getD k.toNat 0) (by
    have hlt := tn_lt h0 h1
    simp [List.getD, hlt])
  exact tail_any hl.typeIs slot_list_getitem.lookup (wpAny_getItem_list hl h0 (by lia) (by simpa using hx) (h t)) hs
end
theorem tl_ints {news : Led} {l : Addr} {ns : List Int} {h₀ h : Heap} {L : Addr} (N : News h₀ L h news) (t : TL news l ns) : ∃ vs : List Value, h.IsList l vs.toArray ∧ IntsAre vs ns :=
  let ⟨vs, n, hm, hi⟩ := t; ⟨vs, ⟨_, (N _ hm).1, rfl, n, rfl⟩, hi⟩
theorem tl_new {news : Led} {l : Addr} {vs : List Value} {n : Nat} {ns : List Int} (hi : IntsAre vs ns) : TL ((l, listOf vs.toArray n) :: news) l ns := ⟨vs, n, .head _, hi⟩
theorem ints_kf {k : Int} : ∀ {vs : List Value} {ns : List Int}, IntsAre vs ns → kf_ints vs = true ∧ (k ∈ ns → kf_at k vs = some (ns.idxOf k))
  | _, _, .nil => ⟨rfl, fun h => nomatch h⟩
  | _, _, .cons n t (vs := vs) (ns := ns) h => by
    have ih := ints_kf (k := k) h
    refine ⟨by simpa [kf_ints] using ih.1, fun hk => ?_⟩
    unfold kf_at
    by_cases e : n = k
    · subst e; simp [isInt]
    · have hk' : k ∈ ns := by
        rcases List.mem_cons.mp hk with h | h
        · exact absurd h.symm e
        · exact h
      have e2 : (n == k) = false := by simpa using e
      simp [isInt, e, ih.2 hk', List.idxOf_cons, e2]
section
variable {prog : Program} {w : World} {A : Around} {E : Value → Shared → Prop} {s : Shared} {h₀ : Heap} {L l : Addr} {cur : Led} {ns : List Int} {m : Str → Option Value}
theorem tl_last {value slice : PySem.Expr} {k : Int} {u : Tok} {Q : Value → Shared → Prop} (N : News h₀ L s.heap cur) (t : TL cur l ns) (h0 : k < 0) (h1 : -(ns.length : Int) ≤ k) (hz : ns.length < 2 ^ 62)
    (h : ∀ t, Q (.int (ns.getD (k + ns.length).toNat 0) t) s)
    (hs : subscripted slice false (.ref l) (.int k u) = operate [.ref l, .int k u] (getItem (.ref l) (.int k u)) := by with_unfolding_all rfl) :
    wpAny (model prog w) A (subscriptTail value slice (.ref l) (.int k u)) Q E s := by
  obtain ⟨vs, hl, hi⟩ := tl_ints N t
  exact item_list_ints_negR hl hi h0 h1 (by lia) h hs
theorem tl_in {k : Int} {t : Tok} {Q : Value → Shared → Prop} (N : News h₀ L s.heap cur) (tl : TL cur l ns) (h : Q (.bool (decide (k ∈ ns))) s) : wpAny (model prog w) A (compareOp .In (.int k t) (.ref l)) Q E s := by
  obtain ⟨vs, hl, hi⟩ := tl_ints N tl
  refine in_list_ints hl hi ?_
  have e : (ns.any (· == k)) = decide (k ∈ ns) := by
    by_cases hk : k ∈ ns
    · rw [decide_eq_true hk]; exact List.any_eq_true.mpr ⟨k, hk, by simp⟩
    · rw [decide_eq_false hk]; exact List.any_eq_false.mpr fun x hx => by
        intro e; exact hk ((beq_iff_eq.mp e) ▸ hx)
  rw [e]; exact h
theorem tl_index {k : Int} {t : Tok} {Q : Value → Shared → Prop} (N : News h₀ L s.heap cur) (tl : TL cur l ns) (hk : k ∈ ns) (hz : ns.length < 10000) (h : Q (.int (ns.idxOf k : Nat) s.toks) { s with toks := s.toks + 1 }) :
    wpAny (model prog w) A (call (.builtin "list.index") [.ref l, .int k t]) Q E s := by
  obtain ⟨vs, n, hm, hi⟩ := tl
  exact kf_index N hm (by simpa using (ints_kf (k := k) hi).1) (by simpa using (ints_kf hi).2 hk) rfl (by simp only [hi.length]; rw [sizeLine_eq]; lia) h
theorem tl_slice {value slice : PySem.Expr} {vl vu : Value} {lo hi : Option Int} {ms : List Int} {Q : Value → Shared → Prop} (F : Fr h₀ L s.heap m) (N : News h₀ L s.heap cur) (tl : TL cur l ns) (pl : IsPart vl lo) (pu : IsPart vu hi)
    (hm : ∀ vs : List Value, IntsAre vs ns → IntsAre (slicePick vs.toArray lo hi none).toList ms) (hz : ns.length < 10000)
    (h : ∀ D o h', Fr h₀ L h' m → News h₀ L h' ((D, o) :: cur) → (∀ p ∈ cur, p.1 < D) → TL ((D, o) :: cur) D ms → Q (.ref D) { s with heap := h' })
    (hs : subscripted slice false (.ref l) (.ref s.heap.objs.size) = operate [.ref s.heap.objs.size, .ref l] (getItem (.ref l) (.ref s.heap.objs.size))) (ht : ∀ r, letTemporaryGo value (.ref l) r = pure ()) :
    wpAny (model prog w) A (subscriptTail value slice (.ref l) (.ref s.heap.objs.size)) Q E { s with heap := s.heap.push { cls := .type "slice", data := .fields #[vl, vu, .none] } } := by
  obtain ⟨vs, hl, hi'⟩ := tl_ints N tl
  exact kmk_slice_ints (c := ms.length) F N hl pl pu hi' (hm vs hi') rfl (fun D ws h' F' N' lt hw _ _ => h D _ h' F' N' lt (tl_new hw)) hs ht (by rw [List.size_toArray, hi'.length, sizeLine_eq]; lia)
theorem tl_dat {xs : List Int} {vs : List Value} {news : Led} (hi : IntsAre vs xs) : DatAll news vs (xs.map Dat.int) := by
  induction hi with
  | nil => exact .nil
  | cons n t _ ih => exact .cons (.int n t) ih
theorem dat_int_inj {xs ys : List Int} : xs.map Dat.int = ys.map Dat.int ↔ xs = ys :=
  ⟨fun h => by
    induction xs generalizing ys with
    | nil => cases ys with
      | nil => rfl
      | cons y ys => cases h
    | cons x xs ih => cases ys with
      | nil => cases h
      | cons y ys =>
        simp only [List.map_cons, List.cons.injEq, Dat.int.injEq] at h
        rw [h.1, ih h.2], fun h => h ▸ rfl⟩
theorem tl_eq {a b : Addr} {xs ys : List Int} {Q : Value → Shared → Prop} (N : News h₀ L s.heap cur) (ta : TL cur a xs) (tb : TL cur b ys) (hu : A.units + 64 < cLine) (h : Q (.bool (decide (xs = ys))) s) :
    wpAny (model prog w) A (compareOp .Eq (.ref a) (.ref b)) Q E s := by
  obtain ⟨va, na, ma, ia⟩ := ta
  obtain ⟨vb, nb, mb, ib⟩ := tb
  refine kqd_eq N ma rfl rfl (tl_dat (news := cur) ia) (fun _ h => h) mb rfl rfl (tl_dat (news := cur) ib) (fun _ h => h) ?_ ?_ hu ?_
  · intro d hd; obtain ⟨x, _, rfl⟩ := List.mem_map.mp hd; rfl
  · intro d hd; obtain ⟨x, _, rfl⟩ := List.mem_map.mp hd; rfl
  · have key : ∀ d : Decidable (xs.map Dat.int = ys.map Dat.int), @decide _ d = decide (xs = ys) := fun d => decide_eq_decide.mpr dat_int_inj
    rw [key]; exact h
end
theorem storeXl {M : Model} {A : Around} {Q : Unit → Shared → Prop} {E : Value → Shared → Prop} {hp : Heap} {gs : Array GenState} {dr : Drawn} {t0 : Tok} {os : OsState} {h₀ : Heap} {L a : Addr} {m : Str → Option Value} {news : Led} {cn : Str} {cs : Scope} {ccd v : Value} {cl : List (Str × Addr)} {x : Str} (F : Fr h₀ L hp m) (N : News h₀ L hp news)
    (h : ∀ h', let m' : Str → Option Value := fun y => if y = x then some v else m y; Fr h₀ L h' m' → News h₀ L h' news → Q () ⟨h', gs, dr, t0 + 1, os⟩)
    (hk : cs.kind = .function) (hx : (envX cn cs L a ccd cl).kindOf x = some .local) : wpAny M A (storeName (envX cn cs L a ccd cl) x v) Q E ⟨hp, gs, dr, t0, os⟩ :=
  storeX_L (s := ⟨hp, gs, dr, t0, os⟩) F N h hk hx
/-! ## pure expressions by computation -/
def evC : Const → Tok → Option (Value × Tok)
  | .int i, t => some (.int i t, t + 1)
  | .str x, t => some (.str x t, t + 1)
  | .none, t => some (.none, t)
  | .bool b, t => some (.bool b, t)
  | _, _ => none
def evN (k : Str → Option NameKind) (m : Str → Option Value) (x : Str) (t : Tok) : Option (Value × Tok) :=
  match k x with
  | some .local => match x == ("__debug__" : Str) with
    | true => none
    | false => match m x with
      | some v => some (v, t)
      | none => none
  | _ => none
def evP (op : Operator) (x y : Value) (t : Tok) : Option (Value × Tok) :=
  match x with
  | .int a _ => match y with
    | .int b _ => match op with
      | .Add => some (.int (a + b) t, t + 1)
      | .Sub => some (.int (a - b) t, t + 1)
      | _ => none
    | _ => none
  | _ => none
def evE (k : Str → Option NameKind) (m : Str → Option Value) : Nat → PySem.Expr → Tok → Option (Value × Tok)
  | 0, _, _ => none
  | n + 1, e, t => match e with
    | .Name x _ => evN k m x t
    | .Constant c _ _ => evC c t
    | .BinOp a op b _ => match evE k m n a t with
      | some (x, t1) => match evE k m n b t1 with
        | some (y, t2) => evP op x y t2
        | none => none
      | none => none
    | _ => none
def evL (k : Str → Option NameKind) (m : Str → Option Value) (n : Nat) : List PySem.Expr → Tok → Option (List Value × Tok)
  | [], t => some ([], t)
  | e :: es, t => match evE k m n e t with
    | some (v, t1) => match evL k m n es t1 with
      | some (vs, t2) => some (v :: vs, t2)
      | none => none
    | none => none
section
variable {w : World} {A : Around} {s : Shared} {h₀ : Heap} {L a : Addr} {m : Str → Option Value} {cn : Str} {cs : Scope} {ccd : Value} {cl : List (Str × Addr)}
theorem no_some {P : Prop} {α : Type} {x : α} (h : (none : Option α) = some x) : P := nomatch h
theorem evE_sound (F : Fr h₀ L s.heap m) (hk : cs.kind = .function) : ∀ (n : Nat) (e : PySem.Expr) (t : Tok) (v : Value) (t' : Tok),
    evE (envX cn cs L a ccd cl).kindOf m n e t = some (v, t') → ∀ (Q E : Value → Shared → Prop), Q v { s with toks := t' } → wpAny (model PP w) A (eval e (envX cn cs L a ccd cl)) Q E { s with toks := t } := by
  intro n
  induction n with
  | zero => intro e t v t' h; exact no_some h
  | succ n ih =>
    intro e t v t' h Q E q
    cases e with
    | Name x pos =>
      have h : evN (envX cn cs L a ccd cl).kindOf m x t = some (v, t') := h
      unfold evN at h
      split at h
      · rename_i hx
        split at h
        · exact no_some h
        · rename_i hd
          split at h
          · rename_i v' hv
            cases h
            exact nameX_L (s := { s with toks := t }) F hv q hk hx hd
          · exact no_some h
      · exact no_some h
    | Constant c k pos =>
      have h : evC c t = some (v, t') := h
      cases c with
      | int i => cases h; exact wpAny_Constant_int q
      | str x => cases h; exact wpAny_Constant_str q
      | none => cases h; exact wpAny_Constant_none q
      | bool b => cases h; exact wpAny_Constant_bool q
      | _ => exact no_some h
    | BinOp x op y pos =>
      have h : (match evE (envX cn cs L a ccd cl).kindOf m n x t with
        | some (x, t1) => match evE (envX cn cs L a ccd cl).kindOf m n y t1 with
          | some (y, t2) => evP op x y t2
          | none => none
        | none => none) = some (v, t') := h
      split at h
      · rename_i x1 t1 h1
        split at h
        · rename_i y1 t2 h2
          refine wpAny_BinOp (ih _ _ _ _ h1 _ _ (ih _ _ _ _ h2 _ _ ?_))
          cases x1 with
          | int p u => cases y1 with
            | int q' u' => cases op with
              | Add => cases h; exact add_int q
              | Sub => cases h; exact sub_int q
              | _ => exact no_some h
            | _ => exact no_some h
          | _ => exact no_some h
        · exact no_some h
      · exact no_some h
    | _ => exact no_some h
theorem evE_star {k : Str → Option NameKind} {n : Nat} {e : PySem.Expr} {t : Tok} {r : Value × Tok} (h : evE k m n e t = some r) (rest : List PySem.Expr) (env : Env) : starEach (e :: rest) env = (false, eval e env) :: starEach rest env := by
  cases n with
  | zero => exact no_some h
  | succ n =>
    cases e with
    | Starred => exact no_some h
    | _ => first | rfl | exact no_some h
theorem evL_sound (F : Fr h₀ L s.heap m) (hk : cs.kind = .function) {n : Nat} {pos : Pos} : ∀ (es : List PySem.Expr) (t : Tok) (vs : List Value) (t' : Tok),
    evL (envX cn cs L a ccd cl).kindOf m n es t = some (vs, t') → ∀ (Q : List Value → Shared → Prop) (E : Value → Shared → Prop), Q vs { s with toks := t' } →
      wpAny (model PP w) A (spliced (backTo pos (starEach es (envX cn cs L a ccd cl)))) Q E { s with toks := t }
  | [], t, vs, t', h, Q, E, q => by
    cases h
    exact args_nil q
  | e :: es, t, vs, t', h, Q, E, q => by
    simp only [evL] at h
    split at h
    · rename_i v t1 h1
      split at h
      · rename_i vs2 t2 h2
        cases h
        exact args_cons (evE_sound F hk n e t v t1 h1 _ _ (evL_sound F hk es t1 _ _ h2 _ _ q)) (evE_star h1 _ _)
      · exact no_some h
    · exact no_some h
theorem evL_plain {k : Str → Option NameKind} {n : Nat} {pos : Pos} {env : Env} : ∀ (es : List PySem.Expr) (t : Tok) (r : List Value × Tok), evL k m n es t = some r → (backTo pos (starEach es env)).any (·.1) = false
  | [], _, _, _ => rfl
  | e :: es, t, r, h => by
    simp only [evL] at h
    split at h
    · rename_i v t1 h1
      split at h
      · rename_i vs2 t2 h2
        rw [evE_star h1]
        have := evL_plain (pos := pos) (env := env) es t1 _ h2
        simpa [backTo] using this
      · exact no_some h
    · exact no_some h
/-- a pure value -/
theorem ev_val {hp : Heap} {gs : Array GenState} {dr : Drawn} {t0 : Tok} {os : OsState} {e : PySem.Expr} {v : Value} {t' : Tok} {Q E : Value → Shared → Prop} (F : Fr h₀ L hp m) (h : evE (envX cn cs L a ccd cl).kindOf m 9 e t0 = some (v, t')) (q : Q v ⟨hp, gs, dr, t', os⟩) (hk : cs.kind = .function) :
    wpAny (model PP w) A (eval e (envX cn cs L a ccd cl)) Q E ⟨hp, gs, dr, t0, os⟩ := evE_sound (s := ⟨hp, gs, dr, t0, os⟩) F hk 9 e t0 v t' h Q E q
/-- pure arguments -/
theorem ev_args {hp : Heap} {gs : Array GenState} {dr : Drawn} {t0 : Tok} {os : OsState} {es : List PySem.Expr} {pos : Pos} {vs : List Value} {t' : Tok} {Q : List Value → Shared → Prop} {E : Value → Shared → Prop} (F : Fr h₀ L hp m) (h : evL (envX cn cs L a ccd cl).kindOf m 9 es t0 = some (vs, t')) (q : Q vs ⟨hp, gs, dr, t', os⟩) (hk : cs.kind = .function) :
    wpAny (model PP w) A (spliced (backTo pos (starEach es (envX cn cs L a ccd cl)))) Q E ⟨hp, gs, dr, t0, os⟩ := evL_sound (s := ⟨hp, gs, dr, t0, os⟩) F hk es t0 vs t' h Q E q
/-- a call of a def, of a builtin, with pure arguments -/
theorem ev_callK {hp : Heap} {gs : Array GenState} {dr : Drawn} {t0 : Tok} {os : OsState} {K : Frag} {p : Program} {loose : List Str} {mg mb : Str → Option Value} {fn : Str} {fp pos : Pos} {e : PySem.Expr} {es : List PySem.Expr} {f : Value} {vs : List Value} {t' : Tok} {Q E : Value → Shared → Prop}
    (F : Fr h₀ L hp m) (X : K.In h₀) (T : TopRead p loose mg mb h₀) (hn : nsIn K mainGlobals fn = some (some f)) (hf : keepIn K f = true) (h : evL (envX cn cs L a ccd cl).kindOf m 9 (e :: es) t0 = some (vs, t'))
    (q : wpAny (model PP w) A (call f vs) Q E ⟨hp, gs, dr, t', os⟩) (hk : cs.kind = .function) (hx : (envX cn cs L a ccd cl).kindOf fn = some .globalImplicit) (hd : (fn == ("__debug__" : Str)) = false) :
    wpAny (model PP w) A (eval (.Call (.Name fn fp) (e :: es) [] pos) (envX cn cs L a ccd cl)) Q E ⟨hp, gs, dr, t0, os⟩ := by
  have h0 := h
  simp only [evL] at h0
  split at h0
  · rename_i v t1 h1
    split at h0
    · rename_i vs2 t2 h2
      refine Call_ (nameX_K (s := ⟨hp, gs, dr, t0, os⟩) F X T hn (callWith_K (X.keeps F.keep) hf (ev_args F h ⟨X.keeps F.keep, ?_⟩ hk) (evE_star h1 _ _) (evL_plain _ _ _ h2)) hk hx hd)
      rw [List.nil_append]; exact q
    · exact no_some h0
  · exact no_some h0
theorem ev_callB {hp : Heap} {gs : Array GenState} {dr : Drawn} {t0 : Tok} {os : OsState} {K : Frag} {p : Program} {loose : List Str} {mg mb : Str → Option Value} {fn : Str} {fp pos : Pos} {e : PySem.Expr} {es : List PySem.Expr} {f : Value} {vs : List Value} {t' : Tok} {Q E : Value → Shared → Prop}
    (F : Fr h₀ L hp m) (X : K.In h₀) (T : TopRead p loose mg mb h₀) (hn : nsIn K mainGlobals fn = some none) (hv : bootBuiltins fn = some f) (ne : fn ≠ "__name__") (hf : keepIn K f = true) (h : evL (envX cn cs L a ccd cl).kindOf m 9 (e :: es) t0 = some (vs, t'))
    (q : wpAny (model PP w) A (call f vs) Q E ⟨hp, gs, dr, t', os⟩) (hk : cs.kind = .function) (hx : (envX cn cs L a ccd cl).kindOf fn = some .globalImplicit) (hd : (fn == ("__debug__" : Str)) = false) :
    wpAny (model PP w) A (eval (.Call (.Name fn fp) (e :: es) [] pos) (envX cn cs L a ccd cl)) Q E ⟨hp, gs, dr, t0, os⟩ := by
  have h0 := h
  simp only [evL] at h0
  split at h0
  · rename_i v t1 h1
    split at h0
    · rename_i vs2 t2 h2
      refine Call_ (nameX_B (s := ⟨hp, gs, dr, t0, os⟩) F X T hn hv ne (callWith_K (X.keeps F.keep) hf (ev_args F h ⟨X.keeps F.keep, ?_⟩ hk) (evE_star h1 _ _) (evL_plain _ _ _ h2)) hk hx hd)
      rw [List.nil_append]; exact q
    · exact no_some h0
  · exact no_some h0
/-- a test of two pure values -/
theorem ev_test {hp : Heap} {gs : Array GenState} {dr : Drawn} {t0 : Tok} {os : OsState} {x y : PySem.Expr} {op : CmpOp} {pos : Pos} {whole : Sem Value} {vx vy : Value} {t1 t2 : Tok} {Q : Bool → Shared → Prop} {E : Value → Shared → Prop} (F : Fr h₀ L hp m) (hx : evE (envX cn cs L a ccd cl).kindOf m 9 x t0 = some (vx, t1))
    (hy : evE (envX cn cs L a ccd cl).kindOf m 9 y t1 = some (vy, t2)) (q : wpAny (model PP w) A (compareOp op vx vy) (fun c s₃ => wpAny (model PP w) A (truthy c) Q E s₃) E ⟨hp, gs, dr, t2, os⟩) (hk : cs.kind = .function)
    (hm : behindInMarks op y = false) : wpAny (model PP w) A (isTrue (.Compare x [op] [y] pos) (envX cn cs L a ccd cl) whole) Q E ⟨hp, gs, dr, t0, os⟩ :=
  wpAny_isTrue_Compare1 (evE_sound (s := ⟨hp, gs, dr, t0, os⟩) F hk 9 x t0 vx t1 hx _ _ (evE_sound (s := ⟨hp, gs, dr, t0, os⟩) F hk 9 y t1 vy t2 hy _ _ q)) hm
/-- a subscript of two pure values -/
theorem ev_sub {hp : Heap} {gs : Array GenState} {dr : Drawn} {t0 : Tok} {os : OsState} {x y : PySem.Expr} {pos : Pos} {vx vy : Value} {t1 t2 : Tok} {Q E : Value → Shared → Prop} (F : Fr h₀ L hp m) (hx : evE (envX cn cs L a ccd cl).kindOf m 9 x t0 = some (vx, t1))
    (hy : evE (envX cn cs L a ccd cl).kindOf m 9 y t1 = some (vy, t2)) (q : wpAny (model PP w) A (subscriptTail x y vx vy) Q E ⟨hp, gs, dr, t2, os⟩) (hk : cs.kind = .function) :
    wpAny (model PP w) A (eval (.Subscript x y pos) (envX cn cs L a ccd cl)) Q E ⟨hp, gs, dr, t0, os⟩ :=
  Subscript_ (evE_sound (s := ⟨hp, gs, dr, t0, os⟩) F hk 9 x t0 vx t1 hx _ _ (evE_sound (s := ⟨hp, gs, dr, t0, os⟩) F hk 9 y t1 vy t2 hy _ _ q))
/-- values that make nothing: the state stays -/
def evM (k : Str → Option NameKind) (m : Str → Option Value) (e : PySem.Expr) : Option Value :=
  match e with
  | .Name x _ => match evN k m x 0 with
    | some (v, _) => some v
    | none => none
  | .Constant c _ _ => match c with
    | .none => some .none
    | .bool b => some (.bool b)
    | _ => none
  | _ => none
def evLM (k : Str → Option NameKind) (m : Str → Option Value) : List PySem.Expr → Option (List Value)
  | [] => some []
  | e :: es => match evM k m e with
    | some v => match evLM k m es with
      | some vs => some (v :: vs)
      | none => none
    | none => none
theorem evN_t {k : Str → Option NameKind} {m : Str → Option Value} {x : Str} {t t0 t1 : Tok} {v : Value} (h : evN k m x t0 = some (v, t1)) : evN k m x t = some (v, t) := by
  unfold evN at h ⊢
  split at h
  · rename_i hx
    split at h
    · exact no_some h
    · rename_i hd
      split at h
      · rename_i v' hv; cases h; rfl
      · exact no_some h
  · exact no_some h
theorem evM_E {k : Str → Option NameKind} {m : Str → Option Value} {n : Nat} {e : PySem.Expr} {v : Value} {t : Tok} (h : evM k m e = some v) : evE k m (n + 1) e t = some (v, t) := by
  cases e with
  | Name x p =>
    have h : (match evN k m x 0 with
      | some (v, _) => some v
      | none => none) = some v := h
    split at h
    · rename_i v1 t1 h1
      cases h
      exact evN_t h1
    · exact no_some h
  | Constant c a b =>
    cases c with
    | none => cases h; rfl
    | bool => cases h; rfl
    | _ => exact no_some h
  | _ => exact no_some h
theorem evLM_L {k : Str → Option NameKind} {m : Str → Option Value} {n : Nat} : ∀ {es : List PySem.Expr} {vs : List Value} {t : Tok}, evLM k m es = some vs → evL k m (n + 1) es t = some (vs, t)
  | [], vs, t, h => by cases h; rfl
  | e :: es, vs, t, h => by
    simp only [evLM] at h
    split at h
    · rename_i v h1
      split at h
      · rename_i vs1 h2
        cases h
        simp only [evL, evM_E (n := n) h1, evLM_L h2]
      · exact no_some h
    · exact no_some h
theorem ev_args0 {es : List PySem.Expr} {pos : Pos} {vs : List Value} {Q : List Value → Shared → Prop} {E : Value → Shared → Prop} (F : Fr h₀ L s.heap m) (h : evLM (envX cn cs L a ccd cl).kindOf m es = some vs) (q : Q vs s) (hk : cs.kind = .function) :
    wpAny (model PP w) A (spliced (backTo pos (starEach es (envX cn cs L a ccd cl)))) Q E s := ev_args F (evLM_L h) q hk
theorem ev_callK0 {K : Frag} {p : Program} {loose : List Str} {mg mb : Str → Option Value} {fn : Str} {fp pos : Pos} {e : PySem.Expr} {es : List PySem.Expr} {f : Value} {vs : List Value} {Q E : Value → Shared → Prop}
    (F : Fr h₀ L s.heap m) (X : K.In h₀) (T : TopRead p loose mg mb h₀) (hn : nsIn K mainGlobals fn = some (some f)) (hf : keepIn K f = true) (h : evLM (envX cn cs L a ccd cl).kindOf m (e :: es) = some vs)
    (q : wpAny (model PP w) A (call f vs) Q E s) (hk : cs.kind = .function) (hx : (envX cn cs L a ccd cl).kindOf fn = some .globalImplicit) (hd : (fn == ("__debug__" : Str)) = false) :
    wpAny (model PP w) A (eval (.Call (.Name fn fp) (e :: es) [] pos) (envX cn cs L a ccd cl)) Q E s := ev_callK F X T hn hf (evLM_L h) q hk hx hd
theorem ev_callB0 {K : Frag} {p : Program} {loose : List Str} {mg mb : Str → Option Value} {fn : Str} {fp pos : Pos} {e : PySem.Expr} {es : List PySem.Expr} {f : Value} {vs : List Value} {Q E : Value → Shared → Prop}
    (F : Fr h₀ L s.heap m) (X : K.In h₀) (T : TopRead p loose mg mb h₀) (hn : nsIn K mainGlobals fn = some none) (hv : bootBuiltins fn = some f) (ne : fn ≠ "__name__") (hf : keepIn K f = true) (h : evLM (envX cn cs L a ccd cl).kindOf m (e :: es) = some vs)
    (q : wpAny (model PP w) A (call f vs) Q E s) (hk : cs.kind = .function) (hx : (envX cn cs L a ccd cl).kindOf fn = some .globalImplicit) (hd : (fn == ("__debug__" : Str)) = false) :
    wpAny (model PP w) A (eval (.Call (.Name fn fp) (e :: es) [] pos) (envX cn cs L a ccd cl)) Q E s := ev_callB F X T hn hv ne hf (evLM_L h) q hk hx hd
theorem ev_test0 {x y : PySem.Expr} {op : CmpOp} {pos : Pos} {whole : Sem Value} {vx vy : Value} {Q : Bool → Shared → Prop} {E : Value → Shared → Prop} (F : Fr h₀ L s.heap m) (hx : evM (envX cn cs L a ccd cl).kindOf m x = some vx)
    (hy : evM (envX cn cs L a ccd cl).kindOf m y = some vy) (q : wpAny (model PP w) A (compareOp op vx vy) (fun c s₃ => wpAny (model PP w) A (truthy c) Q E s₃) E s) (hk : cs.kind = .function)
    (hm : behindInMarks op y = false) : wpAny (model PP w) A (isTrue (.Compare x [op] [y] pos) (envX cn cs L a ccd cl) whole) Q E s := ev_test F (evM_E hx) (evM_E hy) q hk hm
theorem ev_sub0 {x y : PySem.Expr} {pos : Pos} {vx vy : Value} {Q E : Value → Shared → Prop} (F : Fr h₀ L s.heap m) (hx : evM (envX cn cs L a ccd cl).kindOf m x = some vx)
    (hy : evM (envX cn cs L a ccd cl).kindOf m y = some vy) (q : wpAny (model PP w) A (subscriptTail x y vx vy) Q E s) (hk : cs.kind = .function) :
    wpAny (model PP w) A (eval (.Subscript x y pos) (envX cn cs L a ccd cl)) Q E s := ev_sub F (evM_E hx) (evM_E hy) q hk
end
--@M
local macro_rules | `(tactic| walk_at $s:str) => do
  let t := Lean.Syntax.mkStrLit ("mine " ++ s.getString)
  `(tactic| k_extra $t)
local macro_rules | `(tactic| ktr_room) => `(tactic| k_extra "room")
local macro_rules | `(tactic| ktr_units) => `(tactic| k_extra "units")
example : True := by ((k_with "room" => (first | exact room1 (by assumption) (by decide) | exact room0 (by assumption) (by decide) | lia | (dsimp only [ktrTop]; lia))); trivial)
example : True := by ((k_with "units" => (first | exact unit1 (by assumption) (by decide) | exact room0 (by assumption) (by decide) | lia | (dsimp only [ktrTop]; lia))); trivial)
local macro_rules | `(tactic| k_all) => `(tactic| k_extra "all")
example : True := by ((k_with "all" => (assumption)); trivial)
local macro_rules | `(tactic| k_ne) => `(tactic| k_extra "ne")
example : True := by ((k_with "ne" => (first | exact Nat.ne_of_lt (by assumption) | exact Nat.ne_of_gt (by assumption) | exact Nat.ne_of_lt (And.left (by assumption)) | exact Nat.ne_of_gt (And.left (by assumption)) | exact Nat.ne_of_lt (And.left (And.right (by assumption))) | exact Nat.ne_of_gt (And.left (And.right (by assumption))) | exact Nat.ne_of_lt (And.left (And.right (And.right (by assumption)))) | exact Nat.ne_of_gt (And.left (And.right (And.right (by assumption)))) | exact Nat.ne_of_lt (And.left (And.right (And.right (And.right (by assumption))))) | exact Nat.ne_of_gt (And.left (And.right (And.right (And.right (by assumption))))) | exact Nat.ne_of_lt (And.left (And.right (And.right (And.right (And.right (by assumption)))))) | exact Nat.ne_of_gt (And.left (And.right (And.right (And.right (And.right (by assumption)))))) | exact Nat.ne_of_lt (And.left (And.right (And.right (And.right (And.right (And.right (by assumption))))))) | exact Nat.ne_of_gt (And.left (And.right (And.right (And.right (And.right (And.right (by assumption))))))) | exact Nat.ne_of_lt (And.left (And.right (And.right (And.right (And.right (And.right (And.right (by assumption)))))))) | exact Nat.ne_of_gt (And.left (And.right (And.right (And.right (And.right (And.right (And.right (by assumption)))))))) | exact Nat.ne_of_lt (And.left (And.right (And.right (And.right (And.right (And.right (And.right (And.right (by assumption))))))))) | exact Nat.ne_of_gt (And.left (And.right (And.right (And.right (And.right (And.right (And.right (And.right (by assumption))))))))) | exact Nat.ne_of_lt (And.left (And.right (And.right (And.right (And.right (And.right (And.right (And.right (And.right (by assumption)))))))))) | exact Nat.ne_of_gt (And.left (And.right (And.right (And.right (And.right (And.right (And.right (And.right (And.right (by assumption)))))))))))); trivial)
example : True := by ((k_with "ar" => (first | (with_reducible first | assumption | (refine pos_sub ?_ ?_ <;> assumption) | (refine tn_lt ?_ ?_ <;> assumption) | (refine ms_lt ?_ ?_ <;> assumption) | (refine le_tn ?_ ?_ <;> assumption) | (refine le_tn2 ?_ ?_ <;> assumption) | (refine tn_a ?_ <;> assumption) | (refine dr_le ?_ ?_ ?_ <;> assumption) | (refine tn_tn ?_ ?_ <;> assumption) | (refine le_s ?_ <;> assumption) | (refine Int.le_of_lt ?_ <;> assumption) | (refine Nat.le_of_lt ?_ <;> assumption) | (refine Nat.eq_zero_of_not_pos ?_ <;> assumption) | (refine Nat.pos_of_ne_zero ?_ <;> assumption) | (refine Int.not_lt.mp ?_ <;> assumption) | (refine ms_lt (lt_s _) ?_; assumption) | (refine Eq.symm (tn_s ?_); assumption) | (refine tn_s ?_; assumption) | (refine sub_run ?_; assumption) | exact And.left (by assumption) | exact And.left (And.right (by assumption)) | exact And.left (And.right (And.right (by assumption))) | exact And.left (And.right (And.right (And.right (by assumption)))) | exact And.left (And.right (And.right (And.right (And.right (by assumption))))) | exact And.left (And.right (And.right (And.right (And.right (And.right (by assumption)))))) | exact And.left (And.right (And.right (And.right (And.right (And.right (And.right (by assumption))))))) | exact And.left (And.right (And.right (And.right (And.right (And.right (And.right (And.right (by assumption)))))))) | exact And.left (And.right (And.right (And.right (And.right (And.right (And.right (And.right (And.right (by assumption))))))))) | exact And.left (And.right (And.right (And.right (And.right (And.right (And.right (And.right (And.right (And.right (by assumption)))))))))) | exact And.left (And.right (And.right (And.right (And.right (And.right (And.right (And.right (And.right (And.right (And.right (by assumption))))))))))) | exact And.left (And.right (And.right (And.right (And.right (And.right (And.right (And.right (And.right (And.right (And.right (And.right (by assumption)))))))))))) | exact And.left (And.right (And.right (And.right (And.right (And.right (And.right (And.right (And.right (And.right (And.right (And.right (And.right (by assumption))))))))))))) | exact And.left (And.right (And.right (And.right (And.right (And.right (And.right (And.right (And.right (And.right (And.right (And.right (And.right (And.right (by assumption)))))))))))))) | exact And.right (by assumption) | exact And.right (And.right (by assumption)) | exact And.right (And.right (And.right (by assumption))) | exact Nat.lt_of_lt_of_le (by assumption) (by decide) | exact Int.lt_of_lt_of_le (by assumption) (by decide) | (refine mn_lt ?_; assumption)) | (apply slash_in; (focus lia); (focus assumption); (focus assumption)) | (refine ms_lt ?_ ?_; (focus lia); (focus assumption)) | lia)); trivial)
example : True := by ((k_with "sub1" => (first | exact fun _ h => h | (refine sT ?_; k_extra "sub1") | (refine sL ?_; k_extra "sub1") | (refine sR ?_; k_extra "sub1") | assumption)); trivial)
example : True := by ((k_with "subc" => (first | exact List.Mem.head _ | (refine List.Mem.tail _ ?_; k_extra "subc") | (refine List.mem_append_left _ ?_; k_extra "subc") | (refine List.mem_append_right _ ?_; k_extra "subc") | assumption)); trivial)
example : True := by ((k_with "sub" => (first | (refine aC ?_ ?_; (focus (k_extra "subc")); (focus (k_extra "sub"))) | (refine aA ?_ ?_; (focus (k_extra "sub")); (focus (k_extra "sub"))) | exact List.forall_mem_nil _ | k_extra "sub1")); trivial)
example : True := by ((k_with "mine side" => (first | assumption | ktr_rel | k_extra "side" | k_extra "ar" | k_mem)); trivial)

example : True := by ((k_with "mine iA" => (intro D7' h7' F7' N7' l7'; (try k_lt l7'); (try k_sweep))); trivial)
example : True := by ((k_with "mine iB" => (intro h7' o7' F7' N7' hd7'; (try dsimp only at N7'))); trivial)
example : True := by ((k_with "mine iC" => (intro D7' o7' h7' F7' N7' l7' t7'; (try k_lt l7'); (try k_sweep))); trivial)
example : True := by ((k_with "mine iD" => (intro d7' h7' o7' F7' N7' l7' lo7' hd7'; (try k_lt l7'))); trivial)
local macro_rules | `(tactic| walk_at "mine iT") => `(tactic| (intro T' u1' u2' h' tk' l' F' N'; (try k_lt l')))
local macro_rules | `(tactic| walk_at "mine iL") => `(tactic| (intro fl' us' n' tl' h' tk' d' l' F' N'; (try k_lt l')))
example : True := by ((k_with "mine call ref cons nil" => ((k_here; (with_reducible show wpAny _ _ (call (Value.ref _) _ _) _ _ _); k_extra "callO"))); trivial)
example : True := by ((k_with "mine call ref cons nil" => ((k_here; (with_reducible show wpAny _ _ (call (Value.ref _) _ _) _ _ _); k_dflt (refine' Spec.useN (by k_asm) (by k_extra "specN") (by k_asm) (by k_asm) (by k_asm) (by k_asm) (by first | exact rfl | assumption) (by ktr_room) (by ktr_units) ?_ ?_); (k_whole; intro _ _ _ _ _; (first | k_extra "endN" | ((try k_sweep); (try dsimp only); (try k_fold)))); rotate_left; (k_whole; intro _ _ _ _ _ _ _; (first | k_extra "endN" | ((try k_extra "afterN"); (try k_sweep); (try dsimp only); (try k_fold)))); rotate_left))); trivial)
example : True := by ((k_with "mine call ref cons nil" => ((k_here; (with_reducible show wpAny _ _ (call (Value.ref _) _ _) _ _ _); k_dflt (refine' Spec.useL (by k_asm) (by k_extra "specL") (by k_asm) (by k_asm) (by k_asm) (by k_asm) (by first | exact rfl | assumption) (by ktr_room) (by ktr_units) ?_; k_whole); walk_at "mine iL"; (try k_sweep); (try dsimp only); (try k_fold)))); trivial)
example : True := by ((k_with "mine call ref cons nil" => ((k_here; (with_reducible show wpAny _ _ (call (Value.ref _) _ _) _ _ _); k_dflt (refine' Spec.useT (by k_asm) (by k_extra "specT") (by k_asm) (by k_asm) (by k_asm) (by k_asm) (by first | exact rfl | assumption) (by ktr_room) (by ktr_units) ?_; k_whole); walk_at "mine iT"; (try k_sweep); (try dsimp only); (try k_fold)))); trivial)
example : True := by ((k_with "mine call ref cons nil" => ((k_here; (with_reducible show wpAny _ _ (call (Value.ref _) _ _) _ _ _); k_dflt (refine' Spec.useV (by k_asm) (by k_extra "specV") (by k_asm) (by k_asm) (by k_asm) (by k_asm) (by first | exact rfl | assumption) (by ktr_room) (by ktr_units) ?_; k_whole); intro _ _ _ _; (try k_sweep); (try dsimp only); (try k_fold)))); trivial)
example : True := by ((k_with "mine call ref cons nil" => ((k_here; (with_reducible show wpAny _ _ (call (Value.ref _) _ _) _ _ _); k_dflt (refine' Spec.useI (by k_asm) (by k_extra "specI") (by k_asm) (by k_asm) (by k_asm) (by k_asm) (by first | exact rfl | assumption) (by ktr_room) (by ktr_units) ?_; k_whole); intro _ _ _ _ _; (try k_sweep); (try dsimp only); (try k_fold)))); trivial)
example : True := by ((k_with "mine call ref cons nil" => ((k_here; (with_reducible show wpAny _ _ (call (Value.ref _) _ _) _ _ _); k_extra "hold"))); trivial)
example : True := by ((k_with "mine execs cons" => ((k_here; k_unmd; (first | k_gentoks | ((try k_made); (try k_fold); refine wpAny_execs_cons ?_; k_fold))))); trivial)
example : True := by ((k_with "mine eval Call" => ((k_here; k_fold))); trivial)
example : True := by ((k_with "mine eval BinOp" => ((k_here; k_fold))); trivial)
example : True := by ((k_with "mine eval Compare" => ((k_here; k_fold))); trivial)
example : True := by ((k_with "mine eval Tuple" => ((k_here; k_fold))); trivial)
example : True := by ((k_with "mine eval BinOp" => ((k_here; k_dflt ((apply ev_val; (focus (k_asm; done)); (focus (rfl; done)); rotate_left; (focus (rfl; done)); k_whole))))); trivial)
example : True := by ((k_with "mine spliced" => ((k_here; (with_reducible show wpAny _ _ (spliced (backTo _ (starEach (_ :: _) _))) _ _ _); (fail_if_success (with_reducible show wpAny _ _ (spliced (backTo _ (starEach (PySem.Expr.Constant _ _ _ :: _) _))) _ _ _)); k_dflt (first | (apply ev_args0; (focus (k_asm; done)); (focus (rfl; done)); rotate_left; (focus (rfl; done)); k_whole) | (apply ev_args; (focus (k_asm; done)); (focus (rfl; done)); rotate_left; (focus (rfl; done)); k_whole)); (try dsimp only [List.nil_append, List.cons_append])))); trivial)
example : True := by ((k_with "mine eval Subscript" => ((k_here; k_dflt (first | (apply ev_sub0; (focus (k_asm; done)); (focus (rfl; done)); (focus (rfl; done)); rotate_left; (focus (rfl; done)); k_whole) | (apply ev_sub; (focus (k_asm; done)); (focus (rfl; done)); (focus (rfl; done)); rotate_left; (focus (rfl; done)); k_whole))))); trivial)
example : True := by ((k_with "mine isTrue Compare" => ((k_here; k_dflt (first | (apply ev_test0; (focus (k_asm; done)); (focus (rfl; done)); (focus (rfl; done)); rotate_left; (focus (rfl; done)); (focus (with_unfolding_all rfl; done)); k_whole) | (apply ev_test; (focus (k_asm; done)); (focus (rfl; done)); (focus (rfl; done)); rotate_left; (focus (rfl; done)); (focus (with_unfolding_all rfl; done)); k_whole))))); trivial)
example : True := by ((k_with "mine eval Call" => ((k_here; k_dflt (first | (apply ev_callB0; (focus (k_asm; done)); (focus (k_asm; done)); (focus (k_asm; done)); (focus (k_is; done)); (focus (boot_fast; done)); (focus (decide; done)); (focus (k_is; done)); (focus (rfl; done)); rotate_left; (focus (rfl; done)); (focus (rfl; done)); (focus (decide; done)); k_whole) | (apply ev_callB; (focus (k_asm; done)); (focus (k_asm; done)); (focus (k_asm; done)); (focus (k_is; done)); (focus (boot_fast; done)); (focus (decide; done)); (focus (k_is; done)); (focus (rfl; done)); rotate_left; (focus (rfl; done)); (focus (rfl; done)); (focus (decide; done)); k_whole))))); trivial)
example : True := by ((k_with "mine eval Call" => ((k_here; k_dflt (first | (apply ev_callK0; (focus (k_asm; done)); (focus (k_asm; done)); (focus (k_asm; done)); (focus (k_is; done)); (focus (k_is; done)); (focus (rfl; done)); rotate_left; (focus (rfl; done)); (focus (rfl; done)); (focus (decide; done)); k_whole) | (apply ev_callK; (focus (k_asm; done)); (focus (k_asm; done)); (focus (k_asm; done)); (focus (k_is; done)); (focus (k_is; done)); (focus (rfl; done)); rotate_left; (focus (rfl; done)); (focus (rfl; done)); (focus (decide; done)); k_whole))))); trivial)
example : True := by ((k_with "mine storeName" => ((k_here; k_dflt (apply storeXl; (focus (k_asm; done)); (focus (k_asm; done)); rotate_left; (focus (rfl; done)); (focus (rfl; done)); k_whole; intro _ mq _ _; (try k_sweep))))); trivial)
--@E
example : True := by
  w_top off
  trivial
/-! ## the walk's own lines; _law_zero -/
theorem unr_end1 {h₀ : Heap} {L : Addr} {s₁ : Shared} {I : Addr} {it : Obj} {news : Led} {rest : (Str → Option Value) → List (Addr × Obj) → Prop} {h' : Heap} {tk : Nat} {m' : Str → Option Value}
    (F : Fr h₀ L h' m') (N : News h₀ L h' ((I, it) :: news)) (hn : ∀ p ∈ news, p.1 < I) (r : rest m' news) : UnrEndW h₀ L s₁ [(I, it)] rest { s₁ with heap := h', toks := tk } :=
  ⟨h', tk, m', news, rfl, F, N, fun p hp q hq => by rw [List.mem_singleton.mp hq]; exact Nat.ne_of_lt (hn p hp), r⟩
--@M
local macro_rules | `(tactic| k_room) => `(tactic| ktr_room)
local macro_rules | `(tactic| ktr_rel) => `(tactic| first | assumption | exact TL.mono (by assumption) (by first | exact fun _ h => h | (intro p hp; kcf_m)) | exact ⟨_, _, List.Mem.head _, IntsAre.cons _ _ IntsAre.nil⟩ | exact ⟨_, _, List.Mem.head _, IntsAre.nil⟩)
example : True := by ((k_with "mine call builtin:len cons nil" => ((k_here; k_dflt (refine' tl_len (by k_asm) (by ktr_rel) (by k_extra "ar") ?_; k_whole)))); trivial)
example : True := by ((k_with "mine subscriptTail Name Name ref int" => ((k_here; k_dflt (refine' tl_item (by k_asm) (by ktr_rel) (by first | k_extra "ar" | (rw [Int.fdiv_eq_ediv_of_nonneg _ (by decide)]; k_extra "ar")) (by first | k_extra "ar" | (rw [Int.fdiv_eq_ediv_of_nonneg _ (by decide)]; k_extra "ar")) (by k_extra "ar") ?_ (by with_unfolding_all rfl); k_whole); intro _))); trivial)
example : True := by ((k_with "mine subscriptTail Name BinOp ref int" => ((k_here; k_dflt (refine' tl_item (by k_asm) (by ktr_rel) (by k_extra "ar") (by k_extra "ar") (by k_extra "ar") ?_ (by with_unfolding_all rfl); k_whole); intro _))); trivial)
example : True := by ((k_with "mine subscriptTail Name Constant ref int" => ((k_here; k_dflt (refine' tl_item (by k_asm) (by ktr_rel) (by k_extra "ar") (by k_extra "ar") (by k_extra "ar") ?_ (by with_unfolding_all rfl); k_whole); intro _))); trivial)
example : True := by ((k_with "mine UnrEndW cons" => ((refine unr_end1 (by assumption) (by assumption) (by assumption) ⟨trivial, ?_⟩))); trivial)
example : True := by ((k_with "mine exec While Compare cons nil" => ((refine hold ?_))); trivial)
example : True := by ((k_with "mine exec While BoolOp cons nil" => ((refine hold ?_))); trivial)
example : True := by ((k_with "mine KswEnd" => ((refine hold ?_))); trivial)
example : True := by ((k_with "mine exec Raise some none" => ((exfalso; first | k_extra "ar" | contradiction))); trivial)
--@E
section
local macro_rules | `(tactic| walk_at "exec For Name Name cons nil") => `(tactic| (k_here; (rename Fr _ _ _ _ => lF'); (with_unfolding_all refine' For_turnsG lF' ?g ?_; (case g => exact rfl); k_whole)))
def zeroAt (ns : List Int) (i : Int) : Option Int :=
  if i < (ns.length : Int) then (if 48 ≤ ns.getD i.toNat 0 ∧ ns.getD i.toNat 0 < 58 then some 48 else if 1632 ≤ ns.getD i.toNat 0 ∧ ns.getD i.toNat 0 < 1642 then some 1632 else none) else none
theorem zeroAt_48 {ns : List Int} {i : Int} (h : i < (ns.length : Int)) (a : 48 ≤ ns.getD i.toNat 0) (b : ns.getD i.toNat 0 < 58) : zeroAt ns i = some 48 := by
  unfold zeroAt; rw [if_pos h, if_pos ⟨a, b⟩]
theorem zeroAt_1632 {ns : List Int} {i : Int} (h : i < (ns.length : Int)) (a : 1632 ≤ ns.getD i.toNat 0) (b : ns.getD i.toNat 0 < 1642) : zeroAt ns i = some 1632 := by
  unfold zeroAt; rw [if_pos h, if_neg (by k_extra "ar"), if_pos ⟨a, b⟩]
theorem zeroAt_none {ns : List Int} {i : Int} (h : i < (ns.length : Int) → ¬(48 ≤ ns.getD i.toNat 0 ∧ ns.getD i.toNat 0 < 58) ∧ ¬(1632 ≤ ns.getD i.toNat 0 ∧ ns.getD i.toNat 0 < 1642)) : zeroAt ns i = none := by
  unfold zeroAt
  by_cases hi : i < (ns.length : Int)
  · rw [if_pos hi, if_neg (h hi).1, if_neg (h hi).2]
  · rw [if_neg hi]
theorem law_zero_c (w : World) (news : Led) (l : Addr) (ns : List Int) (i : Int) (ti : Tok) (hl : TL news l ns) (hn : ns.length < 100) (h0 : 0 ≤ i) (h1 : i < 200) :
    Spec w 320 [.ref l, .int i ti] 1 news (fun v nx => nx = news ∧ match zeroAt ns i with | some z => ∃ t, v = .int z t | none => v = .none) := by
  intro mean mg mb dp un gd cn cs a ccd cl outer A₀ base h₀ L m s Q E B F X N T hk hd hu ret
  refine wpAny_call ?_
  k_dflt ktr_enter
  rename Fr _ _ _ _ => F0
  have F1 : Fr _ _ _ (fun y => List.lookup y [(Str.ofString "at", Value.int i ti), (Str.ofString "text", Value.ref l)]) := F0
  clear F0
  k_steps
  all_goals (refine ret _ _ _ _ ⟨rfl, ?_⟩ (by assumption) (by first | assumption | exact cb_drop (by assumption) (by first | exact fun _ h => h | (intro p hp; kcf_m))))
  all_goals first
    | (rw [zeroAt_48 (by k_extra "ar") (by k_extra "ar") (by k_extra "ar")]; exact ⟨_, rfl⟩)
    | (rw [zeroAt_1632 (by k_extra "ar") (by k_extra "ar") (by k_extra "ar")]; exact ⟨_, rfl⟩)
    | (rw [zeroAt_none (by k_extra "ar")])
end
example : True := by first | walk1 | trivial
example : True := by
  w_top off
  trivial
/-! ## place_by_half -/
/-- how many of the list are at most x -/
def cntLE (ns : List Int) (x : Int) : Nat := (ns.filter (fun y => decide (y ≤ x))).length
theorem cntLE_eq {ns : List Int} {x : Int} {k : Nat} (hk : k ≤ ns.length) (lo : ∀ j (h : j < ns.length), j < k → ns[j] ≤ x) (hi : ∀ j (h : j < ns.length), k ≤ j → x < ns[j]) : cntLE ns x = k := by
  unfold cntLE
  rw [← List.take_append_drop k ns, List.filter_append, List.length_append]
  have h1 : (ns.take k).filter (fun y => decide (y ≤ x)) = ns.take k := by
    rw [List.filter_eq_self]
    intro a ha
    obtain ⟨j, hj, rfl⟩ := List.mem_iff_getElem.mp ha
    rw [List.length_take] at hj
    rw [List.getElem_take]
    exact decide_eq_true (lo j (by k_extra "ar") (by k_extra "ar"))
  have h2 : (ns.drop k).filter (fun y => decide (y ≤ x)) = [] := by
    rw [List.filter_eq_nil_iff]
    intro a ha
    obtain ⟨j, hj, rfl⟩ := List.mem_iff_getElem.mp ha
    rw [List.length_drop] at hj
    rw [List.getElem_drop]
    have := hi (k + j) (by k_extra "ar") (by k_extra "ar")
    simp only [decide_eq_true_eq]; k_extra "ar"
  rw [h1, h2, List.length_take]; simp; k_extra "ar"
theorem getD_at {ns : List Int} {i : Int} (j : Nat) (h : j < ns.length) (e : i.toNat = j) : ns.getD i.toNat 0 = ns[j] := by
  subst e; simp [List.getD, h]
theorem asc {ns : List Int} (hp : ns.Pairwise (· < ·)) {i j : Nat} (hj : j < ns.length) (h : i ≤ j) : ns[i]'(by k_extra "ar") ≤ ns[j] := by
  rcases Nat.lt_or_eq_of_le h with h | h
  · exact Int.le_of_lt (List.pairwise_iff_getElem.mp hp i j (by k_extra "ar") hj h)
  · subst h; exact Int.le_refl _

theorem half_in {lo hi : Int} (h : lo < hi) : lo ≤ (lo + hi) / 2 ∧ (lo + hi) / 2 < hi := ⟨by lia, by lia⟩
theorem place_c (w : World) (news : Led) (l : Addr) (ns : List Int) (x : Int) (tx : Tok) (hl : TL news l ns) (hn : ns.length < 1000) (hp : ns.Pairwise (· < ·)) :
    Spec w 61 [.ref l, .int x tx] 1 news (fun v nx => nx = news ∧ ∃ t, v = .int ((cntLE ns x : Nat) - 1 : Int) t) := by
  intro mean mg mb dp un gd cn cs a ccd cl outer A₀ base h₀ L m s Q E B F X N T hk hd hu ret
  refine wpAny_call ?_
  k_dflt ktr_enter
  rename Fr _ _ _ _ => F0
  have F1 : Fr _ _ _ (fun y => List.lookup y [(Str.ofString "number", Value.int x tx), (Str.ofString "firsts", Value.ref l)]) := F0
  clear F0
  k_steps
  unfold Hold
  rename Fr _ _ _ _ => lF'
  rename News _ _ _ _ => lN'
  k_dflt (refine ksw_while (σ := Int × Tok × Int × Tok) (fun _ => news) (fun c => [(Str.ofString "low", .int c.1 c.2.1), (Str.ofString "high", .int c.2.2.1 c.2.2.2)]) (fun _ => True) [Str.ofString "middle"] (fun c => 0 ≤ c.1 ∧ c.1 ≤ c.2.2.1 ∧ c.2.2.1 ≤ ns.length ∧ (∀ j (h : j < ns.length), (j : Int) < c.1 → ns[j] ≤ x) ∧ (∀ j (h : j < ns.length), c.2.2.1 ≤ (j : Int) → x < ns[j])) (fun c => (c.2.2.1 - c.1).toNat) (0, _, (ns.length : Int), _) lF' lN' trivial (List.forall_mem_cons.mpr ⟨rfl, List.forall_mem_cons.mpr ⟨rfl, List.forall_mem_nil _⟩⟩) ⟨Int.le_refl _, Int.natCast_nonneg _, Int.le_refl _, fun j h q => (Int.not_lt.mpr (Int.natCast_nonneg j) q).elim, fun j h q => (Nat.not_le.mpr h (Int.ofNat_le.mp q)).elim⟩ ?_)
  rintro ⟨lo, tlo, hi, thi⟩ u h tk - ⟨p1, p2, p3, p4, p5⟩ F' N'
  dsimp only at p1 p2 p3 p4 p5 F' ⊢
  simp only [kstB] at F'
  clear lF' lN'
  k_fold
  k_steps
  all_goals (try unfold Hold)
  · rename ns.getD _ 0 ≤ x => hle
    rename lo < hi => hlt
    have e := Int.fdiv_eq_ediv_of_nonneg (lo + hi) (show (0:Int) ≤ 2 by decide)
    refine ksw_end (_, _, _, _) (by assumption) (by assumption) (fun _ h => h) trivial (List.forall_mem_cons.mpr ⟨rfl, List.forall_mem_cons.mpr ⟨rfl, List.forall_mem_nil _⟩⟩) (by (try dsimp +zetaDelta only); ksw_same) ?_ ?_
    · dsimp only
      rw [e] at hle ⊢
      obtain ⟨m1, m2⟩ := half_in hlt
      generalize (lo + hi) / 2 = md at m1 m2 hle ⊢
      have m0 := Int.le_trans p1 m1
      have ml := tn_lt m0 (Int.lt_of_lt_of_le m2 p3)
      refine ⟨Int.le_add_one m0, m2, p3, fun j h q => ?_, p5⟩
      rw [getD_at md.toNat ml rfl] at hle
      exact Int.le_trans (asc hp ml ((Int.le_toNat m0).mpr (Int.lt_add_one_iff.mp q))) hle
    · dsimp only; rw [e]; exact ms_lt (Int.lt_add_one_iff.mpr (half_in hlt).1) hlt
  · rename ¬ ns.getD _ 0 ≤ x => hle
    rename lo < hi => hlt
    have e := Int.fdiv_eq_ediv_of_nonneg (lo + hi) (show (0:Int) ≤ 2 by decide)
    refine ksw_end (lo, _, (lo + hi).fdiv 2, _) (by assumption) (by assumption) (fun _ h => h) trivial (List.forall_mem_cons.mpr ⟨rfl, List.forall_mem_cons.mpr ⟨rfl, List.forall_mem_nil _⟩⟩) (by (try dsimp +zetaDelta only); ksw_same) ?_ ?_
    · dsimp only
      rw [e] at hle ⊢
      obtain ⟨m1, m2⟩ := half_in hlt
      generalize (lo + hi) / 2 = md at m1 m2 hle ⊢
      refine ⟨p1, m1, Int.le_trans (Int.le_of_lt m2) p3, p4, fun j h q => ?_⟩
      rw [getD_at md.toNat (tn_lt (Int.le_trans p1 m1) (Int.lt_of_lt_of_le m2 p3)) rfl] at hle
      exact Int.lt_of_lt_of_le (Int.not_le.mp hle) (asc hp h (Int.toNat_le.mpr q))
    · dsimp only; rw [e]; exact (Int.toNat_lt_toNat (Int.sub_pos_of_lt hlt)).mpr (Int.sub_lt_sub_right (half_in hlt).2 lo)
  · refine ret _ _ _ _ ⟨rfl, ?_⟩ (by assumption) (by assumption)
    have e : cntLE ns x = lo.toNat := cntLE_eq (Int.toNat_le.mpr (Int.le_trans p2 p3)) (fun j h q => p4 j h (Int.lt_toNat.mp q)) (fun j h q => p5 j h (Int.le_trans (Int.not_lt.mp (by assumption)) (Int.toNat_le.mp q)))
    exact ⟨_, by rw [e, Int.toNat_of_nonneg p1]⟩
--@M
example : True := by ((k_with "specI" => (apply place_c; all_goals (walk_at "mine side"))); trivial)
--@E
example : True := by
  w_top off
  trivial
/-! ## the database: RangeMap.get, Data.get -/
inductive IsRM (news : Led) (x : Addr) (st : List Int) (vs : List Dat) : Prop
  | mk (d ls lv : Addr) (n k : Nat) (h1 h2 h3 : Int) (t1 t2 t3 : Tok) (v0 : Value) (us : List Value) (z1 : (x, instObj 230 d) ∈ news) (z2 : (d, dictOf [⟨h1, .str "default" t1, v0⟩, ⟨h2, .str "starts" t2, .ref ls⟩, ⟨h3, .str "values" t3, .ref lv⟩] n) ∈ news) (z3 : TL news ls st) (z4 : (lv, listOf us.toArray k) ∈ news) (z5 : DatAll news us vs) : IsRM news x st vs
theorem IsRM.mono {news news' : Led} {x : Addr} {st : List Int} {vs : List Dat} (h : IsRM news x st vs) (s : ∀ p ∈ news, p ∈ news') : IsRM news' x st vs :=
  let ⟨d, ls, lv, n, k, h1, h2, h3, t1, t2, t3, v0, us, a, b, c, e, f⟩ := h
  ⟨d, ls, lv, n, k, h1, h2, h3, t1, t2, t3, v0, us, s _ a, s _ b, c.mono s, s _ e, f.mono s⟩
inductive IsData (w : World) (news : Led) (x : Addr) (sa : List Int) (va : List Dat) (sb : List Int) (vb : List Dat) : Prop
  | mk (dx mp r1 r2 : Addr) (n : Nat) (h1 h2 h3 h4 : Int) (t1 t2 t3 t4 : Tok) (v1 v3 v4 : Value) (om : Obj) (z1 : (x, instObj 279 dx) ∈ news) (z2 : (dx, dictOf [⟨h1, .str "defaults" t1, v1⟩, ⟨h2, .str "maps" t2, .ref mp⟩, ⟨h3, .str "properties" t3, v3⟩, ⟨h4, .str "words" t4, v4⟩] n) ∈ news) (z3 : (mp, om) ∈ news) (z4 : om.IsDictOf (PySem.strKind PP w) [(Str.ofString "nt", .ref r1), (Str.ofString "nv", .ref r2)]) (z5 : (mp == sysModules) = false) (z6 : IsRM news r1 sa va) (z7 : IsRM news r2 sb vb) : IsData w news x sa va sb vb
theorem IsData.mono {w : World} {news news' : Led} {x : Addr} {sa sb : List Int} {va vb : List Dat} (h : IsData w news x sa va sb vb) (s : ∀ p ∈ news, p ∈ news') : IsData w news' x sa va sb vb :=
  let ⟨dx, mp, r1, r2, n, h1, h2, h3, h4, t1, t2, t3, t4, v1, v3, v4, om, a, b, c, e, f, g, i⟩ := h
  ⟨dx, mp, r1, r2, n, h1, h2, h3, h4, t1, t2, t3, t4, v1, v3, v4, om, s _ a, s _ b, s _ c, e, f, g.mono s, i.mono s⟩

example : True := by ((k_with "side" => (exact IsRM.mono (by assumption) (by first | exact fun _ h => h | (intro p hp; kcf_m)))); trivial)
example : True := by ((k_with "side" => (exact IsData.mono (by assumption) (by first | exact fun _ h => h | (intro p hp; kcf_m)))); trivial)
section
example : True := by ((k_with "mine subscriptTail Attribute Name Call ref int" => ((k_here; k_dflt (refine' kd_item (by k_asm) (by k_mem) (by assumption) (by k_extra "ar") (by k_extra "ar") (by k_extra "ar") ?_ (by with_unfolding_all rfl); k_whole); intro _ _ _ _ _))); trivial)
theorem rm_get_c (w : World) (news : Led) (x : Addr) (st : List Int) (vs : List Dat) (c : Int) (tc : Tok) (hx : IsRM news x st vs) (hn : st.length < 1000) (hp : st.Pairwise (· < ·)) (hc : 0 < cntLE st c) (hv : cntLE st c ≤ vs.length) (hz : vs.length < 1000) :
    Spec w 206 [.ref x, .int c tc] 2 news (fun v nx => nx = news ∧ ∃ d, vs[cntLE st c - 1]? = some d ∧ DatIn news v d) := by
  intro mean mg mb dp un gd cn cs a ccd cl outer A₀ base h₀ L m s Q E B F X N T hk hd hu ret
  obtain ⟨d, ls, lv, n, k, h1, h2, h3, t1, t2, t3, v0, us, m1, m2, m3, m4, m5⟩ := hx
  refine wpAny_call ?_
  k_dflt ktr_enter
  rename Fr _ _ _ _ => F0
  have F1 : Fr _ _ _ (fun y => List.lookup y [(Str.ofString "code", Value.int c tc), (Str.ofString "self", Value.ref x)]) := F0
  clear F0
  k_steps
  rename vs[_]? = some _ => hk1
  refine ret _ _ _ _ ⟨rfl, _, ?_, by assumption⟩ (by assumption) (by assumption)
  rw [← hk1]; exact congrArg (fun q => vs[q]?) (Int.toNat_sub _ 1).symm
end
--@M
example : True := by ((k_with "callO" => ((with_reducible show wpAny _ _ (call (Value.ref 206) _ _) _ _ _); k_dflt (apply Spec.use; (focus (k_asm; done)); (focus (k_asm; done)); (focus (k_asm; done)); (focus (k_asm; done)); (focus (k_asm; done)); (focus ((first | exact rfl | assumption); done)); (focus ((apply rm_get_c; all_goals (walk_at "mine side")); done)); (focus (ktr_room; done)); (focus (ktr_units; done)); k_whole); ((intro vz' nxz' hz' tkz' Oz' Fz' Nz'; (obtain ⟨e1qz, d', hk', hD'⟩ := Oz'); subst nxz'); (try k_sweep); (try dsimp only); (try k_fold)))); trivial)
--@E
section
local macro_rules | `(tactic| walk_at $s:str) => do
  let t := Lean.Syntax.mkStrLit ("sc32 " ++ s.getString)
  `(tactic| k_extra $t)
example : True := by ((k_with "sc32 compareOp In str ref" => ((k_here; k_dflt (refine kda_in (knd := PySem.strKind _ _) (by k_asm) (by k_mem) (by k_asm) (by k_asm) (strKind_is _ _ _ _) true (by rfl) ?_)))); trivial)
example : True := by ((k_with "sc32 subscriptTail Name Name ref str" => ((k_here; k_dflt (refine kda_item (knd := PySem.strKind _ _) (by k_asm) (by k_mem) (by k_asm) (strKind_is _ _ _ _) (by rfl) ?_); (try dsimp only)))); trivial)
theorem data_get_nt_c (w : World) (news : Led) (x : Addr) (sa sb : List Int) (va vb : List Dat) (c : Int) (tn tc : Tok) (hx : IsData w news x sa va sb vb) (hn : sa.length < 1000) (hp : sa.Pairwise (· < ·)) (hc : 0 < cntLE sa c) (hv : cntLE sa c ≤ va.length) (hz : va.length < 1000) :
    Spec w 269 [.ref x, .str (Str.ofString "nt") tn, .int c tc] 3 news (fun v nx => nx = news ∧ ∃ d, va[cntLE sa c - 1]? = some d ∧ DatIn news v d) := by
  intro mean mg mb dp un gd cn cs a ccd cl outer A₀ base h₀ L m s Q E B F X N T hk hd hu ret
  obtain ⟨dx, mp, r1, r2, n, h1, h2, h3, h4, t1, t2, t3, t4, v1, v3, v4, om, m1, m2, m3, m4, m5, m6, m7⟩ := hx
  have m6' := m6
  obtain ⟨d6, ls6, lv6, n6, k6, h16, h26, h36, t16, t26, t36, v06, us6, m61, m62, -⟩ := m6'
  refine wpAny_call ?_
  k_dflt ktr_enter
  rename Fr _ _ _ _ => F0
  have F1 : Fr _ _ _ (fun y => List.lookup y [(Str.ofString "code", Value.int c tc), (Str.ofString "name", Value.str (Str.ofString "nt") tn), (Str.ofString "self", Value.ref x)]) := F0
  clear F0
  k_steps
  rename va[_]? = some _ => hk1
  exact ret _ _ _ _ ⟨rfl, _, hk1, by assumption⟩ (by assumption) (by assumption)
theorem data_get_nv_c (w : World) (news : Led) (x : Addr) (sa sb : List Int) (va vb : List Dat) (c : Int) (tn tc : Tok) (hx : IsData w news x sa va sb vb) (hn : sb.length < 1000) (hp : sb.Pairwise (· < ·)) (hc : 0 < cntLE sb c) (hv : cntLE sb c ≤ vb.length) (hz : vb.length < 1000) :
    Spec w 269 [.ref x, .str (Str.ofString "nv") tn, .int c tc] 3 news (fun v nx => nx = news ∧ ∃ d, vb[cntLE sb c - 1]? = some d ∧ DatIn news v d) := by
  intro mean mg mb dp un gd cn cs a ccd cl outer A₀ base h₀ L m s Q E B F X N T hk hd hu ret
  obtain ⟨dx, mp, r1, r2, n, h1, h2, h3, h4, t1, t2, t3, t4, v1, v3, v4, om, m1, m2, m3, m4, m5, m6, m7⟩ := hx
  have m6' := m7
  obtain ⟨d6, ls6, lv6, n6, k6, h16, h26, h36, t16, t26, t36, v06, us6, m61, m62, -⟩ := m6'
  refine wpAny_call ?_
  k_dflt ktr_enter
  rename Fr _ _ _ _ => F0
  have F1 : Fr _ _ _ (fun y => List.lookup y [(Str.ofString "code", Value.int c tc), (Str.ofString "name", Value.str (Str.ofString "nv") tn), (Str.ofString "self", Value.ref x)]) := F0
  clear F0
  k_steps
  rename vb[_]? = some _ => hk1
  exact ret _ _ _ _ ⟨rfl, _, hk1, by assumption⟩ (by assumption) (by assumption)
end
example : True := by first | walk1 | trivial
example : True := by
  w_top off
  trivial
/-! ## the database as it stands; the codes -/
theorem Spec.mono {w : World} {f : Addr} {vs : List Value} {r : Nat} {news : Led} {Out Out' : Value → Led → Prop} (S : Spec w f vs r news Out) (h : ∀ v nx, Out v nx → Out' v nx) : Spec w f vs r news Out' :=
  fun mean mg mb dp un gd cn cs a ccd cl outer A₀ base h₀ L m s Q E B F X N T hk hd hu ret =>
    S mean mg mb dp un gd cn cs a ccd cl outer A₀ base h₀ L m s Q E B F X N T hk hd hu fun v nx h' tk' o => ret v nx h' tk' (h v nx o)
def Alpha : List Int := [48, 49, 50, 51, 52, 53, 54, 55, 56, 57, 1632, 1633, 1634, 1635, 1636, 1637, 1638, 1639, 1640, 1641, 8260, 189, 8533, 3884, 8548, 178, 12295, 3891, 8542, 97]
abbrev sDe : Dat := .str (Str.ofString "de")
abbrev sNu : Dat := .str (Str.ofString "nu")
abbrev dPair (a b : Int) : Dat := .tuple [.int a, .int b]
def ntS : List Int := [0, 48, 58, 178, 179, 189, 190, 1632, 1642, 3884, 3885, 3891, 3892, 8533, 8534, 8542, 8543, 8548, 8549, 12295, 12296]
def ntV : List Dat := [.none, sDe, .none, sNu, .none, sNu, .none, sDe, .none, sNu, .none, sNu, .none, sNu, .none, sNu, .none, sNu, .none, sNu, .none]
def nvS : List Int := [0, 48, 49, 50, 51, 52, 53, 54, 55, 56, 57, 58, 178, 179, 189, 190, 1632, 1633, 1634, 1635, 1636, 1637, 1638, 1639, 1640, 1641, 1642, 3884, 3885, 3891, 3892, 8533, 8534, 8542, 8543, 8548, 8549, 12295, 12296]
def nvV : List Dat := [.none, dPair 0 1, dPair 1 1, dPair 2 1, dPair 3 1, dPair 4 1, dPair 5 1, dPair 6 1, dPair 7 1, dPair 8 1, dPair 9 1, .none, dPair 2 1, .none, dPair 1 2, .none, dPair 0 1, dPair 1 1, dPair 2 1, dPair 3 1, dPair 4 1, dPair 5 1, dPair 6 1, dPair 7 1, dPair 8 1, dPair 9 1, .none, dPair 7 2, .none, dPair (-1) 2, .none, dPair 1 5, .none, dPair 7 8, .none, dPair 5 1, .none, dPair 0 1, .none]
abbrev IsD (w : World) (news : Led) (x : Addr) : Prop := IsData w news x ntS ntV nvS nvV
/-- the row a digit stands in -/
def zof (c : Int) : Option Int := if 48 ≤ c ∧ c < 58 then some 48 else if 1632 ≤ c ∧ c < 1642 then some 1632 else none
/-- a sign's number -/
def sgn (c : Int) : Option (Int × Int) :=
  if c = 189 then some (1, 2) else if c = 8533 then some (1, 5) else if c = 3884 then some (7, 2) else if c = 8548 then some (5, 1) else if c = 178 then some (2, 1)
  else if c = 12295 then some (0, 1) else if c = 3891 then some (-1, 2) else if c = 8542 then some (7, 8) else none
def nvOf (c : Int) : Option (Int × Int) := match zof c with | some z => some (c - z, 1) | none => sgn c
theorem alpha_all {P : Int → Prop} (h48 : P 48) (h49 : P 49) (h50 : P 50) (h51 : P 51) (h52 : P 52) (h53 : P 53) (h54 : P 54) (h55 : P 55) (h56 : P 56) (h57 : P 57) (k0 : P 1632) (k1 : P 1633) (k2 : P 1634) (k3 : P 1635) (k4 : P 1636) (k5 : P 1637) (k6 : P 1638) (k7 : P 1639) (k8 : P 1640) (k9 : P 1641)
    (s : P 8260) (a : P 189) (b : P 8533) (d : P 3884) (e : P 8548) (f : P 178) (g : P 12295) (i : P 3891) (j : P 8542) (l : P 97) : ∀ c ∈ Alpha, P c := by
  unfold Alpha
  repeat (refine List.forall_mem_cons.mpr ⟨by assumption, ?_⟩)
  exact List.forall_mem_nil _
theorem nt_at : ∀ c ∈ Alpha, 0 < cntLE ntS c ∧ cntLE ntS c ≤ ntV.length ∧ ntV[cntLE ntS c - 1]? = some (if (zof c).isSome then sDe else if (sgn c).isSome then sNu else .none) :=
  alpha_all ⟨by decide, by decide, rfl⟩ ⟨by decide, by decide, rfl⟩ ⟨by decide, by decide, rfl⟩ ⟨by decide, by decide, rfl⟩ ⟨by decide, by decide, rfl⟩ ⟨by decide, by decide, rfl⟩ ⟨by decide, by decide, rfl⟩ ⟨by decide, by decide, rfl⟩ ⟨by decide, by decide, rfl⟩ ⟨by decide, by decide, rfl⟩ ⟨by decide, by decide, rfl⟩ ⟨by decide, by decide, rfl⟩ ⟨by decide, by decide, rfl⟩ ⟨by decide, by decide, rfl⟩ ⟨by decide, by decide, rfl⟩ ⟨by decide, by decide, rfl⟩ ⟨by decide, by decide, rfl⟩ ⟨by decide, by decide, rfl⟩ ⟨by decide, by decide, rfl⟩ ⟨by decide, by decide, rfl⟩ ⟨by decide, by decide, rfl⟩ ⟨by decide, by decide, rfl⟩ ⟨by decide, by decide, rfl⟩ ⟨by decide, by decide, rfl⟩ ⟨by decide, by decide, rfl⟩ ⟨by decide, by decide, rfl⟩ ⟨by decide, by decide, rfl⟩ ⟨by decide, by decide, rfl⟩ ⟨by decide, by decide, rfl⟩ ⟨by decide, by decide, rfl⟩
theorem nv_at : ∀ c ∈ Alpha, 0 < cntLE nvS c ∧ cntLE nvS c ≤ nvV.length ∧ nvV[cntLE nvS c - 1]? = some (match nvOf c with | some p => dPair p.1 p.2 | none => .none) :=
  alpha_all ⟨by decide, by decide, rfl⟩ ⟨by decide, by decide, rfl⟩ ⟨by decide, by decide, rfl⟩ ⟨by decide, by decide, rfl⟩ ⟨by decide, by decide, rfl⟩ ⟨by decide, by decide, rfl⟩ ⟨by decide, by decide, rfl⟩ ⟨by decide, by decide, rfl⟩ ⟨by decide, by decide, rfl⟩ ⟨by decide, by decide, rfl⟩ ⟨by decide, by decide, rfl⟩ ⟨by decide, by decide, rfl⟩ ⟨by decide, by decide, rfl⟩ ⟨by decide, by decide, rfl⟩ ⟨by decide, by decide, rfl⟩ ⟨by decide, by decide, rfl⟩ ⟨by decide, by decide, rfl⟩ ⟨by decide, by decide, rfl⟩ ⟨by decide, by decide, rfl⟩ ⟨by decide, by decide, rfl⟩ ⟨by decide, by decide, rfl⟩ ⟨by decide, by decide, rfl⟩ ⟨by decide, by decide, rfl⟩ ⟨by decide, by decide, rfl⟩ ⟨by decide, by decide, rfl⟩ ⟨by decide, by decide, rfl⟩ ⟨by decide, by decide, rfl⟩ ⟨by decide, by decide, rfl⟩ ⟨by decide, by decide, rfl⟩ ⟨by decide, by decide, rfl⟩
theorem ntS_asc : ntS.Pairwise (· < ·) := by decide
theorem nvS_asc : nvS.Pairwise (· < ·) := by decide
theorem get_nt_c (w : World) (news : Led) (x : Addr) (c : Int) (tn tc : Tok) (hx : IsD w news x) (hc : c ∈ Alpha) :
    Spec w 269 [.ref x, .str (Str.ofString "nt") tn, .int c tc] 3 news (fun v nx => nx = news ∧ (((zof c).isSome = true ∧ ∃ t, v = .str (Str.ofString "de") t) ∨ (zof c = none ∧ (v = .none ∨ ∃ t, v = .str (Str.ofString "nu") t)))) := by
  obtain ⟨a1, a2, a3⟩ := nt_at c hc
  refine (data_get_nt_c w news x ntS nvS ntV nvV c tn tc hx (by decide) ntS_asc a1 a2 (by decide)).mono ?_
  rintro v nx ⟨e, d, hd, hv⟩
  refine ⟨e, ?_⟩
  rw [a3] at hd
  have hd := Option.some.inj hd
  subst hd
  cases hz : zof c with
  | some z =>
    rw [hz] at hv
    simp only [Option.isSome_some, if_true] at hv
    cases hv with
    | str _ t => exact .inl ⟨rfl, t, rfl⟩
  | none =>
    rw [hz] at hv
    simp only [Option.isSome_none, Bool.false_eq_true, if_false] at hv
    refine .inr ⟨rfl, ?_⟩
    split at hv
    · cases hv with
      | str _ t => exact .inr ⟨t, rfl⟩
    · cases hv with
      | none => exact .inl rfl
inductive TupIn (base : Led) (ds : List Dat) : Value → Prop
  | mk (T : Addr) (vs : List Value) (n : Nat) (m : (T, ({ cls := .type "tuple", data := .seq vs.toArray n } : Obj)) ∈ base) (a : DatAll base vs ds) : TupIn base ds (.ref T)
inductive ConsIn (base : Led) (d : Dat) (ds : List Dat) : List Value → Prop
  | mk (v : Value) (vs : List Value) (a : DatIn base v d) (b : DatAll base vs ds) : ConsIn base d ds (v :: vs)
inductive IntIn (z : Int) : Value → Prop
  | mk (t : Tok) : IntIn z (.int z t)
theorem tup_in {base : Led} {v : Value} {ds : List Dat} (h : DatIn base v (.tuple ds)) : TupIn base ds v := by
  cases h with
  | tuple hm hv => exact ⟨_, _, _, hm, hv⟩
theorem cons_in {base : Led} {vs : List Value} {d : Dat} {ds : List Dat} (h : DatAll base vs (d :: ds)) : ConsIn base d ds vs := by
  cases h with
  | cons a b => exact ⟨_, _, a, b⟩
theorem int_in {base : Led} {v : Value} {z : Int} (h : DatIn base v (.int z)) : IntIn z v := by
  cases h with
  | int _ t => exact ⟨t⟩
theorem nil_in {base : Led} {vs : List Value} (h : DatAll base vs []) : vs = [] := by
  cases h; rfl
inductive PairIn (base : Led) (p : Int × Int) : Value → Prop
  | mk (T : Addr) (u1 u2 : Tok) (n : Nat) (m : (T, ({ cls := .type "tuple", data := .seq [Value.int p.1 u1, Value.int p.2 u2].toArray n } : Obj)) ∈ base) : PairIn base p (.ref T)
theorem pairD_in {base : Led} {v : Value} {p : Int × Int} (h : DatIn base v (dPair p.1 p.2)) : PairIn base p v := by
  obtain ⟨T2, vs, n2, m2, a1⟩ := tup_in h
  obtain ⟨v4, vs, h4, a2⟩ := cons_in a1
  obtain ⟨u1⟩ := int_in h4
  obtain ⟨v5, vs, h5, a3⟩ := cons_in a2
  obtain ⟨u2⟩ := int_in h5
  have e := nil_in a3
  subst e
  exact ⟨T2, u1, u2, n2, m2⟩
theorem get_nv_c (w : World) (news : Led) (x : Addr) (c : Int) (tn tc : Tok) (hx : IsD w news x) (hc : c ∈ Alpha) :
    Spec w 269 [.ref x, .str (Str.ofString "nv") tn, .int c tc] 3 news (fun v nx => nx = news ∧ ((nvOf c = none ∧ v = .none) ∨ ∃ p T ta tb k, nvOf c = some p ∧ v = .ref T ∧ (T, ({ cls := .type "tuple", data := .seq [Value.int p.1 ta, Value.int p.2 tb].toArray k } : Obj)) ∈ news)) := by
  obtain ⟨a1, a2, a3⟩ := nv_at c hc
  refine (data_get_nv_c w news x ntS nvS ntV nvV c tn tc hx (by decide) nvS_asc a1 a2 (by decide)).mono ?_
  rintro v nx ⟨e, d, hd, hv⟩
  refine ⟨e, ?_⟩
  rw [a3] at hd
  have hd := Option.some.inj hd
  subst hd
  cases hz : nvOf c with
  | some p =>
    rw [hz] at hv
    have hv : DatIn news v (dPair p.1 p.2) := hv
    obtain ⟨T, u1, u2, n, m⟩ := pairD_in hv
    exact .inr ⟨p, _, _, _, _, rfl, rfl, m⟩
  | none =>
    rw [hz] at hv
    cases hv
    exact .inl ⟨rfl, rfl⟩
theorem at_alpha {ns : List Int} {i : Int} (hA : ∀ c ∈ ns, c ∈ Alpha) (_h0 : 0 ≤ i) (h1 : i < (ns.length : Int)) : ns.getD i.toNat 0 ∈ Alpha := by
  have hlt : i.toNat < ns.length := by k_extra "ar"
  have e : ns.getD i.toNat 0 = ns[i.toNat] := by simp [List.getD, hlt]
  rw [e]; exact hA _ (List.getElem_mem hlt)
example : True := by ((k_with "side" => (refine at_alpha ?_ ?_ ?_; (focus assumption); (focus (k_extra "ar")); (focus (k_extra "ar")))); trivial)
def dgt (c : Int) : Option Int := match zof c with | some z => some (c - z) | none => none
theorem dgt_of {c : Int} {p : Int × Int} (h : (zof c).isSome = true) (h2 : nvOf c = some p) : dgt c = some p.1 := by
  unfold nvOf at h2; unfold dgt
  cases hz : zof c with
  | none => rw [hz] at h; cases h
  | some z => rw [hz] at h2; cases h2; rfl
theorem nv_not {c : Int} (h : (zof c).isSome = true) (h2 : nvOf c = none) : False := by
  unfold nvOf at h2
  cases hz : zof c with
  | none => rw [hz] at h; cases h
  | some z => rw [hz] at h2; cases h2
theorem dgt_none {c : Int} (h : zof c = none) : dgt c = none := by unfold dgt; rw [h]
section
example : True := by ((k_with "callO" => ((with_reducible show wpAny _ _ (call (Value.ref 269) _ _) _ _ _); k_dflt (apply Spec.use; (focus (k_asm; done)); (focus (k_asm; done)); (focus (k_asm; done)); (focus (k_asm; done)); (focus (k_asm; done)); (focus ((first | exact rfl | assumption); done)); (focus ((apply get_nt_c; all_goals (walk_at "mine side")); done)); (focus (ktr_room; done)); (focus (ktr_units; done)); k_whole); ((intro vz' nxz' hz' tkz' Oz' Fz' Nz'; (obtain ⟨e1qz, o1qz⟩ := Oz'); subst nxz'; (rcases o1qz with ⟨z1qz, t1qz, e2qz⟩ | ⟨z1qz, e2qz | ⟨t1qz, e2qz⟩⟩) <;> subst e2qz) <;> ((try k_sweep); (try dsimp only); (try k_fold))))); trivial)
example : True := by ((k_with "callO" => ((with_reducible show wpAny _ _ (call (Value.ref 269) _ _) _ _ _); k_dflt (apply Spec.use; (focus (k_asm; done)); (focus (k_asm; done)); (focus (k_asm; done)); (focus (k_asm; done)); (focus (k_asm; done)); (focus ((first | exact rfl | assumption); done)); (focus ((apply get_nv_c; all_goals (walk_at "mine side")); done)); (focus (ktr_room; done)); (focus (ktr_units; done)); k_whole); ((intro vz' nxz' hz' tkz' Oz' Fz' Nz'; (obtain ⟨e1qz, o1qz⟩ := Oz'); subst nxz'; (rcases o1qz with ⟨z1qz, e2qz⟩ | ⟨p1qz, T1qz, ta1qz, tb1qz, k1qz, z1qz, e2qz, hm1qz⟩) <;> subst e2qz) <;> ((try k_sweep); (try dsimp only); (try k_fold))))); trivial)
theorem decimal_digit_c (w : World) (news : Led) (x : Addr) (c : Int) (tc : Tok) (hx : IsD w news x) (hc : c ∈ Alpha) :
    Spec w 68 [.int c tc, .ref x] 4 news (fun v nx => nx = news ∧ ((dgt c = none ∧ v = .none) ∨ ∃ d t, dgt c = some d ∧ v = .int d t)) := by
  intro mean mg mb dp un gd cn cs a ccd cl outer A₀ base h₀ L m s Q E B F X N T hk hd hu ret
  have hx' := hx
  obtain ⟨dx, mp, r1, r2, n, h1, h2, h3, h4, t1, t2, t3, t4, v1, v3, v4, om, m1, m2, -⟩ := hx'
  refine wpAny_call ?_
  k_dflt ktr_enter
  rename Fr _ _ _ _ => F0
  have F1 : Fr _ _ _ (fun y => List.lookup y [(Str.ofString "data", Value.ref x), (Str.ofString "code", Value.int c tc)]) := F0
  clear F0
  k_steps
  all_goals first
    | (rename nvOf c = some _ => q2; rename (zof c).isSome = true => q1; exact ret _ _ _ _ ⟨rfl, .inr ⟨_, _, dgt_of q1 q2, rfl⟩⟩ (by assumption) (by assumption))
    | (rename nvOf c = none => q2; rename (zof c).isSome = true => q1; exact (nv_not q1 q2).elim)
    | (rename zof c = none => q1; exact ret _ _ _ _ ⟨rfl, .inl ⟨dgt_none q1, rfl⟩⟩ (by assumption) (by assumption))
end
--@M
example : True := by ((k_with "specN" => (apply decimal_digit_c; all_goals (walk_at "mine side"))); trivial)
--@E
theorem zof_none {c : Int} (h : dgt c = none) : zof c = none := by
  unfold dgt at h
  cases hz : zof c with
  | none => rfl
  | some z => rw [hz] at h; cases h
theorem zof_some {c d : Int} (h : dgt c = some d) : zof c = some (c - d) := by
  unfold dgt at h
  cases hz : zof c with
  | none => rw [hz] at h; cases h
  | some z =>
    rw [hz] at h
    have := Option.some.inj h
    congr 1; k_extra "ar"
theorem zero_of_c (w : World) (news : Led) (x : Addr) (c : Int) (tc : Tok) (hx : IsD w news x) (hc : c ∈ Alpha) :
    Spec w 75 [.int c tc, .ref x] 5 news (fun v nx => nx = news ∧ ((zof c = none ∧ v = .none) ∨ ∃ z t, zof c = some z ∧ v = .int z t)) := by
  intro mean mg mb dp un gd cn cs a ccd cl outer A₀ base h₀ L m s Q E B F X N T hk hd hu ret
  refine wpAny_call ?_
  k_dflt ktr_enter
  rename Fr _ _ _ _ => F0
  have F1 : Fr _ _ _ (fun y => List.lookup y [(Str.ofString "data", Value.ref x), (Str.ofString "code", Value.int c tc)]) := F0
  clear F0
  k_steps
  all_goals first
    | (rename dgt c = none => q1; exact ret _ _ _ _ ⟨rfl, .inl ⟨zof_none q1, rfl⟩⟩ (by assumption) (by assumption))
    | (rename dgt c = some _ => q1; exact ret _ _ _ _ ⟨rfl, .inr ⟨_, _, zof_some q1, rfl⟩⟩ (by assumption) (by assumption))
--@M
example : True := by ((k_with "specN" => (apply zero_of_c; all_goals (walk_at "mine side"))); trivial)
--@E
example : True := by
  w_top off
  trivial
/-! ## number_is_sign -/
def isSign (ns : List Int) (i : Int) : Bool := decide (i < (ns.length : Int)) && (zof (ns.getD i.toNat 0)).isNone && (sgn (ns.getD i.toNat 0)).isSome
theorem isSign_off {ns : List Int} {i : Int} (h : (ns.length : Int) ≤ i) : isSign ns i = false := by
  unfold isSign; rw [decide_eq_false (by k_extra "ar")]; rfl
theorem isSign_dig {ns : List Int} {i d : Int} (h : dgt (ns.getD i.toNat 0) = some d) : isSign ns i = false := by
  unfold isSign; rw [zof_some h]; simp
theorem isSign_yes {ns : List Int} {i : Int} {p : Int × Int} (hi : i < (ns.length : Int)) (h : dgt (ns.getD i.toNat 0) = none) (h2 : nvOf (ns.getD i.toNat 0) = some p) : isSign ns i = true := by
  have hz := zof_none h
  unfold nvOf at h2; rw [hz] at h2; dsimp only at h2
  unfold isSign; rw [decide_eq_true hi, hz, h2]; rfl
theorem isSign_no {ns : List Int} {i : Int} (h : dgt (ns.getD i.toNat 0) = none) (h2 : nvOf (ns.getD i.toNat 0) = none) : isSign ns i = false := by
  have hz := zof_none h
  unfold nvOf at h2; rw [hz] at h2; dsimp only at h2
  unfold isSign; rw [hz, h2]; simp
section
example : True := by ((k_with "callO" => ((with_reducible show wpAny _ _ (call (Value.ref 269) _ _) _ _ _); k_dflt (apply Spec.use; (focus (k_asm; done)); (focus (k_asm; done)); (focus (k_asm; done)); (focus (k_asm; done)); (focus (k_asm; done)); (focus ((first | exact rfl | assumption); done)); (focus ((apply get_nv_c; all_goals (walk_at "mine side")); done)); (focus (ktr_room; done)); (focus (ktr_units; done)); k_whole); ((intro vz' nxz' hz' tkz' Oz' Fz' Nz'; (obtain ⟨e1qz, o1qz⟩ := Oz'); subst nxz'; (rcases o1qz with ⟨z1qz, e2qz⟩ | ⟨p1qz, T1qz, ta1qz, tb1qz, k1qz, z1qz, e2qz, hm1qz⟩) <;> subst e2qz) <;> ((try k_sweep); (try dsimp only); (try k_fold))))); trivial)
theorem is_sign_c (w : World) (news : Led) (l x : Addr) (ns : List Int) (i : Int) (ti : Tok) (hl : TL news l ns) (hx : IsD w news x) (hA : ∀ c ∈ ns, c ∈ Alpha) (hn : ns.length < 100) (h0 : 0 ≤ i) (h1 : i < 200) :
    Spec w 180 [.ref l, .int i ti, .ref x] 6 news (fun v nx => nx = news ∧ v = .bool (isSign ns i)) := by
  intro mean mg mb dp un gd cn cs a ccd cl outer A₀ base h₀ L m s Q E B F X N T hk hd hu ret
  have hx' := hx
  obtain ⟨dx, mp, r1, r2, n, h1, h2, h3, h4, t1, t2, t3, t4, v1, v3, v4, om, m1, m2, -⟩ := hx'
  refine wpAny_call ?_
  k_dflt ktr_enter
  rename Fr _ _ _ _ => F0
  have F1 : Fr _ _ _ (fun y => List.lookup y [(Str.ofString "data", Value.ref x), (Str.ofString "at", Value.int i ti), (Str.ofString "text", Value.ref l)]) := F0
  clear F0
  k_steps
  all_goals (refine ret _ _ _ _ ⟨rfl, congrArg Value.bool ?_⟩ (by assumption) (by assumption))
  all_goals first
    | (rename dgt _ = none => q1; rename nvOf _ = some _ => q2; exact (isSign_yes (by k_extra "ar") q1 q2).symm)
    | (rename dgt _ = none => q1; rename nvOf _ = none => q2; exact (isSign_no q1 q2).symm)
    | (rename dgt _ = some _ => q1; exact (isSign_dig q1).symm)
    | exact (isSign_off (by k_extra "ar")).symm
end
theorem is_sign_e (w : World) (news : Led) (l x : Addr) (ns : List Int) (i : Int) (ti : Tok) (hl : TL news l ns) (hx : IsD w news x) (hA : ∀ c ∈ ns, c ∈ Alpha) (hn : ns.length < 100) (h0 : 0 ≤ i) (h1 : i < 200) :
    Spec w 180 [.ref l, .int i ti, .ref x] 6 news (fun v nx => nx = news ∧ ((∃ p, i < (ns.length : Int) ∧ sgn (ns.getD i.toNat 0) = some p ∧ v = .bool true) ∨ ((i < (ns.length : Int) → sgn (ns.getD i.toNat 0) = none ∨ (zof (ns.getD i.toNat 0)).isSome = true) ∧ v = .bool false))) := by
  refine (is_sign_c w news l x ns i ti hl hx hA hn h0 h1).mono ?_
  rintro v nx ⟨e, rfl⟩
  refine ⟨e, ?_⟩
  unfold isSign
  by_cases hi : i < (ns.length : Int)
  · rw [decide_eq_true hi]
    cases hz : zof (ns.getD i.toNat 0) with
    | some z => exact .inr ⟨fun _ => .inr rfl, rfl⟩
    | none =>
      cases hs : sgn (ns.getD i.toNat 0) with
      | some p => exact .inl ⟨p, hi, rfl, rfl⟩
      | none => exact .inr ⟨fun _ => .inl rfl, rfl⟩
  · rw [decide_eq_false hi]
    exact .inr ⟨fun h => absurd h hi, rfl⟩
--@M
example : True := by ((k_with "callO" => ((with_reducible show wpAny _ _ (call (Value.ref 180) _ _) _ _ _); k_dflt (apply Spec.use; (focus (k_asm; done)); (focus (k_asm; done)); (focus (k_asm; done)); (focus (k_asm; done)); (focus (k_asm; done)); (focus ((first | exact rfl | assumption); done)); (focus ((apply is_sign_e; all_goals (walk_at "mine side")); done)); (focus (ktr_room; done)); (focus (ktr_units; done)); k_whole); ((intro vz' nxz' hz' tkz' Oz' Fz' Nz'; (obtain ⟨e1qz, o1qz⟩ := Oz'); subst nxz'; (rcases o1qz with ⟨p1qz, i1qz, z1qz, e2qz⟩ | ⟨z1qz, e2qz⟩) <;> subst e2qz) <;> ((try k_sweep); (try dsimp only); (try k_fold))))); trivial)
--@E
example : True := by
  w_top off
  trivial
/-! ## number_common, number_lowest, number_plus, numeric_value -/
theorem gcd_step (a b : Int) (ha : 0 ≤ a) (hb : 0 < b) : Int.gcd b (a.fmod b) = Int.gcd a b := by
  rw [Int.fmod_eq_emod_of_nonneg _ (Int.le_of_lt hb)]
  rw [Int.gcd_comm a b]
  obtain ⟨m, rfl⟩ := Int.eq_ofNat_of_zero_le ha
  obtain ⟨n, rfl⟩ := Int.eq_ofNat_of_zero_le (Int.le_of_lt hb)
  show Nat.gcd _ _ = Nat.gcd _ _
  rw [Int.natAbs_emod_of_nonneg (by k_extra "ar")]
  simp only [Int.natAbs_natCast]
  rw [Nat.gcd_comm n (m % n), ← Nat.gcd_rec]
theorem gcd_abs (a b : Int) : Int.gcd (if a < 0 then -a else a) (if b < 0 then -b else b) = Int.gcd a b := by
  split <;> split <;> simp [Int.gcd_neg, Int.neg_gcd]
theorem gcd_bd (a : Int) {b : Int} (hb : 0 < b) : (0 : Int) < (Int.gcd a b : Nat) ∧ ((Int.gcd a b : Nat) : Int) ≤ b := by
  have h1 : 0 < Int.gcd a b := Int.gcd_pos_of_ne_zero_right a (by k_extra "ar")
  have h2 : Int.gcd a b ≤ b.natAbs := Nat.gcd_le_right _ (by k_extra "ar")
  k_extra "ar"
theorem number_common_c (w : World) (news : Led) (a b : Int) (ta tb : Tok) :
    Spec w 89 [.int a ta, .int b tb] 1 news (fun v nx => nx = news ∧ ∃ g t, g = ((Int.gcd a b : Nat) : Int) ∧ (0 < b → 0 < g ∧ g ≤ b) ∧ v = .int g t) := by
  intro mean mg mb dp un gd cn cs a0 ccd cl outer A₀ base h₀ L m s Q E B F X N T hk hd hu ret
  refine wpAny_call ?_
  k_dflt ktr_enter
  rename Fr _ _ _ _ => F0
  have F1 : Fr _ _ _ (fun y => List.lookup y [(Str.ofString "other", Value.int b tb), (Str.ofString "one", Value.int a ta)]) := F0
  clear F0
  k_steps
  unfold Hold
  rename Fr _ _ _ _ => lF'
  rename News _ _ _ _ => lN'
  k_dflt (refine ksw_while (σ := Int × Tok × Int × Tok) (fun _ => news) (fun c => [(Str.ofString "one", .int c.1 c.2.1), (Str.ofString "other", .int c.2.2.1 c.2.2.2)]) (fun _ => True) [] (fun c => 0 ≤ c.1 ∧ 0 ≤ c.2.2.1 ∧ Int.gcd c.1 c.2.2.1 = Int.gcd a b) (fun c => c.2.2.1.toNat) (if a < 0 then -a else a, _, if b < 0 then -b else b, _) lF' (cb_drop lN' (fun p hp => List.mem_cons_of_mem _ hp)) trivial (List.forall_mem_cons.mpr ⟨rfl, List.forall_mem_cons.mpr ⟨rfl, List.forall_mem_nil _⟩⟩) ⟨by dsimp only; split <;> k_extra "ar", by dsimp only; split <;> k_extra "ar", gcd_abs a b⟩ ?_)
  rintro ⟨x, tx, y, ty⟩ u h tk - ⟨p1, p2, p3⟩ F' N'
  dsimp only at p1 p2 p3 F' ⊢
  simp only [kstB, List.contains_nil, Bool.false_eq_true, if_false] at F'
  clear lF' lN'
  k_fold
  k_steps
  all_goals (try unfold Hold)
  · rename y ≠ 0 => hy
    refine ksw_end (y, _, x.fmod y, _) (by assumption) (by assumption) (fun p hp => List.mem_cons_of_mem _ hp) trivial (List.forall_mem_cons.mpr ⟨rfl, List.forall_mem_cons.mpr ⟨rfl, List.forall_mem_nil _⟩⟩) (by (try dsimp +zetaDelta only); ksw_same) ?_ ?_
    · dsimp only
      refine ⟨p2, ?_, ?_⟩
      · rw [Int.fmod_eq_emod_of_nonneg _ p2]; exact Int.emod_nonneg _ hy
      · rw [← p3]; exact gcd_step x y p1 (by k_extra "ar")
    · dsimp only
      rw [Int.fmod_eq_emod_of_nonneg _ p2]
      have := Int.emod_lt_of_pos x (show 0 < y by k_extra "ar")
      have := Int.emod_nonneg x hy
      k_extra "ar"
  · have hy : y = 0 := by k_extra "ar"
    subst hy
    have e : x = (Int.gcd a b : Nat) := by rw [← p3, Int.gcd_zero_right]; k_extra "ar"
    exact ret _ _ _ _ ⟨rfl, x, _, e, fun hb => by rw [e]; exact gcd_bd a hb, rfl⟩ (by assumption) (by assumption)
--@M
example : True := by ((k_with "callO" => ((with_reducible show wpAny _ _ (call (Value.ref 89) _ _) _ _ _); k_dflt (apply Spec.use; (focus (k_asm; done)); (focus (k_asm; done)); (focus (k_asm; done)); (focus (k_asm; done)); (focus (k_asm; done)); (focus ((first | exact rfl | assumption); done)); (focus ((apply number_common_c; all_goals (walk_at "mine side")); done)); (focus (ktr_room; done)); (focus (ktr_units; done)); k_whole); ((intro vz' nxz' hz' tkz' Oz' Fz' Nz'; (obtain ⟨e1qz, g1qz, t1qz, hg1qz, hp1qz, e2qz⟩ := Oz'); subst nxz'; subst e2qz); (try (have hp2qz := hp1qz (by k_extra "ar"))); (try k_sweep); (try dsimp only); (try k_fold)))); trivial)
--@E
abbrev tup2 (a : Int) (ta : Tok) (b : Int) (tb : Tok) : Obj := { cls := .type "tuple", data := .seq #[Value.int a ta, Value.int b tb] }
def lowP (n d : Int) : Int × Int := (n.fdiv (Int.gcd n d : Nat), d.fdiv (Int.gcd n d : Nat))
theorem number_lowest_c (w : World) (news : Led) (a b : Int) (ta tb : Tok) (hb : 0 < b) (hb2 : b < 1000000000) :
    Spec w 96 [.int a ta, .int b tb] 2 news (fun v nx => ∃ T u1 u2, v = .ref T ∧ nx = (T, tup2 (lowP a b).1 u1 (lowP a b).2 u2) :: news ∧ ∀ p ∈ news, p.1 < T) := by
  intro mean mg mb dp un gd cn cs a0 ccd cl outer A₀ base h₀ L m s Q E B F X N T hk hd hu ret
  refine wpAny_call ?_
  k_dflt ktr_enter
  rename Fr _ _ _ _ => F0
  have F1 : Fr _ _ _ (fun y => List.lookup y [(Str.ofString "den", Value.int b tb), (Str.ofString "num", Value.int a ta)]) := F0
  clear F0
  k_steps
  rename _ = ((Int.gcd a b : Nat) : Int) => hg
  subst hg
  exact ret _ _ _ _ ⟨_, _, _, rfl, rfl, by assumption⟩ (by assumption) (by assumption)
--@M
example : True := by ((k_with "specT" => (apply number_lowest_c; all_goals (walk_at "mine side"))); trivial)
--@E
example : True := by
  w_top off
  trivial
/-! ## number_plus, numeric_value -/
theorem nvOf_den {c : Int} {p : Int × Int} (h : nvOf c = some p) : 0 < p.2 ∧ p.2 < 10 := by
  unfold nvOf at h
  split at h
  · cases h; exact ⟨(by decide : (0:Int) < 1), (by decide : (1:Int) < 10)⟩
  · unfold sgn at h
    (repeat' split at h) <;> first | (cases h; decide) | cases h
theorem lowP_nv : ∀ c ∈ Alpha, ∀ p, nvOf c = some p → lowP p.1 p.2 = p := by
  refine alpha_all ?_ ?_ ?_ ?_ ?_ ?_ ?_ ?_ ?_ ?_ ?_ ?_ ?_ ?_ ?_ ?_ ?_ ?_ ?_ ?_ ?_ ?_ ?_ ?_ ?_ ?_ ?_ ?_ ?_ ?_
  all_goals (intro p h; first | (have h := Option.some.inj h; subst h; decide) | cases h)
theorem tup2_eq {p q : Int × Int} (e : p = q) (u1 u2 : Tok) : tup2 p.1 u1 p.2 u2 = tup2 q.1 u1 q.2 u2 := by rw [e]
section
example : True := by ((k_with "callO" => ((with_reducible show wpAny _ _ (call (Value.ref 269) _ _) _ _ _); k_dflt (apply Spec.use; (focus (k_asm; done)); (focus (k_asm; done)); (focus (k_asm; done)); (focus (k_asm; done)); (focus (k_asm; done)); (focus ((first | exact rfl | assumption); done)); (focus ((apply get_nv_c; all_goals (walk_at "mine side")); done)); (focus (ktr_room; done)); (focus (ktr_units; done)); k_whole); ((intro vz' nxz' hz' tkz' Oz' Fz' Nz'; (obtain ⟨e1qz, o1qz⟩ := Oz'); subst nxz'; (rcases o1qz with ⟨z1qz, e2qz⟩ | ⟨p1qz, T1qz, ta1qz, tb1qz, k1qz, z1qz, e2qz, hm1qz⟩) <;> subst e2qz) <;> ((try (have q1qz := nvOf_den z1qz)); (try k_sweep); (try dsimp only); (try k_fold))))); trivial)
theorem numeric_value_c (w : World) (news : Led) (x : Addr) (c : Int) (tc : Tok) (hx : IsD w news x) (hc : c ∈ Alpha) :
    Spec w 82 [.int c tc, .ref x] 4 news (fun v nx => (nvOf c = none ∧ nx = news ∧ v = .none) ∨ ∃ p T u1 u2, nvOf c = some p ∧ v = .ref T ∧ nx = (T, tup2 p.1 u1 p.2 u2) :: news ∧ ∀ p ∈ news, p.1 < T) := by
  intro mean mg mb dp un gd cn cs a ccd cl outer A₀ base h₀ L m s Q E B F X N T hk hd hu ret
  have hx' := hx
  obtain ⟨dx, mp, r1, r2, n, h1, h2, h3, h4, t1, t2, t3, t4, v1, v3, v4, om, m1, m2, -⟩ := hx'
  refine wpAny_call ?_
  k_dflt ktr_enter
  rename Fr _ _ _ _ => F0
  have F1 : Fr _ _ _ (fun y => List.lookup y [(Str.ofString "data", Value.ref x), (Str.ofString "code", Value.int c tc)]) := F0
  clear F0
  k_steps
  · rename nvOf c = none => q1
    exact ret _ _ _ _ (.inl ⟨q1, rfl, rfl⟩) (by assumption) (by assumption)
  · rename nvOf c = some _ => q1
    have e := lowP_nv c hc _ q1
    exact ret _ _ _ _ (.inr ⟨_, _, _, _, q1, rfl, congrArg (fun q => (_, q) :: news) (tup2_eq e _ _), by assumption⟩) (by assumption) (by assumption)
end
theorem number_plus_c (w : World) (news : Led) (l1 l2 : Addr) (a b c d : Int) (ta tb tc td : Tok) (m1 : (l1, tup2 a ta b tb) ∈ news) (m2 : (l2, tup2 c tc d td) ∈ news) (hb : 0 < b) (hd1 : 0 < d) (hb2 : b < 10000) (hd2 : d < 10000) (ha : -1000000000 < a) (ha2 : a < 1000000000) (hc : -1000000000 < c) (hc2 : c < 1000000000) :
    Spec w 103 [.ref l1, .ref l2] 3 news (fun v nx => ∃ T u1 u2, v = .ref T ∧ nx = (T, tup2 (lowP (a * d + c * b) (b * d)).1 u1 (lowP (a * d + c * b) (b * d)).2 u2) :: news ∧ ∀ p ∈ news, p.1 < T) := by
  intro mean mg mb dp un gd cn cs a0 ccd cl outer A₀ base h₀ L m s Q E B F X N T hk hd hu ret
  refine wpAny_call ?_
  k_dflt ktr_enter
  rename Fr _ _ _ _ => F0
  have F1 : Fr _ _ _ (fun y => List.lookup y [(Str.ofString "other", Value.ref l2), (Str.ofString "one", Value.ref l1)]) := F0
  clear F0
  have hbd : 0 < b * d := Int.mul_pos hb hd1
  have hbd2 : b * d < 1000000000 := by
    have := Int.mul_lt_mul' (show b ≤ 9999 by k_extra "ar") hd2 (by k_extra "ar") (by decide : (0 : Int) < 9999)
    k_extra "ar"
  k_steps
  exact ret _ _ _ _ ⟨_, _, _, rfl, rfl, by assumption⟩ (by assumption) (by assumption)
--@M
example : True := by ((k_with "callO" => ((with_reducible show wpAny _ _ (call (Value.ref 82) _ _) _ _ _); k_dflt (apply Spec.use; (focus (k_asm; done)); (focus (k_asm; done)); (focus (k_asm; done)); (focus (k_asm; done)); (focus (k_asm; done)); (focus ((first | exact rfl | assumption); done)); (focus ((apply numeric_value_c; all_goals (walk_at "mine side")); done)); (focus (ktr_room; done)); (focus (ktr_units; done)); k_whole); ((intro vz' nxz' hz' tkz' Oz' Fz' Nz'; (rcases Oz' with ⟨z1qz, e1qz, e2qz⟩ | ⟨p1qz, T1qz, u1qz, u2qz, z1qz, e2qz, e1qz, l1qz⟩) <;> subst nxz' <;> subst e2qz) <;> ((try k_lt l1qz); (try k_sweep); (try dsimp only); (try k_fold))))); trivial)
example : True := by ((k_with "specT" => (apply number_plus_c; (focus (k_mem; done)); (focus (k_mem; done)); all_goals (k_extra "ar"))); trivial)
--@E
example : True := by
  w_top off
  trivial
--@nofill
/-! ## loops that keep the ledger -/
/-- what a turn of a loop leaves: the names in ps, the rest as it stood, the ledger and the iterator's own -/
inductive FEnd {σ : Type} (h₀ : Heap) (L : Addr) (s : Shared) (x : Str) (news own : Led) (ps : σ → List (Str × Value)) (stored : List Str) (m₀ : Str → Option Value) (P : σ → Prop) (s₂ : Shared) : Prop
  | mk (c' : σ) (h' : Heap) (tk : Nat) (m' : Str → Option Value) (nx : Led) (z1 : s₂ = { s with heap := h', toks := tk }) (z2 : Fr h₀ L h' m') (z3 : News h₀ L h' nx) (z4 : (∀ p ∈ news, p ∈ nx)) (z5 : (∀ p ∈ own, p ∈ nx)) (z6 : (∀ p ∈ ps c', m' p.1 = some p.2)) (z7 : (∀ z, z ≠ x → (∀ p ∈ ps c', z ≠ p.1) → stored.contains z = false → m' z = m₀ z)) (z8 : P c') : FEnd h₀ L s x news own ps stored m₀ P s₂
def FPost {σ : Type} (h₀ : Heap) (L : Addr) (s : Shared) (x : Str) (news own : Led) (ps : σ → List (Str × Value)) (stored : List Str) (m₀ : Str → Option Value) (P : σ → Prop) (Q : Flow → Shared → Prop) (f : Flow) (s₂ : Shared) : Prop :=
  match f with
  | .ret v => Q (.ret v) s₂
  | .brk => Q .next s₂
  | _ => FEnd h₀ L s x news own ps stored m₀ P s₂
theorem fend {σ : Type} {h₀ : Heap} {L : Addr} {s : Shared} {x : Str} {news own : Led} {ps : σ → List (Str × Value)} {stored : List Str} {m₀ m' : Str → Option Value} {P : σ → Prop} {h' : Heap} {tk : Nat} {nx : Led} (c' : σ)
    (F : Fr h₀ L h' m') (N : News h₀ L h' nx) (hn : ∀ p ∈ news, p ∈ nx) (ho : ∀ p ∈ own, p ∈ nx) (hk : ∀ p ∈ ps c', m' p.1 = some p.2) (hr : ∀ z, z ≠ x → (∀ p ∈ ps c', z ≠ p.1) → stored.contains z = false → m' z = m₀ z) (hp : P c') :
    FEnd h₀ L s x news own ps stored m₀ P { s with heap := h', toks := tk } := ⟨c', h', tk, m', nx, rfl, F, N, hn, ho, hk, hr, hp⟩
section
variable {prog : Program} {w : World} {A : Around} {E : Value → Shared → Prop} {s : Shared} {env : Env} {h₀ : Heap} {x : Str} {body : List Stmt} {Q : Flow → Shared → Prop}
theorem inv_of_fend {σ τ : Type} {news own : Led} {ps : σ → List (Str × Value)} {stored : List Str} {m₀ : Str → Option Value} {P : τ → σ → Prop} {pre : τ} {s₁ s₂ : Shared} {L : Addr} (h0 : KdSep own [] (news.map (·.1)))
    (q : FEnd h₀ L s₁ x news own ps stored m₀ (P pre) s₂) : InvEndG h₀ L (KdS (fun _ : σ => []) news ps (fun nx (_ : σ) => nx = news ++ []) x stored m₀ P (news.map (·.1)) pre) own s₁ s₂ := by
  obtain ⟨c', h', tk, m', nx, rfl, F, N, hn, ho, hk, hr, hp⟩ := q
  refine kd_end c' [] (tl := []) h0 F N (fun p hp => hn p (by simpa using hp)) ho rfl (fun _ h => nomatch h) (fun _ h => nomatch h) hk hr rfl hp
theorem for_tl {σ : Type} {l : Addr} {ns : List Int} {m₀ : Str → Option Value} {cur : Led} (news : Led) (ps : σ → List (Str × Value)) (stored : List Str) (P : List Int → σ → Prop) (c₀ : σ)
    (hh : A.handled = none) (t : TL news l ns) (F : Fr h₀ env.locals s.heap m₀) (N : News h₀ env.locals s.heap cur) (hsub : ∀ p ∈ news, p ∈ cur) (hk : ∀ p ∈ ps c₀, m₀ p.1 = some p.2) (hp : P [] c₀)
    (turn : ∀ (c : σ) pre post n t (u : Str → Option Value) h tk own, ns = pre ++ n :: post → n ∈ ns → P pre c →
      Fr h₀ env.locals h (fun y => if y = x then some (.int n t) else kstB (fun z => if stored.contains z then u z else m₀ z) (ps c) y) → News h₀ env.locals h (news ++ own) →
      wpAny (model prog w) A (execs body env) (FPost h₀ env.locals { s with heap := h, toks := tk } x news own ps stored m₀ (P (pre ++ [n])) Q) E { s with heap := h, toks := tk })
    (done : ∀ (c : σ) (u : Str → Option Value) h tk, P ns c → Fr h₀ env.locals h (fun y => if y = x then u y else kstB (fun z => if stored.contains z then u z else m₀ z) (ps c) y) → News h₀ env.locals h news → Q .next { s with heap := h, toks := tk }) :
    wpAny (model prog w) A (pyIter (.ref l)) (fun it s₂ => LoopAtV prog w A h₀ env x body Q E it s₂) E s := by
  obtain ⟨vs, n, hm, hi⟩ := t
  refine kd_listI (fun _ : σ => []) news ps (fun nx _ => nx = news ++ []) stored P (news.map (·.1)) c₀ hh hm hi F N (fun p hp => hsub p (by simpa using hp)) (fun _ => rfl) rfl hk hp ?_ ?_
  · intro c tl pre post n t u h tk own e hn hs ho hf hp' F' N'
    have htl : tl = [] := List.append_cancel_left hf
    subst htl
    refine wpAny_mono (turn c pre post n t u h tk own e hn hp' F' (by simpa using N')) (fun f s₂ q => ?_) fun _ _ e => e
    cases f with
    | ret v => exact q
    | brk => exact q
    | next => exact inv_of_fend hs q
    | cont => exact inv_of_fend hs q
  · intro c tl u h tk ho hf hp' F' N'
    have htl : tl = [] := List.append_cancel_left hf
    subst htl
    exact done c u h tk hp' F' (by simpa using N')
theorem for_rg {σ : Type} {r : Addr} {a₀ b₀ : Int} {t₀ u₀ v₀ : Tok} {n : Nat} {m₀ : Str → Option Value} {cur : Led} (news : Led) (ps : σ → List (Str × Value)) (stored : List Str) (P : List Int → σ → Prop) (c₀ : σ)
    (hh : A.handled = none) (hr : IsRange s.heap r a₀ b₀ 1 t₀ u₀ v₀) (hsmall : Builtin.Range.small a₀ b₀ 1 = true) (hsz : Builtin.Range.rangeSize a₀ b₀ 1 = (n : Int)) (F : Fr h₀ env.locals s.heap m₀) (N : News h₀ env.locals s.heap cur) (hsub : ∀ p ∈ news, p ∈ cur) (hk : ∀ p ∈ ps c₀, m₀ p.1 = some p.2) (hp : P [] c₀)
    (turn : ∀ (c : σ) (pre : List Int) (k : Int) t (u : Str → Option Value) h tk own, k = a₀ + (pre.length : Int) → pre.length < n → P pre c →
      Fr h₀ env.locals h (fun y => if y = x then some (.int k t) else kstB (fun z => if stored.contains z then u z else m₀ z) (ps c) y) → News h₀ env.locals h (news ++ own) →
      wpAny (model prog w) A (execs body env) (FPost h₀ env.locals { s with heap := h, toks := tk } x news own ps stored m₀ (P (pre ++ [k])) Q) E { s with heap := h, toks := tk })
    (done : ∀ (c : σ) (u : Str → Option Value) h tk, P (rangeKs a₀ n) c → Fr h₀ env.locals h (fun y => if y = x then u y else kstB (fun z => if stored.contains z then u z else m₀ z) (ps c) y) → News h₀ env.locals h news → Q .next { s with heap := h, toks := tk }) :
    wpAny (model prog w) A (pyIter (.ref r)) (fun it s₂ => LoopAtV prog w A h₀ env x body Q E it s₂) E s := by
  refine kd_range (fun _ : σ => []) news ps (fun nx _ => nx = news ++ []) stored P (news.map (·.1)) c₀ hh hr hsmall hsz F N (fun p hp => hsub p (by simpa using hp)) (fun _ => rfl) rfl hk hp ?_ ?_
  · intro c tl pre k t u h tk own e hn hs ho hf hp' F' N'
    have htl : tl = [] := List.append_cancel_left hf
    subst htl
    refine wpAny_mono (turn c pre k t u h tk own e hn hp' F' (by simpa using N')) (fun f s₂ q => ?_) fun _ _ e => e
    cases f with
    | ret v => exact q
    | brk => exact q
    | next => exact inv_of_fend hs q
    | cont => exact inv_of_fend hs q
  · intro c tl u h tk ho hf hp' F' N'
    have htl : tl = [] := List.append_cancel_left hf
    subst htl
    exact done c u h tk hp' F' (by simpa using N')
end
example : True := by
  w_top off
  trivial
/-! ## decimal_value -/
--@M
example : True := by ((k_with "mine compareOp Eq ref ref" => ((k_here; k_dflt (refine' tl_eq (by k_asm) (by ktr_rel) (by ktr_rel) (by first | k_extra "ar" | (simp only [units_deeper, units_in1, Around.mark_units]; (try dsimp only [ktrTop]); k_extra "ar")) ?_; k_whole)))); trivial)
example : True := by ((k_with "mine FPost" => ((dsimp only [FPost]))); trivial)
example : True := by ((k_with "mine FEnd" => ((refine hold ?_))); trivial)
--@E
def val (c : Int) : Int := (dgt c).getD 0
def decV (ns : List Int) : Int := ns.foldl (fun a c => a * 10 + val c) 0
theorem decV_snoc (ns : List Int) (c : Int) : decV (ns ++ [c]) = decV ns * 10 + val c := by simp [decV, List.foldl_append]
theorem zof_range {c z : Int} (h : zof c = some z) : z ≤ c ∧ c < z + 10 := by
  unfold zof at h
  split at h
  · cases h; k_extra "ar"
  · split at h
    · cases h; k_extra "ar"
    · cases h
theorem val_of {c z : Int} (h : zof c = some z) : val c = c - z := by unfold val dgt; rw [h]; rfl
theorem dec_go : ∀ (ns : List Int) (acc : Int) (k : Nat), (∀ c ∈ ns, (zof c).isSome = true) → 0 ≤ acc → acc < (10 : Int) ^ k →
    0 ≤ ns.foldl (fun a c => a * 10 + val c) acc ∧ ns.foldl (fun a c => a * 10 + val c) acc < (10 : Int) ^ (k + ns.length)
  | [], acc, k, _, h0, h1 => ⟨h0, h1⟩
  | c :: r, acc, k, h, h0, h1 => by
    obtain ⟨z, hz⟩ := Option.isSome_iff_exists.mp (h c (List.mem_cons_self ..))
    have h2 := zof_range hz
    have h3 := val_of hz
    have h4 := dec_go r (acc * 10 + val c) (k + 1) (fun d hd => h d (List.mem_cons_of_mem _ hd)) (by k_extra "ar") (by rw [Int.pow_succ]; k_extra "ar")
    rw [List.foldl_cons, List.length_cons, show k + (r.length + 1) = k + 1 + r.length by k_extra "ar"]
    exact h4
theorem decV_bd (ns : List Int) (h : ∀ c ∈ ns, (zof c).isSome = true) : 0 ≤ decV ns ∧ decV ns < (10 : Int) ^ ns.length := by
  have := dec_go ns 0 0 h (by decide) (by decide)
  simpa [decV] using this
theorem zero_of_k (w : World) (news : Led) (x : Addr) (c z : Int) (tc : Tok) (hx : IsD w news x) (hc : c ∈ Alpha) (hz : zof c = some z) :
    Spec w 75 [.int c tc, .ref x] 5 news (fun v nx => nx = news ∧ ∃ t, v = .int z t) := by
  refine (zero_of_c w news x c tc hx hc).mono ?_
  rintro v nx ⟨e, ⟨h, _⟩ | ⟨z', t, h, e2⟩⟩
  · rw [hz] at h; cases h
  · rw [hz] at h; cases h; exact ⟨e, t, e2⟩
theorem decimal_digit_k (w : World) (news : Led) (x : Addr) (c z : Int) (tc : Tok) (hx : IsD w news x) (hc : c ∈ Alpha) (hz : zof c = some z) :
    Spec w 68 [.int c tc, .ref x] 4 news (fun v nx => nx = news ∧ ∃ t, v = .int (c - z) t) := by
  refine (decimal_digit_c w news x c tc hx hc).mono ?_
  rintro v nx ⟨e, ⟨h, _⟩ | ⟨d, t, h, e2⟩⟩
  · unfold dgt at h; rw [hz] at h; cases h
  · unfold dgt at h; rw [hz] at h; cases h; exact ⟨e, t, e2⟩
theorem getD_zero_mem {ns : List Int} (h : 0 < ns.length) : ns.getD (0 : Int).toNat 0 ∈ ns := by
  cases ns with
  | nil => simp at h
  | cons c r => simp [List.getD]
section
local macro_rules | `(tactic| walk_at "exec For Name Name cons nil") => `(tactic| (k_here; (rename Fr _ _ _ _ => lF'); (with_unfolding_all refine' For_invVF lF' ?k1 ?k2 ?_; (case k1 => exact rfl); (case k2 => exact rfl); k_whole)))
local macro_rules | `(tactic| walk_at $s:str) => do
  let t := Lean.Syntax.mkStrLit ("se11 " ++ s.getString)
  `(tactic| k_extra $t)
example : True := by ((k_with "se11 pyIter ref" => ((refine hold ?_))); trivial)
example : True := by ((k_with "specI" => (apply zero_of_k; all_goals (walk_at "mine side"))); trivial)
example : True := by ((k_with "specI" => (apply decimal_digit_k; all_goals (walk_at "mine side"))); trivial)
theorem decimal_value_c (w : World) (news : Led) (l x : Addr) (ns : List Int) (z : Int) (hl : TL news l ns) (hx : IsD w news x) (hA : ∀ c ∈ ns, c ∈ Alpha) (hn : ns.length < 100) (h0 : 0 < ns.length) (hz : ∀ c ∈ ns, zof c = some z) :
    Spec w 110 [.ref l, .ref x] 6 news (fun v nx => nx = news ∧ ∃ t, v = .int (decV ns) t) := by
  intro mean mg mb dp un gd cn cs a ccd cl outer A₀ base h₀ L m s Q E B F X N T hk hd hu ret
  have hne : ns ≠ [] := by intro e; rw [e] at h0; simp at h0
  have hz0 := hz _ (getD_zero_mem h0)
  have hA0 := hA _ (getD_zero_mem h0)
  refine wpAny_call ?_
  k_dflt ktr_enter
  rename Fr _ _ _ _ => F0
  have F1 : Fr _ _ _ (fun y => List.lookup y [(Str.ofString "data", Value.ref x), (Str.ofString "text", Value.ref l)]) := F0
  clear F0
  k_steps
  unfold Hold
  rename Fr _ _ _ _ => lF'
  rename News _ _ _ _ => lN'
  k_dflt (refine for_tl (σ := Int × Tok) news (fun c => [(Str.ofString "found", .int c.1 c.2)]) [Str.ofString "value"] (fun pre c => c.1 = decV pre) (0, _) rfl hl lF' lN' (by first | exact fun _ h => h | (intro p hp; kcf_m)) (List.forall_mem_cons.mpr ⟨rfl, List.forall_mem_nil _⟩) rfl ?_ ?_)
  · rintro ⟨f, tf⟩ pre post n t u h tk own e hm p1 F' N'
    dsimp only at p1 F' ⊢
    simp only [kstB] at F'
    clear lF' lN'
    have hzn := hz n hm
    have hAn := hA n hm
    (try k_unmd); (try k_fold)
    k_steps
    unfold Hold
    refine fend (_, _) (by assumption) (by assumption) (fun p hp => List.mem_append.mpr (.inl hp)) (fun p hp => List.mem_append.mpr (.inr hp)) (List.forall_mem_cons.mpr ⟨rfl, List.forall_mem_nil _⟩) (by (try dsimp +zetaDelta only); kst_same) ?_
    dsimp only
    rw [decV_snoc, val_of hzn, p1]
  · rintro ⟨f, tf⟩ u h tk p1 F' N'
    dsimp only at p1 F' ⊢
    simp only [kstB] at F'
    clear lF' lN'
    (try k_unmd); (try k_fold)
    k_steps
    exact ret _ _ _ _ ⟨rfl, _, by rw [p1]⟩ (by assumption) (by assumption)
end
example : True := by first | walk1 | trivial
--@M
example : True := by ((k_with "specI" => (apply decimal_value_c; all_goals (walk_at "mine side"))); trivial)
--@E
example : True := by
  w_top off
  trivial
/-! ## number_run_end -/
def rlen (z : Int) : List Int → Nat
  | [] => 0
  | c :: r => if zof c = some z then rlen z r + 1 else 0
def runLen : List Int → Nat
  | [] => 0
  | c :: r => match zof c with
    | some z => rlen z (c :: r)
    | none => 0
theorem drop_at {ns : List Int} {e : Int} (h0 : 0 ≤ e) (h : e < (ns.length : Int)) : ns.drop e.toNat = ns.getD e.toNat 0 :: ns.drop (e + 1).toNat := by
  have hlt : e.toNat < ns.length := by k_extra "ar"
  rw [List.drop_eq_getElem_cons hlt]
  have e1 : ns.getD e.toNat 0 = ns[e.toNat] := by simp [List.getD, hlt]
  rw [e1, show (e + 1).toNat = e.toNat + 1 by k_extra "ar"]
theorem rlen_step {ns : List Int} {e z : Int} (h0 : 0 ≤ e) (h : e < (ns.length : Int)) (hz : zof (ns.getD e.toNat 0) = some z) : rlen z (ns.drop e.toNat) = rlen z (ns.drop (e + 1).toNat) + 1 := by
  rw [drop_at h0 h, rlen, if_pos hz]
theorem rlen_stop {ns : List Int} {e z : Int} (h0 : 0 ≤ e) (h : e < (ns.length : Int)) (hz : zof (ns.getD e.toNat 0) ≠ some z) : rlen z (ns.drop e.toNat) = 0 := by
  rw [drop_at h0 h, rlen, if_neg hz]
theorem rlen_end {ns : List Int} {e z : Int} (h : (ns.length : Int) ≤ e) : rlen z (ns.drop e.toNat) = 0 := by
  rw [List.drop_of_length_le (by k_extra "ar")]; rfl
theorem rlen_le (z : Int) : ∀ ns : List Int, rlen z ns ≤ ns.length
  | [] => Nat.le_refl _
  | c :: r => by
    rw [rlen]
    split
    · have := rlen_le z r; simp only [List.length_cons]; k_extra "ar"
    · exact Nat.zero_le _
theorem runLen_some {ns : List Int} {e z : Int} (h0 : 0 ≤ e) (h : e < (ns.length : Int)) (hz : zof (ns.getD e.toNat 0) = some z) : runLen (ns.drop e.toNat) = rlen z (ns.drop e.toNat) := by
  rw [drop_at h0 h, runLen, hz]
theorem runLen_none {ns : List Int} {e : Int} (h0 : 0 ≤ e) (h : e < (ns.length : Int)) (hz : zof (ns.getD e.toNat 0) = none) : runLen (ns.drop e.toNat) = 0 := by
  rw [drop_at h0 h, runLen, hz]
theorem runLen_end {ns : List Int} {e : Int} (h : (ns.length : Int) ≤ e) : runLen (ns.drop e.toNat) = 0 := by
  rw [List.drop_of_length_le (by k_extra "ar")]; rfl
theorem number_run_end_c (w : World) (news : Led) (l x : Addr) (ns : List Int) (i : Int) (ti : Tok) (hl : TL news l ns) (hx : IsD w news x) (hA : ∀ c ∈ ns, c ∈ Alpha) (hn : ns.length < 100) (h0 : 0 ≤ i) (h1 : i < 200) :
    Spec w 166 [.ref l, .int i ti, .ref x] 6 news (fun v nx => nx = news ∧ ∃ t, v = .int (i + (runLen (ns.drop i.toNat) : Nat)) t) := by
  intro mean mg mb dp un gd cn cs a ccd cl outer A₀ base h₀ L m s Q E B F X N T hk hd hu ret
  refine wpAny_call ?_
  k_dflt ktr_enter
  rename Fr _ _ _ _ => F0
  have F1 : Fr _ _ _ (fun y => List.lookup y [(Str.ofString "data", Value.ref x), (Str.ofString "at", Value.int i ti), (Str.ofString "text", Value.ref l)]) := F0
  clear F0
  k_steps
  · exact ret _ _ _ _ ⟨rfl, ti, by rw [runLen_end (by k_extra "ar")]; simp⟩ (by assumption) (by assumption)
  · rename zof _ = none => q1
    exact ret _ _ _ _ ⟨rfl, ti, by rw [runLen_none h0 (by k_extra "ar") q1]; simp⟩ (by assumption) (by assumption)
  · rename zof _ = some _ => q1
    rename Int => z
    have q2 := runLen_some h0 (by k_extra "ar") q1
    unfold Hold
    rename Fr _ _ _ _ => lF'
    rename News _ _ _ _ => lN'
    k_dflt (refine ksw_while (σ := Int × Tok) (fun _ => news) (fun c => [(Str.ofString "end", .int c.1 c.2)]) (fun _ => True) [] (fun c => i + 1 ≤ c.1 ∧ c.1 ≤ ns.length ∧ i + (rlen z (ns.drop i.toNat) : Nat) = c.1 + (rlen z (ns.drop c.1.toNat) : Nat)) (fun c => ((ns.length : Int) - c.1).toNat) (i + 1, _) lF' (cb_drop lN' (by first | exact fun _ h => h | (intro p hp; kcf_m))) trivial (List.forall_mem_cons.mpr ⟨rfl, List.forall_mem_nil _⟩) ⟨Int.le_refl _, by dsimp only; k_extra "ar", by dsimp only; rw [rlen_step h0 (by k_extra "ar") q1]; k_extra "ar"⟩ ?_)
    rintro ⟨e, te⟩ u h tk - ⟨p1, p2, p3⟩ F' N'
    dsimp only at p1 p2 p3 F' ⊢
    simp only [kstB, List.contains_nil, Bool.false_eq_true, if_false] at F'
    clear lF' lN'
    (try k_unmd); (try k_fold)
    k_steps
    all_goals (try unfold Hold)
    · rename zof (ns.getD e.toNat 0) = none => q3
      have q4 := rlen_stop (ns := ns) (e := e) (z := z) (by k_extra "ar") (by k_extra "ar") (by rw [q3]; exact fun h => nomatch h)
      exact ret _ _ _ _ ⟨rfl, te, by rw [q2, p3, q4]; simp⟩ (by assumption) (by assumption)
    · rename zof (ns.getD e.toNat 0) = some _ => q3
      rename _ = z => q5
      rw [q5] at q3
      have q4 := rlen_step (by k_extra "ar") (by k_extra "ar") q3
      refine ksw_end (_, _) (by assumption) (by assumption) (fun _ h => h) trivial (List.forall_mem_cons.mpr ⟨rfl, List.forall_mem_nil _⟩) (by (try dsimp +zetaDelta only); ksw_same) ?_ ?_
      · dsimp only; refine ⟨by k_extra "ar", by k_extra "ar", ?_⟩; rw [p3, q4]; k_extra "ar"
      · dsimp only; k_extra "ar"
    · rename zof (ns.getD e.toNat 0) = some _ => q3
      rename ¬ _ = z => q5
      have q4 := rlen_stop (ns := ns) (e := e) (z := z) (by k_extra "ar") (by k_extra "ar") (by rw [q3]; exact fun h => q5 (Option.some.inj h))
      exact ret _ _ _ _ ⟨rfl, te, by rw [q2, p3, q4]; simp⟩ (by assumption) (by assumption)
    · have q4 := rlen_end (ns := ns) (e := e) (z := z) (by k_extra "ar")
      exact ret _ _ _ _ ⟨rfl, te, by rw [q2, p3, q4]; simp⟩ (by assumption) (by assumption)
--@M
example : True := by ((k_with "specI" => (apply number_run_end_c; all_goals (walk_at "mine side"))); trivial)
--@E
example : True := by
  w_top off
  trivial
/-! ## number_end -/
theorem slice_run {vs : List Value} {ns : List Int} {x y : Int} (hi : IntsAre vs ns) (h : 0 ≤ x) (h2 : 0 ≤ y) : IntsAre (slicePick vs.toArray (some x) (some y) none).toList ((ns.drop x.toNat).take (y.toNat - x.toNat)) := by
  have q := kmk_run hi h h2
  have e : (ns.drop x.toNat).take (min y.toNat ns.length - x.toNat) = (ns.drop x.toNat).take (y.toNat - x.toNat) := by
    by_cases hy : y.toNat ≤ ns.length
    · rw [Nat.min_eq_left hy]
    · rw [Nat.min_eq_right (Nat.le_of_not_le hy), List.take_of_length_le (by rw [List.length_drop]; exact Nat.le_refl _), List.take_of_length_le (by rw [List.length_drop]; exact Nat.sub_le_sub_right (Nat.le_of_not_le hy) _)]
  rw [e] at q; exact q
--@M
example : True := by ((k_with "mine subscriptTail Name Slice ref ref" => ((k_here; (with_reducible show wpAny _ _ (subscriptTail _ (PySem.Expr.Slice (some _) (some _) none _) _ _) _ _ _); k_dflt (refine' tl_slice (by k_asm) (by k_asm) (by ktr_rel) (by kmk_part) (by kmk_part) (by exact fun _ hi9 => slice_run hi9 (by k_extra "ar") (by k_extra "ar")) (by k_extra "ar") ?_ (by with_unfolding_all rfl) (by kmk_pure)); walk_at "mine iC"))); trivial)
example : True := by ((k_with "mine subscriptTail Name Slice ref ref" => ((k_here; (with_reducible show wpAny _ _ (subscriptTail _ (PySem.Expr.Slice (some _) none none _) _ _) _ _ _); k_dflt (refine' tl_slice (by k_asm) (by k_asm) (by ktr_rel) (by kmk_part) (by kmk_part) (by exact fun _ hi9 => kmk_from hi9 (by k_extra "ar")) (by k_extra "ar") ?_ (by with_unfolding_all rfl) (by kmk_pure)); walk_at "mine iC"))); trivial)
example : True := by ((k_with "mine subscriptTail Name Slice ref ref" => ((k_here; (with_reducible show wpAny _ _ (subscriptTail _ (PySem.Expr.Slice none (some _) none _) _ _) _ _ _); k_dflt (refine' tl_slice (by k_asm) (by k_asm) (by ktr_rel) (by kmk_part) (by kmk_part) (by first | exact fun _ hi9 => kmk_upto hi9 (by k_extra "ar") | exact fun _ hi9 => kmk_upto_neg hi9 (by k_extra "ar")) (by k_extra "ar") ?_ (by with_unfolding_all rfl) (by kmk_pure)); walk_at "mine iC"))); trivial)
--@E
/-- how many codes the number at a list's head takes -/
def numLen (s : List Int) : Nat :=
  if runLen s = 0 then (match s with | c :: _ => if (sgn c).isSome then 1 else 0 | [] => 0)
  else match s.drop (runLen s) with
    | [] => runLen s
    | d :: t => match sgn d with
      | some p => if 0 < p.1 ∧ p.1 < p.2 then runLen s + 1 else runLen s
      | none => if d = 8260 ∧ 0 < runLen t ∧ t.head?.bind zof = s.head?.bind zof ∧ decV (t.take (runLen t)) ≠ 0 then runLen s + 1 + runLen t else runLen s
theorem sgn_zof {c : Int} {p : Int × Int} (h : sgn c = some p) : zof c = none := by
  unfold sgn at h
  (repeat' split at h) <;> first | (rename c = _ => e; subst e; rfl) | cases h
theorem isSign_iff {ns : List Int} {i : Int} (hi : i < (ns.length : Int)) : isSign ns i = (sgn (ns.getD i.toNat 0)).isSome := by
  unfold isSign
  rw [decide_eq_true hi]
  cases h : sgn (ns.getD i.toNat 0) with
  | none => simp
  | some p => rw [sgn_zof h]; rfl
theorem rlen_all (z : Int) : ∀ s : List Int, ∀ c ∈ s.take (rlen z s), zof c = some z
  | [], c, h => by simp [rlen] at h
  | d :: r, c, h => by
    rw [rlen] at h
    split at h
    · rw [List.take_succ_cons] at h
      rcases List.mem_cons.mp h with rfl | h
      · assumption
      · exact rlen_all z r c h
    · simp at h
theorem run_all {s : List Int} (h : 0 < runLen s) : ∃ z, s.head?.bind zof = some z ∧ ∀ c ∈ s.take (runLen s), zof c = some z := by
  cases s with
  | nil => simp [runLen] at h
  | cons c r =>
    rw [runLen] at h
    cases hz : zof c with
    | none => rw [hz] at h; simp at h
    | some z =>
      refine ⟨z, by simp [hz], ?_⟩
      rw [runLen, hz]
      exact rlen_all z (c :: r)
theorem run_slice {ns : List Int} {x : Int} (h0 : 0 ≤ x) (hp : 0 < runLen (ns.drop x.toNat)) : ∃ z, ∀ c ∈ (ns.drop x.toNat).take ((x + (runLen (ns.drop x.toNat) : Nat)).toNat - x.toNat), zof c = some z := by
  obtain ⟨z, _, h⟩ := run_all hp
  refine ⟨z, ?_⟩
  rw [sub_run h0]
  exact h
example : True := by ((k_with "side" => (refine run_slice ?_ ?_ <;> k_extra "ar")); trivial)
theorem decimal_value_e (w : World) (news : Led) (l x : Addr) (ns : List Int) (hl : TL news l ns) (hx : IsD w news x) (hA : ∀ c ∈ ns, c ∈ Alpha) (hn : ns.length < 100) (h0 : 0 < ns.length) (hz : ∃ z, ∀ c ∈ ns, zof c = some z) :
    Spec w 110 [.ref l, .ref x] 6 news (fun v nx => nx = news ∧ ∃ t, v = .int (decV ns) t) :=
  let ⟨z, h⟩ := hz; decimal_value_c w news l x ns z hl hx hA hn h0 h
theorem runLen_le : ∀ s : List Int, runLen s ≤ s.length
  | [] => Nat.le_refl _
  | c :: r => by
    rw [runLen]
    split
    · exact rlen_le _ _
    · exact Nat.zero_le _
theorem alpha_slice {ns : List Int} {a b : Nat} (hA : ∀ c ∈ ns, c ∈ Alpha) : ∀ c ∈ (ns.drop a).take b, c ∈ Alpha := fun c hc => hA c (List.mem_of_mem_drop (List.mem_of_mem_take hc))
example : True := by ((k_with "side" => (exact alpha_slice (by assumption))); trivial)
example : True := by ((k_with "side" => ((rw [List.length_take, List.length_drop]; k_extra "ar"))); trivial)
example : True := by ((k_with "side" => (first | (refine tk_lt ?_ <;> k_extra "ar") | (refine tk_pos ?_ ?_ ?_ <;> k_extra "ar"))); trivial)
theorem run_no {ns : List Int} {x : Int} (h0 : 0 ≤ x) (h : zof (ns.getD x.toNat 0) = none) (hp : 0 < runLen (ns.drop x.toNat)) : False := by
  by_cases hx : x < (ns.length : Int)
  · rw [runLen_none h0 hx h] at hp; k_extra "ar"
  · rw [runLen_end (by k_extra "ar")] at hp; k_extra "ar"
example : True := by ((k_with "endN" => (refine (run_no ?_ (by assumption) ?_).elim <;> k_extra "ar")); trivial)
theorem numeric_value_k (w : World) (news : Led) (x : Addr) (c : Int) (p : Int × Int) (tc : Tok) (hx : IsD w news x) (hc : c ∈ Alpha) (hs : sgn c = some p) :
    Spec w 82 [.int c tc, .ref x] 4 news (fun v nx => ∃ T u1 u2, v = .ref T ∧ nx = (T, tup2 p.1 u1 p.2 u2) :: news ∧ ∀ p ∈ news, p.1 < T) := by
  have e : nvOf c = some p := by unfold nvOf; rw [sgn_zof hs]; exact hs
  refine (numeric_value_c w news x c tc hx hc).mono ?_
  rintro v nx (⟨h, _⟩ | ⟨q, T, u1, u2, h, e2, e1, l⟩)
  · rw [e] at h; cases h
  · rw [e] at h; cases h; exact ⟨T, u1, u2, e2, e1, l⟩
theorem drop_run {ns : List Int} {i : Int} {k : Nat} (h0 : 0 ≤ i) : (ns.drop i.toNat).drop k = ns.drop (i + (k : Nat)).toNat := by
  rw [List.drop_drop]; congr 1; k_extra "ar"
theorem nl0_yes {ns : List Int} {i : Int} {p : Int × Int} (h0 : 0 ≤ i) (hi : i < (ns.length : Int)) (hk : runLen (ns.drop i.toNat) = 0) (hs : sgn (ns.getD i.toNat 0) = some p) : numLen (ns.drop i.toNat) = 1 := by
  unfold numLen; rw [if_pos hk, drop_at h0 hi]; simp only [hs, Option.isSome_some, if_true]
theorem nl0_no {ns : List Int} {i : Int} (h0 : 0 ≤ i) (hi : i < (ns.length : Int)) (hk : runLen (ns.drop i.toNat) = 0) (hs : sgn (ns.getD i.toNat 0) = none ∨ (zof (ns.getD i.toNat 0)).isSome = true) : numLen (ns.drop i.toNat) = 0 := by
  have hs : sgn (ns.getD i.toNat 0) = none := by
    rcases hs with h | h
    · exact h
    · obtain ⟨z, hz⟩ := Option.isSome_iff_exists.mp h
      rw [runLen_some h0 hi hz, rlen_step h0 hi hz] at hk
      k_extra "ar"
  unfold numLen; rw [if_pos hk, drop_at h0 hi]; simp only [hs, Option.isSome_none, Bool.false_eq_true, if_false]
theorem nl_end {ns : List Int} {i : Int} (h0 : 0 ≤ i) (hk : runLen (ns.drop i.toNat) ≠ 0) (he : (ns.length : Int) ≤ i + (runLen (ns.drop i.toNat) : Nat)) : numLen (ns.drop i.toNat) = runLen (ns.drop i.toNat) := by
  unfold numLen; rw [if_neg hk, drop_run h0, List.drop_of_length_le (by k_extra "ar")]
theorem nl_sgn {ns : List Int} {i : Int} {p : Int × Int} (h0 : 0 ≤ i) (hk : runLen (ns.drop i.toNat) ≠ 0) (he : i + (runLen (ns.drop i.toNat) : Nat) < (ns.length : Int)) (hs : sgn (ns.getD (i + (runLen (ns.drop i.toNat) : Nat)).toNat 0) = some p) :
    numLen (ns.drop i.toNat) = if 0 < p.1 ∧ p.1 < p.2 then runLen (ns.drop i.toNat) + 1 else runLen (ns.drop i.toNat) := by
  unfold numLen; rw [if_neg hk, drop_run h0, drop_at (by k_extra "ar") he]; simp only [hs]
theorem nl_not {ns : List Int} {i : Int} (h0 : 0 ≤ i) (hk : runLen (ns.drop i.toNat) ≠ 0) (he : i + (runLen (ns.drop i.toNat) : Nat) < (ns.length : Int)) (hs : sgn (ns.getD (i + (runLen (ns.drop i.toNat) : Nat)).toNat 0) = none) :
    numLen (ns.drop i.toNat) = if ns.getD (i + (runLen (ns.drop i.toNat) : Nat)).toNat 0 = 8260 ∧ 0 < runLen (ns.drop (i + (runLen (ns.drop i.toNat) : Nat) + 1).toNat) ∧ (ns.drop (i + (runLen (ns.drop i.toNat) : Nat) + 1).toNat).head?.bind zof = (ns.drop i.toNat).head?.bind zof ∧ decV ((ns.drop (i + (runLen (ns.drop i.toNat) : Nat) + 1).toNat).take (runLen (ns.drop (i + (runLen (ns.drop i.toNat) : Nat) + 1).toNat))) ≠ 0 then runLen (ns.drop i.toNat) + 1 + runLen (ns.drop (i + (runLen (ns.drop i.toNat) : Nat) + 1).toNat) else runLen (ns.drop i.toNat) := by
  conv => lhs; unfold numLen
  rw [if_neg hk, drop_run h0, drop_at (by k_extra "ar") he]; simp only [hs]
theorem take_slash {ns : List Int} {e : Int} (h0 : 0 ≤ e) : (ns.drop e.toNat).take ((e + 1).toNat - e.toNat) = [8260] ↔ e < (ns.length : Int) ∧ ns.getD e.toNat 0 = 8260 := by
  rw [show (e + 1).toNat - e.toNat = 1 by rw [tn_s h0, Nat.add_sub_cancel_left]]
  by_cases h : e < (ns.length : Int)
  · rw [drop_at h0 h]; simp [h]
  · rw [List.drop_of_length_le (by k_extra "ar")]; simp [h]
theorem sgn_slash {c : Int} (h : c = 8260) : sgn c = none := by subst h; rfl
theorem nl_other {ns : List Int} {i : Int} (h0 : 0 ≤ i) (hk : runLen (ns.drop i.toNat) ≠ 0) (hs : i + (runLen (ns.drop i.toNat) : Nat) < (ns.length : Int) → sgn (ns.getD (i + (runLen (ns.drop i.toNat) : Nat)).toNat 0) = none ∨ (zof (ns.getD (i + (runLen (ns.drop i.toNat) : Nat)).toNat 0)).isSome = true)
    (hn : ¬ (ns.drop (i + (runLen (ns.drop i.toNat) : Nat)).toNat).take ((i + (runLen (ns.drop i.toNat) : Nat) + 1).toNat - (i + (runLen (ns.drop i.toNat) : Nat)).toNat) = [8260]) : numLen (ns.drop i.toNat) = runLen (ns.drop i.toNat) := by
  rw [take_slash (by k_extra "ar")] at hn
  by_cases he : i + (runLen (ns.drop i.toNat) : Nat) < (ns.length : Int)
  · have hs' : sgn (ns.getD (i + (runLen (ns.drop i.toNat) : Nat)).toNat 0) = none := by
      rcases hs he with h | h
      · exact h
      · cases hq : sgn (ns.getD (i + (runLen (ns.drop i.toNat) : Nat)).toNat 0) with
        | none => rfl
        | some p => rw [sgn_zof hq] at h; cases h
    rw [nl_not h0 hk he hs', if_neg]
    intro h; exact hn ⟨he, h.1⟩
  · exact nl_end h0 hk (by k_extra "ar")
theorem head_zof {ns : List Int} {e z : Int} (h0 : 0 ≤ e) (h : zof (ns.getD e.toNat 0) = some z) : (ns.drop e.toNat).head?.bind zof = some z := by
  by_cases he : e < (ns.length : Int)
  · rw [drop_at h0 he]; simpa using h
  · have : ns.getD e.toNat 0 = 0 := by simp [List.getD, List.getElem?_eq_none (show ns.length ≤ e.toNat by k_extra "ar")]
    rw [this] at h; cases h
section
example : True := by ((k_with "specN" => (apply zero_of_c; all_goals (walk_at "mine side"))); trivial)
example : True := by ((k_with "specT" => (apply numeric_value_k; all_goals (walk_at "mine side"))); trivial)
example : True := by ((k_with "specI" => (apply decimal_value_e; all_goals (walk_at "mine side"))); trivial)
theorem number_end_c (w : World) (news : Led) (l x : Addr) (ns : List Int) (i : Int) (ti : Tok) (hl : TL news l ns) (hx : IsD w news x) (hA : ∀ c ∈ ns, c ∈ Alpha) (hn : ns.length < 100) (h0 : 0 ≤ i) (h1 : i < (ns.length : Int)) :
    Spec w 173 [.ref l, .int i ti, .ref x] 7 news (fun v nx => nx = news ∧ ∃ t, v = .int (i + (numLen (ns.drop i.toNat) : Nat)) t) := by
  intro mean mg mb dp un gd cn cs a ccd cl outer A₀ base h₀ L m s Q E B F X N T hk hd hu ret
  have hrl := runLen_le (ns.drop i.toNat)
  rw [List.length_drop] at hrl
  have hrl3 := dr_le h0 h1 hrl
  have hrl2 := runLen_le (ns.drop (i + (runLen (ns.drop i.toNat) : Nat) + 1).toNat)
  rw [List.length_drop] at hrl2
  refine wpAny_call ?_
  k_dflt ktr_enter
  rename Fr _ _ _ _ => F0
  have F1 : Fr _ _ _ (fun y => List.lookup y [(Str.ofString "data", Value.ref x), (Str.ofString "at", Value.int i ti), (Str.ofString "text", Value.ref l)]) := F0
  clear F0
  k_steps
  · rename sgn _ = some _ => q1
    have hk0 : runLen (ns.drop i.toNat) = 0 := by k_extra "ar"
    have q2 := nl0_yes h0 h1 hk0 q1
    exact ret _ _ _ _ ⟨rfl, _, by rw [q2]; rfl⟩ (by assumption) (by first | assumption | exact cb_drop (by assumption) (by first | exact fun _ h => h | (intro p hp; kcf_m)))
  · have hk0 : runLen (ns.drop i.toNat) = 0 := by k_extra "ar"
    rename _ → _ ∨ _ => q1
    have q2 := nl0_no h0 h1 hk0 (q1 h1)
    exact ret _ _ _ _ ⟨rfl, ti, by rw [q2]; simp⟩ (by assumption) (by first | assumption | exact cb_drop (by assumption) (by first | exact fun _ h => h | (intro p hp; kcf_m)))
  all_goals (have hk1 : runLen (ns.drop i.toNat) ≠ 0 := by k_extra "ar")
  · rename sgn _ = some _ => q1
    have q2 := nl_sgn h0 hk1 (by k_extra "ar") q1
    rw [if_pos ⟨by assumption, by assumption⟩] at q2
    exact ret _ _ _ _ ⟨rfl, _, by rw [q2, Int.natCast_succ, Int.add_assoc]⟩ (by assumption) (by first | assumption | exact cb_drop (by assumption) (by first | exact fun _ h => h | (intro p hp; kcf_m)))
  · rename sgn _ = some _ => q1
    have q2 := nl_sgn h0 hk1 (by k_extra "ar") q1
    rw [if_neg (by k_extra "ar")] at q2
    exact ret _ _ _ _ ⟨rfl, _, by rw [q2]⟩ (by assumption) (by first | assumption | exact cb_drop (by assumption) (by first | exact fun _ h => h | (intro p hp; kcf_m)))
  · rename sgn _ = some _ => q1
    have q2 := nl_sgn h0 hk1 (by k_extra "ar") q1
    rw [if_neg (by k_extra "ar")] at q2
    exact ret _ _ _ _ ⟨rfl, _, by rw [q2]⟩ (by assumption) (by first | assumption | exact cb_drop (by assumption) (by first | exact fun _ h => h | (intro p hp; kcf_m)))
  · rename zof (ns.getD i.toNat 0) = some _ => q3
    rename zof (ns.getD (Int.toNat (_ + 1)) 0) = some _ => q4
    rename _ = (_ : Int) => q5
    rename decV _ ≠ 0 => q6
    subst q5
    have q0 := (take_slash (ns := ns) (e := i + (runLen (ns.drop i.toNat) : Nat)) (by k_extra "ar")).mp (by assumption)
    have q2 := nl_not h0 hk1 q0.1 (sgn_slash q0.2)
    rw [show (i + ((runLen (ns.drop i.toNat) : Nat) : Int) + 1 + ((runLen (ns.drop (i + (runLen (ns.drop i.toNat) : Nat) + 1).toNat) : Nat) : Int)).toNat - (i + ((runLen (ns.drop i.toNat) : Nat) : Int) + 1).toNat = runLen (ns.drop (i + (runLen (ns.drop i.toNat) : Nat) + 1).toNat) from sub_run (by k_extra "ar")] at q6
    rw [if_pos ⟨q0.2, by k_extra "ar", by rw [head_zof (by k_extra "ar") q4, head_zof h0 q3], q6⟩] at q2
    exact ret _ _ _ _ ⟨rfl, _, congrArg (fun q => Value.int q _) (by k_extra "ar")⟩ (by assumption) (by first | assumption | exact cb_drop (by assumption) (by first | exact fun _ h => h | (intro p hp; kcf_m)))
  · rename decV _ = 0 => q6
    have q0 := (take_slash (ns := ns) (e := i + (runLen (ns.drop i.toNat) : Nat)) (by k_extra "ar")).mp (by assumption)
    have q2 := nl_not h0 hk1 q0.1 (sgn_slash q0.2)
    rw [show (i + ((runLen (ns.drop i.toNat) : Nat) : Int) + 1 + ((runLen (ns.drop (i + (runLen (ns.drop i.toNat) : Nat) + 1).toNat) : Nat) : Int)).toNat - (i + ((runLen (ns.drop i.toNat) : Nat) : Int) + 1).toNat = runLen (ns.drop (i + (runLen (ns.drop i.toNat) : Nat) + 1).toNat) from sub_run (by k_extra "ar")] at q6
    rw [if_neg (fun h => h.2.2.2 q6)] at q2
    exact ret _ _ _ _ ⟨rfl, _, by rw [q2]⟩ (by assumption) (by first | assumption | exact cb_drop (by assumption) (by first | exact fun _ h => h | (intro p hp; kcf_m)))
  · rename zof (ns.getD i.toNat 0) = some _ => q3
    rename zof (ns.getD (Int.toNat (_ + 1)) 0) = some _ => q4
    rename (_ : Int) ≠ _ => q5
    have q0 := (take_slash (ns := ns) (e := i + (runLen (ns.drop i.toNat) : Nat)) (by k_extra "ar")).mp (by assumption)
    have q2 := nl_not h0 hk1 q0.1 (sgn_slash q0.2)
    rw [if_neg (fun h => q5 (by have := h.2.2.1; rw [head_zof (by k_extra "ar") q4, head_zof h0 q3] at this; exact Option.some.inj this))] at q2
    exact ret _ _ _ _ ⟨rfl, _, by rw [q2]⟩ (by assumption) (by first | assumption | exact cb_drop (by assumption) (by first | exact fun _ h => h | (intro p hp; kcf_m)))
  · have q0 := (take_slash (ns := ns) (e := i + (runLen (ns.drop i.toNat) : Nat)) (by k_extra "ar")).mp (by assumption)
    have q2 := nl_not h0 hk1 q0.1 (sgn_slash q0.2)
    rw [if_neg (fun h => by have := h.2.1; k_extra "ar")] at q2
    exact ret _ _ _ _ ⟨rfl, _, by rw [q2]⟩ (by assumption) (by first | assumption | exact cb_drop (by assumption) (by first | exact fun _ h => h | (intro p hp; kcf_m)))
  · rename _ → _ ∨ _ => q1
    have q2 := nl_other h0 hk1 q1 (by assumption)
    exact ret _ _ _ _ ⟨rfl, _, by rw [q2]⟩ (by assumption) (by first | assumption | exact cb_drop (by assumption) (by first | exact fun _ h => h | (intro p hp; kcf_m)))
end
--@M
example : True := by ((k_with "specI" => (apply number_end_c; all_goals (walk_at "mine side"))); trivial)
--@E
example : True := by
  w_top off
  trivial
/-! ## fraction_value, four makes of a text -/
--@M
example : True := by ((k_with "mine subscriptTail Name UnaryOp ref int" => ((k_here; k_dflt (refine' tl_last (by k_asm) (by ktr_rel) (by decide) (by k_extra "ar") (by k_extra "ar") ?_ (by with_unfolding_all rfl); k_whole); intro _))); trivial)
example : True := by ((k_with "mine call builtin:list.index cons nil" => ((k_here; k_dflt (refine' tl_index (by k_asm) (by ktr_rel) (by assumption) (by k_extra "ar") ?_; k_whole)))); trivial)
--@E
theorem tl_in_yes {prog : Program} {w : World} {A : Around} {E : Value → Shared → Prop} {s : Shared} {h₀ : Heap} {L l : Addr} {cur : Led} {ns : List Int} {k : Int} {t : Tok} {Q : Value → Shared → Prop} (N : News h₀ L s.heap cur) (tl : TL cur l ns) (hk : k ∈ ns) (h : Q (.bool true) s) : wpAny (model prog w) A (compareOp .In (.int k t) (.ref l)) Q E s :=
  tl_in N tl (by rw [decide_eq_true hk]; exact h)
theorem tl_in_no {prog : Program} {w : World} {A : Around} {E : Value → Shared → Prop} {s : Shared} {h₀ : Heap} {L l : Addr} {cur : Led} {ns : List Int} {k : Int} {t : Tok} {Q : Value → Shared → Prop} (N : News h₀ L s.heap cur) (tl : TL cur l ns) (hk : k ∉ ns) (h : Q (.bool false) s) : wpAny (model prog w) A (compareOp .In (.int k t) (.ref l)) Q E s :=
  tl_in N tl (by rw [decide_eq_false hk]; exact h)
theorem decimal_digit_n (w : World) (news : Led) (x : Addr) (c : Int) (tc : Tok) (hx : IsD w news x) (hc : c ∈ Alpha) (hz : zof c = none) :
    Spec w 68 [.int c tc, .ref x] 4 news (fun v nx => nx = news ∧ v = .none) := by
  refine (decimal_digit_c w news x c tc hx hc).mono ?_
  rintro v nx ⟨e, ⟨_, h⟩ | ⟨d, t, h, e2⟩⟩
  · exact ⟨e, h⟩
  · rw [dgt_none hz] at h; cases h
theorem alpha_take {ns : List Int} {b : Nat} (hA : ∀ c ∈ ns, c ∈ Alpha) : ∀ c ∈ ns.take b, c ∈ Alpha := fun c hc => hA c (List.mem_of_mem_take hc)
theorem alpha_drop {ns : List Int} {b : Nat} (hA : ∀ c ∈ ns, c ∈ Alpha) : ∀ c ∈ ns.drop b, c ∈ Alpha := fun c hc => hA c (List.mem_of_mem_drop hc)
example : True := by ((k_with "side" => (first | exact alpha_take (by assumption) | exact alpha_drop (by assumption))); trivial)
example : True := by ((k_with "side" => (((try rw [List.length_take]); (try rw [List.length_drop]); k_extra "ar"))); trivial)
example : True := by ((k_with "side" => (first | (refine tk_lt ?_ <;> k_extra "ar") | (refine tk_pos ?_ ?_ ?_ <;> k_extra "ar") | (refine tk_lt0 ?_ <;> k_extra "ar") | (refine dp_lt ?_ <;> k_extra "ar") | (refine dp_p ?_; assumption) | (refine tk_p0 ?_ ?_; (focus assumption); (focus (k_extra "ar"))) | (refine tk_p0 (Nat.sub_pos_of_lt ?_) ?_; (focus assumption); (focus (k_extra "ar"))))); trivial)
section
example : True := by ((k_with "mine compareOp In int ref" => ((k_here; k_dflt (first | (refine' tl_in_yes (by k_asm) (by ktr_rel) (by assumption) ?_; k_whole) | (refine' tl_in_no (by k_asm) (by ktr_rel) (by assumption) ?_; k_whole))))); trivial)
example : True := by ((k_with "specI" => (apply zero_of_k; all_goals (walk_at "mine side"))); trivial)
example : True := by ((k_with "specI" => (apply decimal_digit_k; all_goals (walk_at "mine side"))); trivial)
example : True := by ((k_with "specV" => (apply decimal_digit_n; all_goals (walk_at "mine side"))); trivial)
example : True := by ((k_with "specT" => (apply numeric_value_k; all_goals (walk_at "mine side"))); trivial)
example : True := by ((k_with "specI" => (apply decimal_value_c; all_goals (walk_at "mine side"))); trivial)
abbrev FOut (news : Led) (q : Int × Int) (v : Value) (nx : Led) : Prop := ∃ T u1 u2, v = .ref T ∧ nx = (T, tup2 q.1 u1 q.2 u2) :: news ∧ ∀ p ∈ news, p.1 < T
theorem frac_slash_c (w : World) (news : Led) (l x : Addr) (ns : List Int) (z : Int) (hl : TL news l ns) (hx : IsD w news x) (hA : ∀ c ∈ ns, c ∈ Alpha) (hn : ns.length < 10) (hm : (8260 : Int) ∈ ns)
    (h1 : 0 < ns.idxOf 8260) (h2 : ns.idxOf 8260 + 1 < ns.length) (hzA : ∀ c ∈ ns.take ((ns.idxOf 8260 : Nat) : Int).toNat, zof c = some z) (hzB : ∀ c ∈ ns.drop (((ns.idxOf 8260 : Nat) : Int) + 1).toNat, zof c = some z)
    (hz0 : zof (ns.getD (0 : Int).toNat 0) = some z) (hz1 : zof (ns.getD (((ns.idxOf 8260 : Nat) : Int) + 1).toNat 0) = some z)
    (hB1 : 0 < decV (ns.drop (((ns.idxOf 8260 : Nat) : Int) + 1).toNat)) (hB2 : decV (ns.drop (((ns.idxOf 8260 : Nat) : Int) + 1).toNat) < 1000000000) :
    Spec w 152 [.ref l, .ref x] 7 news (FOut news (lowP (decV (ns.take ((ns.idxOf 8260 : Nat) : Int).toNat)) (decV (ns.drop (((ns.idxOf 8260 : Nat) : Int) + 1).toNat)))) := by
  intro mean mg mb dp un gd cn cs a ccd cl outer A₀ base h₀ L m s Q E B F X N T hk hd hu ret
  obtain ⟨vs, nl, hlm, hli⟩ := id hl
  refine wpAny_call ?_
  k_dflt ktr_enter
  rename Fr _ _ _ _ => F0
  have F1 : Fr _ _ _ (fun y => List.lookup y [(Str.ofString "data", Value.ref x), (Str.ofString "text", Value.ref l)]) := F0
  clear F0
  k_steps
  rename _ ∧ _ => q9
  exact ret _ _ _ _ ⟨_, _, _, rfl, rfl, by first | exact ktn_ltOf q9.2 | exact ktn_ltOf q9.2.2 | exact ktn_ltOf q9.2.2.2⟩ (by assumption) (cb_drop (by assumption) (by kcf_all))
theorem frac_run_c (w : World) (news : Led) (l x : Addr) (ns : List Int) (z : Int) (hl : TL news l ns) (hx : IsD w news x) (hA : ∀ c ∈ ns, c ∈ Alpha) (hn : ns.length < 10) (hm : (8260 : Int) ∉ ns) (h1 : 0 < ns.length) (hne : ns ≠ [])
    (hz : ∀ c ∈ ns, zof c = some z) (hz0 : zof (ns.getD (-1 + (ns.length : Int)).toNat 0) = some z) :
    Spec w 152 [.ref l, .ref x] 7 news (FOut news (decV ns, 1)) := by
  intro mean mg mb dp un gd cn cs a ccd cl outer A₀ base h₀ L m s Q E B F X N T hk hd hu ret
  obtain ⟨vs, nl, hlm, hli⟩ := id hl
  refine wpAny_call ?_
  k_dflt ktr_enter
  rename Fr _ _ _ _ => F0
  have F1 : Fr _ _ _ (fun y => List.lookup y [(Str.ofString "data", Value.ref x), (Str.ofString "text", Value.ref l)]) := F0
  clear F0
  k_steps
  all_goals first
    | (exfalso; k_extra "ar")
    | exact ret _ _ _ _ ⟨_, _, _, rfl, rfl, by assumption⟩ (by assumption) (by first | assumption | exact cb_drop (by assumption) (by kcf_all))
    | (rename _ ∧ _ => q9; exact ret _ _ _ _ ⟨_, _, _, rfl, rfl, by first | exact ktn_ltOf q9.2 | exact ktn_ltOf q9.2.2 | exact ktn_ltOf q9.2.2.2 | exact ktn_ltOf q9.2.2.2.2⟩ (by assumption) (by first | assumption | exact cb_drop (by assumption) (by kcf_all)))
theorem frac_sign_c (w : World) (news : Led) (l x : Addr) (ns : List Int) (p : Int × Int) (hl : TL news l ns) (hx : IsD w news x) (hA : ∀ c ∈ ns, c ∈ Alpha) (hm : (8260 : Int) ∉ ns) (h1 : ns.length = 1) (hne : ns ≠ [])
    (hz0 : zof (ns.getD (-1 + (ns.length : Int)).toNat 0) = none) (hs0 : sgn (ns.getD (-1 + (ns.length : Int)).toNat 0) = some p) :
    Spec w 152 [.ref l, .ref x] 7 news (FOut news p) := by
  intro mean mg mb dp un gd cn cs a ccd cl outer A₀ base h₀ L m s Q E B F X N T hk hd hu ret
  obtain ⟨vs, nl, hlm, hli⟩ := id hl
  refine wpAny_call ?_
  k_dflt ktr_enter
  rename Fr _ _ _ _ => F0
  have F1 : Fr _ _ _ (fun y => List.lookup y [(Str.ofString "data", Value.ref x), (Str.ofString "text", Value.ref l)]) := F0
  clear F0
  k_steps
  all_goals first
    | (exfalso; k_extra "ar")
    | exact ret _ _ _ _ ⟨_, _, _, rfl, rfl, by assumption⟩ (by assumption) (by first | assumption | exact cb_drop (by assumption) (by kcf_all))
    | (rename _ ∧ _ => q9; exact ret _ _ _ _ ⟨_, _, _, rfl, rfl, by first | exact ktn_ltOf q9.2 | exact ktn_ltOf q9.2.2 | exact ktn_ltOf q9.2.2.2 | exact ktn_ltOf q9.2.2.2.2⟩ (by assumption) (by first | assumption | exact cb_drop (by assumption) (by kcf_all)))
theorem frac_mixed_c (w : World) (news : Led) (l x : Addr) (ns : List Int) (z : Int) (p : Int × Int) (hl : TL news l ns) (hx : IsD w news x) (hA : ∀ c ∈ ns, c ∈ Alpha) (hn : ns.length < 10) (hm : (8260 : Int) ∉ ns) (h1 : 1 < ns.length) (hne : ns ≠ [])
    (hz0 : zof (ns.getD (-1 + (ns.length : Int)).toNat 0) = none) (hs0 : sgn (ns.getD (-1 + (ns.length : Int)).toNat 0) = some p) (hp1 : 0 < p.1) (hp2 : p.1 < p.2) (hp3 : p.2 < 10)
    (hz : ∀ c ∈ ns.take (ns.length - (- -1 : Int).toNat), zof c = some z) (hd1 : 0 ≤ decV (ns.take (ns.length - (- -1 : Int).toNat))) (hd2 : decV (ns.take (ns.length - (- -1 : Int).toNat)) < 1000000000) :
    Spec w 152 [.ref l, .ref x] 7 news (FOut news (lowP (decV (ns.take (ns.length - (- -1 : Int).toNat)) * p.2 + p.1 * 1) (1 * p.2))) := by
  intro mean mg mb dp un gd cn cs a ccd cl outer A₀ base h₀ L m s Q E B F X N T hk hd hu ret
  obtain ⟨vs, nl, hlm, hli⟩ := id hl
  refine wpAny_call ?_
  k_dflt ktr_enter
  rename Fr _ _ _ _ => F0
  have F1 : Fr _ _ _ (fun y => List.lookup y [(Str.ofString "data", Value.ref x), (Str.ofString "text", Value.ref l)]) := F0
  clear F0
  k_steps
  all_goals first
    | (exfalso; k_extra "ar")
    | exact ret _ _ _ _ ⟨_, _, _, rfl, rfl, by assumption⟩ (by assumption) (by first | assumption | exact cb_drop (by assumption) (by kcf_all))
    | (rename _ ∧ _ => q9; exact ret _ _ _ _ ⟨_, _, _, rfl, rfl, by first | exact ktn_ltOf q9.2 | exact ktn_ltOf q9.2.2 | exact ktn_ltOf q9.2.2.2 | exact ktn_ltOf q9.2.2.2.2⟩ (by assumption) (by first | assumption | exact cb_drop (by assumption) (by kcf_all)))
end
example : True := by
  w_top off
  trivial
/-! ## fraction_value of a number's text -/
def fracV (s : List Int) : Int × Int :=
  if runLen s = 0 then (match s with | c :: _ => (sgn c).getD (0, 1) | [] => (0, 1))
  else match s.drop (runLen s) with
    | [] => (decV s, 1)
    | d :: t => match sgn d with
      | some p => lowP (decV (s.take (runLen s)) * p.2 + p.1 * 1) (1 * p.2)
      | none => lowP (decV (s.take (runLen s))) (decV t)
theorem idx_pre {c : Int} : ∀ {A B : List Int}, (∀ d ∈ A, d ≠ c) → (A ++ c :: B).idxOf c = A.length
  | [], B, _ => by simp
  | a :: A, B, h => by
    have h1 : (a == c) = false := by simpa using h a (List.mem_cons_self ..)
    have h2 := idx_pre (A := A) (B := B) fun d hd => h d (List.mem_cons_of_mem _ hd)
    rw [List.cons_append, List.idxOf_cons, h1, h2]; rfl
theorem zof_not_slash {z : Int} {A : List Int} (h : ∀ c ∈ A, zof c = some z) : ∀ d ∈ A, d ≠ 8260 := by
  intro d hd e; have := h d hd; rw [e] at this; cases this
theorem sgn_not_slash {c : Int} {p : Int × Int} (h : sgn c = some p) : c ≠ 8260 := by intro e; rw [e] at h; cases h
theorem last_get (A : List Int) (c : Int) : (A ++ [c]).getD (-1 + ((A ++ [c]).length : Int)).toNat 0 = c := by
  have : (-1 + ((A ++ [c]).length : Int)).toNat = A.length := by simp only [List.length_append, List.length_singleton]; k_extra "ar"
  rw [this]; simp [List.getD]
theorem init_take (A : List Int) (c : Int) : (A ++ [c]).take ((A ++ [c]).length - (- -1 : Int).toNat) = A := by
  have : (A ++ [c]).length - (- -1 : Int).toNat = A.length := by simp only [List.length_append, List.length_singleton]; k_extra "ar"
  rw [this]; simp
theorem mid_get (A : List Int) (c d : Int) (B : List Int) : (A ++ c :: d :: B).getD ((A.length : Int) + 1).toNat 0 = d := by
  have : ((A.length : Int) + 1).toNat = A.length + 1 := by k_extra "ar"
  rw [this]; simp [List.getD]
theorem runLen_cons {c : Int} {r : List Int} (h : runLen (c :: r) ≠ 0) : ∃ z, zof c = some z := by
  rw [runLen] at h
  cases hz : zof c with
  | none => rw [hz] at h; exact absurd rfl h
  | some z => exact ⟨z, rfl⟩
theorem head_getD {s : List Int} {z : Int} (h : s.head?.bind zof = some z) : zof (s.getD (0 : Int).toNat 0) = some z := by
  cases s with
  | nil => cases h
  | cons c r => simpa [List.getD] using h
theorem dec_bd {s : List Int} {z : Int} (h : ∀ c ∈ s, zof c = some z) (hn : s.length ≤ 9) : 0 ≤ decV s ∧ decV s < 1000000000 := by
  have q := decV_bd s (fun c hc => by rw [h c hc]; rfl)
  refine ⟨q.1, Int.lt_of_lt_of_le q.2 ?_⟩
  have : ∀ k : Nat, k ≤ 9 → (10 : Int) ^ k ≤ 1000000000 := by
    decide
  exact this _ hn
theorem sgn_den {c : Int} {p : Int × Int} (h : sgn c = some p) : p.2 < 10 := by
  unfold sgn at h
  (repeat' split at h) <;> first | (cases h; decide) | cases h
theorem fraction_value_c (w : World) (news : Led) (l x : Addr) (s : List Int) (hl : TL news l s) (hx : IsD w news x) (hA : ∀ c ∈ s, c ∈ Alpha) (hn : s.length < 10) (h0 : 0 < s.length) (hnum : numLen s = s.length) :
    Spec w 152 [.ref l, .ref x] 7 news (FOut news (fracV s)) := by
  have hne : s ≠ [] := by intro e; rw [e] at h0; simp at h0
  by_cases hk : runLen s = 0
  · cases s with
    | nil => exact absurd rfl hne
    | cons c r =>
      unfold numLen at hnum; rw [if_pos hk] at hnum
      cases hs : sgn c with
      | none => simp only [hs] at hnum; simp at hnum
      | some p =>
        simp only [hs, Option.isSome_some, if_true, List.length_cons] at hnum
        have hr : r = [] := List.eq_nil_of_length_eq_zero (by k_extra "ar")
        subst hr
        have e : fracV [c] = p := by unfold fracV; rw [if_pos hk]; simp only [hs, Option.getD_some]
        rw [e]
        exact frac_sign_c w news l x [c] p hl hx hA (by simp [(sgn_not_slash hs).symm]) rfl (by simp) (by rw [show ([c] : List Int).getD (-1 + (([c] : List Int).length : Int)).toNat 0 = c from rfl]; exact sgn_zof hs) hs
  · obtain ⟨z, hz, hall⟩ := run_all (s := s) (by k_extra "ar")
    have hsplit := List.take_append_drop (runLen s) s
    have hkl : (s.take (runLen s)).length = runLen s := by rw [List.length_take]; have := runLen_le s; k_extra "ar"
    cases hd : s.drop (runLen s) with
    | nil =>
      have hs : s.take (runLen s) = s := by rw [hd, List.append_nil] at hsplit; exact hsplit
      rw [hs] at hall
      have e : fracV s = (decV s, 1) := by unfold fracV; rw [if_neg hk, hd]
      rw [e]
      refine frac_run_c w news l x s z hl hx hA hn (fun hm => zof_not_slash hall _ hm rfl) h0 hne hall (hall _ ?_)
      have : (-1 + (s.length : Int)).toNat < s.length := by k_extra "ar"
      simp [List.getD, this]
    | cons d t =>
      rw [hd] at hsplit
      generalize hA' : s.take (runLen s) = A at hsplit hall hkl
      have hA0 : 0 < A.length := by k_extra "ar"
      have hlen : s.length = A.length + 1 + t.length := by rw [← hsplit]; simp; k_extra "ar"
      unfold numLen at hnum; rw [if_neg hk, hd] at hnum
      cases hs : sgn d with
      | some p =>
        simp only [hs] at hnum
        have ht : t = [] := by
          apply List.eq_nil_of_length_eq_zero
          split at hnum <;> k_extra "ar"
        subst ht
        have hp : 0 < p.1 ∧ p.1 < p.2 := by
          by_cases h : 0 < p.1 ∧ p.1 < p.2
          · exact h
          · rw [if_neg h] at hnum; simp only [List.length_nil] at hlen; k_extra "ar"
        have e : fracV s = lowP (decV A * p.2 + p.1 * 1) (1 * p.2) := by unfold fracV; rw [if_neg hk, hd]; simp only [hs, hA']
        rw [e]
        have b := dec_bd hall (by k_extra "ar")
        have it := init_take A d
        have lg := last_get A d
        rw [← hsplit] at hl hA hn
        have q := frac_mixed_c w news l x (A ++ [d]) z p hl hx hA hn (fun hm => by
          rcases List.mem_append.mp hm with h | h
          · exact zof_not_slash hall _ h rfl
          · exact sgn_not_slash hs (List.mem_singleton.mp h).symm) (by rw [hsplit]; k_extra "ar") (by rw [hsplit]; exact hne) (by rw [lg]; exact sgn_zof hs) (by rw [lg]; exact hs) hp.1 hp.2 (sgn_den hs) (by rw [it]; exact hall) (by rw [it]; exact b.1) (by rw [it]; exact b.2)
        rw [it] at q
        exact q
      | none =>
        simp only [hs] at hnum
        by_cases hc : d = 8260 ∧ 0 < runLen t ∧ t.head?.bind zof = s.head?.bind zof ∧ decV (t.take (runLen t)) ≠ 0
        · rw [if_pos hc] at hnum
          obtain ⟨h1, h2, h3, h4⟩ := hc
          have hr : runLen t = t.length := by k_extra "ar"
          obtain ⟨z', hz', hall'⟩ := run_all h2
          rw [hr, List.take_length] at h4 hall'
          have hzz : z' = z := by rw [hz'] at h3; rw [hz] at h3; exact Option.some.inj h3
          subst hzz
          subst h1
          have e : fracV s = lowP (decV A) (decV t) := by unfold fracV; rw [if_neg hk, hd]; simp only [hs, hA']
          rw [e]
          have b := dec_bd hall' (by k_extra "ar")
          have ix : (A ++ 8260 :: t).idxOf 8260 = A.length := idx_pre (zof_not_slash hall)
          have e1 : (A ++ 8260 :: t).take (((A ++ 8260 :: t).idxOf 8260 : Nat) : Int).toNat = A := by rw [ix]; simp
          have e2 : (A ++ 8260 :: t).drop ((((A ++ 8260 :: t).idxOf 8260 : Nat) : Int) + 1).toNat = t := by
            rw [ix, show ((A.length : Int) + 1).toNat = A.length + 1 by k_extra "ar"]; simp
          have e3 : zof ((A ++ 8260 :: t).getD ((((A ++ 8260 :: t).idxOf 8260 : Nat) : Int) + 1).toNat 0) = some z' := by
            rw [ix]
            cases t with
            | nil => simp [runLen] at h2
            | cons d2 t2 => rw [mid_get]; exact hall' _ (List.mem_cons_self ..)
          have e4 : zof ((A ++ 8260 :: t).getD (0 : Int).toNat 0) = some z' := by rw [hsplit]; exact head_getD hz
          rw [← hsplit] at hl hA hn
          have q := frac_slash_c w news l x (A ++ 8260 :: t) z' hl hx hA hn (by simp) (by rw [ix]; exact hA0) (by rw [ix, hsplit]; k_extra "ar") (by rw [e1]; exact hall) (by rw [e2]; exact hall') e4 e3 (by rw [e2]; k_extra "ar") (by rw [e2]; exact b.2)
          rw [e1, e2] at q
          exact q
        · rw [if_neg hc] at hnum; k_extra "ar"
--@M
example : True := by ((k_with "specT" => (apply fraction_value_c; all_goals (walk_at "mine side"))); trivial)
--@E
example : True := by
  w_top off
  trivial
/-! ## numbers_in -/
abbrev NumT := Int × Int × Int × Int
def numD (q : NumT) : Dat := .tuple [.int q.1, .int q.2.1, dPair q.2.2.1 q.2.2.2]
def nums (off : Int) (s : List Int) : List NumT :=
  if _h : s = [] then []
  else if 0 < numLen s then (off, off + (numLen s : Nat), fracV (s.take (numLen s))) :: nums (off + (numLen s : Nat)) (s.drop (numLen s))
  else nums (off + 1) (s.drop 1)
termination_by s.length
decreasing_by
  · rw [List.length_drop]; exact Nat.sub_lt (List.length_pos_iff.mpr _h) (by assumption)
  · rw [List.length_drop]; exact Nat.sub_lt (List.length_pos_iff.mpr _h) Nat.one_pos
theorem nums_nil (off : Int) : nums off [] = [] := by rw [nums]; simp
theorem nums_yes {off : Int} {s : List Int} (h : 0 < s.length) (hk : 0 < numLen s) : nums off s = (off, off + (numLen s : Nat), fracV (s.take (numLen s))) :: nums (off + (numLen s : Nat)) (s.drop (numLen s)) := by
  rw [nums, dif_neg (by intro e; rw [e] at h; simp at h), if_pos hk]
theorem nums_no {off : Int} {s : List Int} (h : 0 < s.length) (hk : numLen s = 0) : nums off s = nums (off + 1) (s.drop 1) := by
  rw [nums, dif_neg (by intro e; rw [e] at h; simp at h), if_neg (by k_extra "ar")]
theorem runLen_pre {s : List Int} : numLen s ≤ s.length := by
  unfold numLen
  have h := runLen_le s
  split
  · cases s with
    | nil => simp
    | cons c r => simp only [List.length_cons]; split <;> k_extra "ar"
  · split
    · exact h
    · rename_i d t hd
      have hl := congrArg List.length hd
      rw [List.length_drop, List.length_cons] at hl
      have h2 := runLen_le t
      split
      · split <;> k_extra "ar"
      · split <;> k_extra "ar"
theorem rlen_take {z : Int} : ∀ {s : List Int} {k : Nat}, rlen z s ≤ k → rlen z (s.take k) = rlen z s
  | [], k, _ => by simp
  | c :: r, 0, h => by
    have e : rlen z (c :: r) = 0 := by k_extra "ar"
    rw [List.take_zero, e]; rfl
  | c :: r, k + 1, h => by
    rw [List.take_succ_cons, rlen, rlen]
    rw [rlen] at h
    split
    · rename_i hz
      rw [if_pos hz] at h
      rw [rlen_take (by k_extra "ar")]
    · rfl
theorem runLen_take {s : List Int} {k : Nat} (h : runLen s ≤ k) : runLen (s.take k) = runLen s := by
  cases s with
  | nil => simp
  | cons c r =>
    cases k with
    | zero =>
      have e : runLen (c :: r) = 0 := by k_extra "ar"
      rw [List.take_zero, e]; rfl
    | succ k =>
      rw [List.take_succ_cons, runLen, runLen]
      rw [runLen] at h
      cases hz : zof c with
      | none => rfl
      | some z =>
        rw [hz] at h
        have q := rlen_take (z := z) (s := c :: r) (k := k + 1) h
        rw [List.take_succ_cons] at q
        exact q
theorem head_take {s : List Int} {k : Nat} (h : 0 < k) : (s.take k).head? = s.head? := by
  cases s with
  | nil => simp
  | cons c r => cases k with
    | zero => k_extra "ar"
    | succ k => simp
theorem numLen_ge (s : List Int) : runLen s ≤ numLen s := by
  unfold numLen
  split
  · k_extra "ar"
  · split
    · exact Nat.le_refl _
    · split
      · split <;> k_extra "ar"
      · split <;> k_extra "ar"
theorem numLen_take (s : List Int) : numLen (s.take (numLen s)) = numLen s := by
  have hge := numLen_ge s
  have hrt := runLen_take hge
  by_cases hk : runLen s = 0
  · cases s with
    | nil => simp
    | cons c r =>
      by_cases hs : (sgn c).isSome = true
      · have e : numLen (c :: r) = 1 := by unfold numLen; rw [if_pos hk]; simp only [hs, if_true]
        rw [e] at hrt ⊢
        rw [hk] at hrt
        rw [List.take_succ_cons, List.take_zero] at hrt ⊢
        unfold numLen; rw [if_pos hrt]; simp only [hs, if_true]
      · have e : numLen (c :: r) = 0 := by unfold numLen; rw [if_pos hk]; simp only [hs, Bool.false_eq_true, if_false]
        rw [e, List.take_zero]; rfl
  · have hdt : ∀ n, (s.take n).drop (runLen s) = (s.drop (runLen s)).take (n - runLen s) := fun n => by rw [List.drop_take]
    have short : numLen s = runLen s → numLen (s.take (numLen s)) = numLen s := fun e => by
      rw [e] at hrt ⊢
      conv => lhs; unfold numLen
      rw [hrt, if_neg hk, hdt]; simp
    cases hd : s.drop (runLen s) with
    | nil => exact short (by unfold numLen; rw [if_neg hk, hd])
    | cons d t =>
      cases hs : sgn d with
      | some p =>
        by_cases hp : 0 < p.1 ∧ p.1 < p.2
        · have e : numLen s = runLen s + 1 := by unfold numLen; rw [if_neg hk, hd]; simp only [hs]; rw [if_pos hp]
          rw [e] at hrt ⊢
          conv => lhs; unfold numLen
          rw [hrt, if_neg hk, hdt, hd, Nat.add_sub_cancel_left, List.take_succ_cons, List.take_zero]
          simp only [hs]; rw [if_pos hp]
        · exact short (by unfold numLen; rw [if_neg hk, hd]; simp only [hs]; rw [if_neg hp])
      | none =>
        by_cases hc : d = 8260 ∧ 0 < runLen t ∧ t.head?.bind zof = s.head?.bind zof ∧ decV (t.take (runLen t)) ≠ 0
        · have e : numLen s = runLen s + 1 + runLen t := by unfold numLen; rw [if_neg hk, hd]; simp only [hs]; rw [if_pos hc]
          rw [e] at hrt ⊢
          conv => lhs; unfold numLen
          rw [hrt, if_neg hk, hdt, hd, show runLen s + 1 + runLen t - runLen s = runLen t + 1 by rw [Nat.add_assoc, Nat.add_sub_cancel_left, Nat.add_comm], List.take_succ_cons]
          simp only [hs]
          have r1 : runLen (t.take (runLen t)) = runLen t := runLen_take (Nat.le_refl _)
          rw [r1, head_take hc.2.1, head_take (show 0 < runLen s + 1 + runLen t by k_extra "ar"), List.take_take, Nat.min_self, if_pos hc]
        · exact short (by unfold numLen; rw [if_neg hk, hd]; simp only [hs]; rw [if_neg hc])
theorem piece_len (s : List Int) : numLen (s.take (numLen s)) = (s.take (numLen s)).length := by
  rw [numLen_take, List.length_take]; have := runLen_pre (s := s); k_extra "ar"
example : True := by
  w_top off
  trivial
theorem piece_eq {ns : List Int} {i : Int} (h0 : 0 ≤ i) : (ns.drop i.toNat).take ((i + (numLen (ns.drop i.toNat) : Nat)).toNat - i.toNat) = (ns.drop i.toNat).take (numLen (ns.drop i.toNat)) := by
  rw [show (i + (numLen (ns.drop i.toNat) : Nat)).toNat - i.toNat = numLen (ns.drop i.toNat) from sub_run h0]
theorem piece_slice {ns : List Int} {i : Int} (h0 : 0 ≤ i) : numLen ((ns.drop i.toNat).take ((i + (numLen (ns.drop i.toNat) : Nat)).toNat - i.toNat)) = ((ns.drop i.toNat).take ((i + (numLen (ns.drop i.toNat) : Nat)).toNat - i.toNat)).length := by
  rw [piece_eq h0]; exact piece_len _
example : True := by ((k_with "side" => (refine piece_slice ?_; k_extra "ar")); trivial)
theorem perm4 {α : Type} {x a b c : α} {r : List α} : ∀ p ∈ x :: a :: b :: c :: r, p ∈ a :: b :: c :: x :: r := by
  intro p hp; simp only [List.mem_cons] at hp ⊢; rcases hp with h | h | h | h | h <;> simp [h]
theorem at_fix1 {a e : Int} {t u : Tok} (h : ¬ a > e) : some (Value.int (if a > e then a else e) (if a > e then t else u)) = some (Value.int e u) := by rw [if_neg h, if_neg h]
theorem at_fix2 {a e : Int} {t u : Tok} (h : a > e) : some (Value.int (if a > e then a else e) (if a > e then t else u)) = some (Value.int a t) := by rw [if_pos h, if_pos h]
structure NSt where
  at_ : Int
  ta : Tok
  us : List Value
  n : Nat
  tl : Led
  done : List NumT
section
example : True := by ((k_with "mine call builtin:list.append cons nil" => ((k_here; k_dflt (refine' append_K (by k_asm) (by k_asm) (by k_upd) ?_ (by (rw [List.size_toArray, sizeLine_eq]; k_extra "ar")); k_whole); intro _ _ _; (try k_sweep)))); trivial)
example : True := by ((k_with "specT" => (apply fraction_value_c; all_goals (walk_at "mine side"))); trivial)
theorem numbers_in_c (w : World) (news : Led) (l x : Addr) (ns : List Int) (hl : TL news l ns) (hx : IsD w news x) (hA : ∀ c ∈ ns, c ∈ Alpha) (hn : ns.length < 10) :
    Spec w 159 [.ref l, .ref x] 8 news (fun v nx => ∃ fl us n tl, v = .ref fl ∧ nx = (fl, listOf us.toArray n) :: (tl ++ news) ∧ DatAll (tl ++ news) us ((nums 0 ns).map numD) ∧ (∀ p ∈ news, p.1 < fl)) := by
  intro mean mg mb dp un gd cn cs a ccd cl outer A₀ base h₀ L m s Q E B F X N T hk hd hu ret
  refine wpAny_call ?_
  k_dflt ktr_enter
  rename Fr _ _ _ _ => F0
  have F1 : Fr _ _ _ (fun y => List.lookup y [(Str.ofString "data", Value.ref x), (Str.ofString "text", Value.ref l)]) := F0
  clear F0
  k_steps
  unfold Hold
  rename Fr _ _ _ _ => lF'
  rename News _ _ _ _ => lN'
  rename_i fl h4 lfl D h3 lD h2 h1 mq1 h0
  k_dflt (refine ksw_while (σ := NSt) (fun c => (fl, listOf c.us.toArray c.n) :: (c.tl ++ news)) (fun c => [(Str.ofString "at", .int c.at_ c.ta)]) (fun _ => True) [Str.ofString "end"] (fun c => 0 ≤ c.at_ ∧ c.at_ ≤ ns.length ∧ DatAll (c.tl ++ news) c.us (c.done.map numD) ∧ (∀ p ∈ c.tl ++ news, p.1 ≠ fl) ∧ c.done ++ nums c.at_ (ns.drop c.at_.toNat) = nums 0 ns ∧ (c.us.length : Int) ≤ c.at_) (fun c => ((ns.length : Int) - c.at_).toNat) ⟨0, _, [], 0, [], []⟩ lF' (cb_drop lN' (fun p hp => List.mem_cons_of_mem _ hp)) trivial (List.forall_mem_cons.mpr ⟨rfl, List.forall_mem_nil _⟩) ⟨Int.le_refl _, by dsimp only; k_extra "ar", .nil, fun p hp => Nat.ne_of_lt (lfl p hp), rfl, by dsimp only; simp⟩ ?_)
  rintro ⟨at_, ta, us, n, tl, done⟩ u h tk - ⟨p1, p2, p3, p4, p5, p6⟩ F' N'
  dsimp only at p1 p2 p3 p4 p5 p6 F' N' ⊢
  simp only [kstB] at F'
  clear lF' lN'
  (try k_unmd); (try k_fold)
  k_steps
  all_goals (try unfold Hold)
  · have k0 : 0 < numLen (ns.drop at_.toNat) := by k_extra "ar"
    have k1 : 0 < (ns.drop at_.toNat).length := by rw [List.length_drop]; exact pos_sub p1 (by assumption)
    have k2 := runLen_pre (s := ns.drop at_.toNat)
    rw [List.length_drop] at k2
    rename News _ _ _ (_ :: _ :: _ :: _ :: _) => nN
    rw [List.push_toArray] at nN
    refine ksw_end ⟨at_ + (numLen (ns.drop at_.toNat) : Nat), _, us ++ [.ref _], n + 1, (_, _) :: (_, _) :: (_, _) :: tl, done ++ [(at_, at_ + (numLen (ns.drop at_.toNat) : Nat), fracV ((ns.drop at_.toNat).take (numLen (ns.drop at_.toNat))))]⟩ (by assumption) nN perm4 trivial (List.forall_mem_cons.mpr ⟨at_fix1 (a := at_ + 1) (e := at_ + (numLen (ns.drop at_.toNat) : Nat)) (by k_extra "ar"), List.forall_mem_nil _⟩) (by (try dsimp +zetaDelta only); ksw_same) ?_ ?_
    · dsimp only
      have hfl : ∀ p ∈ tl ++ news, p.1 ≠ fl := p4
      refine ⟨by k_extra "ar", dr_le p1 (by assumption) k2, ?_, ?_, ?_, by rw [List.length_append]; simp only [List.length_cons, List.length_nil]; k_extra "ar"⟩
      · rw [List.map_append]
        refine .append (p3.mono (fun p hp => List.mem_cons_of_mem _ (List.mem_cons_of_mem _ (List.mem_cons_of_mem _ hp)))) (.one (.tuple (.head _) (.cons (.int _ _) (.cons (.int _ _) (.cons ?_ .nil)))))
        rw [piece_eq p1]
        exact .tuple (.tail _ (.head _)) (.cons (.int _ _) (.cons (.int _ _) .nil))
      · intro p hp
        rcases List.mem_cons.mp hp with rfl | hp
        · exact Nat.ne_of_gt (by k_extra "ar")
        rcases List.mem_cons.mp hp with rfl | hp
        · exact Nat.ne_of_gt (by k_extra "ar")
        rcases List.mem_cons.mp hp with rfl | hp
        · exact Nat.ne_of_gt (by k_extra "ar")
        exact hfl p hp
      · rw [List.append_assoc, ← p5, nums_yes k1 k0]
        rw [List.drop_drop, ← Int.toNat_add_nat p1]; rfl
    · dsimp only; exact ms_lt (by k_extra "ar") (by assumption)
  · have k0 : numLen (ns.drop at_.toNat) = 0 := by k_extra "ar"
    have k1 : 0 < (ns.drop at_.toNat).length := by rw [List.length_drop]; exact pos_sub p1 (by assumption)
    refine ksw_end ⟨at_ + 1, _, us, n, tl, done⟩ (by assumption) (by assumption) (fun _ h => h) trivial (List.forall_mem_cons.mpr ⟨at_fix2 (a := at_ + 1) (e := at_ + (numLen (ns.drop at_.toNat) : Nat)) (by k_extra "ar"), List.forall_mem_nil _⟩) (by (try dsimp +zetaDelta only); ksw_same) ?_ ?_
    · dsimp only
      refine ⟨by k_extra "ar", by k_extra "ar", p3, p4, ?_, by k_extra "ar"⟩
      rw [← p5, nums_no k1 k0, List.drop_drop, ← tn_s p1]
    · dsimp only; exact ms_lt (Int.lt_succ _) (by assumption)
  · have k1 : ns.drop at_.toNat = [] := List.drop_eq_nil_of_le (by k_extra "ar")
    rw [k1, nums_nil, List.append_nil] at p5
    exact ret _ _ _ _ ⟨_, _, _, _, rfl, rfl, p5 ▸ p3, lfl⟩ (by assumption) (by assumption)
end
--@M
example : True := by ((k_with "specL" => (apply numbers_in_c; all_goals (walk_at "mine side"))); trivial)
--@E
example : True := by
  w_top off
  trivial
/-! ## digit_runs -/
def runs (off : Int) (s : List Int) : List (Int × Int) :=
  if _h : s = [] then []
  else if 0 < runLen s then (off, off + (runLen s : Nat)) :: runs (off + (runLen s : Nat)) (s.drop (runLen s))
  else runs (off + 1) (s.drop 1)
termination_by s.length
decreasing_by
  · rw [List.length_drop]; exact Nat.sub_lt (List.length_pos_iff.mpr _h) (by assumption)
  · rw [List.length_drop]; exact Nat.sub_lt (List.length_pos_iff.mpr _h) Nat.one_pos
theorem runs_nil (off : Int) : runs off [] = [] := by rw [runs]; simp
theorem runs_yes {off : Int} {s : List Int} (h : 0 < s.length) (hk : 0 < runLen s) : runs off s = (off, off + (runLen s : Nat)) :: runs (off + (runLen s : Nat)) (s.drop (runLen s)) := by
  rw [runs, dif_neg (by intro e; rw [e] at h; simp at h), if_pos hk]
theorem runs_no {off : Int} {s : List Int} (h : 0 < s.length) (hk : runLen s = 0) : runs off s = runs (off + 1) (s.drop 1) := by
  rw [runs, dif_neg (by intro e; rw [e] at h; simp at h), if_neg (by k_extra "ar")]
inductive RunIn (news : Led) (v : Value) (q : Int × Int) : Prop
  | mk (p d : Addr) (n : Nat) (h1 h2 h3 : Int) (t1 t2 t3 ta tb : Tok) (v3 : Value) (z1 : v = .ref p) (z2 : (p, instObj 134 d) ∈ news) (z3 : (d, dictOf [⟨h1, .str "first" t1, .int q.1 ta⟩, ⟨h2, .str "last" t2, .int q.2 tb⟩, ⟨h3, .str "zero" t3, v3⟩] n) ∈ news) : RunIn news v q
theorem RunIn.mono {news news' : Led} {v : Value} {q : Int × Int} (h : RunIn news v q) (s : ∀ p ∈ news, p ∈ news') : RunIn news' v q :=
  let ⟨p, d, n, h1, h2, h3, t1, t2, t3, ta, tb, v3, e, a, b⟩ := h
  ⟨p, d, n, h1, h2, h3, t1, t2, t3, ta, tb, v3, e, s _ a, s _ b⟩
inductive RunAll (news : Led) : List Value → List (Int × Int) → Prop
  | nil : RunAll news [] []
  | cons {v : Value} {vs : List Value} {q : Int × Int} {qs : List (Int × Int)} : RunIn news v q → RunAll news vs qs → RunAll news (v :: vs) (q :: qs)
theorem RunAll.mono {news news' : Led} {vs : List Value} {qs : List (Int × Int)} (h : RunAll news vs qs) (s : ∀ p ∈ news, p ∈ news') : RunAll news' vs qs := by
  induction h with
  | nil => exact .nil
  | cons a _ ih => exact .cons (a.mono s) ih
theorem RunAll.snoc {news : Led} {vs : List Value} {qs : List (Int × Int)} {v : Value} {q : Int × Int} (h : RunAll news vs qs) (k : RunIn news v q) : RunAll news (vs ++ [v]) (qs ++ [q]) := by
  induction h with
  | nil => exact .cons k .nil
  | cons a _ ih => exact .cons a ih
theorem perm3 {α : Type} {x a b : α} {r : List α} : ∀ p ∈ x :: a :: b :: r, p ∈ a :: b :: x :: r := by
  intro p hp; simp only [List.mem_cons] at hp ⊢; rcases hp with h | h | h | h <;> simp [h]
structure RSt where
  at_ : Int
  ta : Tok
  us : List Value
  n : Nat
  tl : Led
  done : List (Int × Int)
inductive RunCut (h₀ : Heap) (L : Addr) (s : Shared) (m0 : Str → Option Value) (led : Led) (lo a b : Int) : Flow → Shared → Prop
  | mk (e : Int) (te : Tok) (h : Heap) (tk : Tok) (F : Fr h₀ L h (fun y => if y = Str.ofString "end" then some (.int e te) else m0 y)) (N : News h₀ L h led) (he : e = lo) (h1 : a + 1 ≤ e) (h2 : e ≤ b) :
      RunCut h₀ L s m0 led lo a b .next { s with heap := h, toks := tk }
theorem cutRun {M : Model} {A : Around} {e : Sem Flow} {Q : Flow → Shared → Prop} {E : Value → Shared → Prop} {S : Shared} {h₀ h : Heap} {L : Addr} {m0 : Str → Option Value} (F : Fr h₀ L h m0) (s : Shared) (led : Led) (lo a b : Int)
    (w : wpAny M A e (RunCut h₀ L s m0 led lo a b) E S) (k : ∀ f s', RunCut h₀ L s m0 led lo a b f s' → Q f s') : wpAny M A e Q E S := wpAny_mono w k fun _ _ x => x
section
example : True := by ((k_with "mine call builtin:list.append cons nil" => ((k_here; k_dflt (refine' append_K (by k_asm) (by k_asm) (by k_upd) ?_ (by (rw [List.size_toArray, sizeLine_eq]; k_extra "ar")); k_whole); intro _ _ _; (try k_sweep)))); trivial)
theorem digit_runs_c (w : World) (news : Led) (l x : Addr) (ns : List Int) (hl : TL news l ns) (hx : IsD w news x) (hA : ∀ c ∈ ns, c ∈ Alpha) (hn : ns.length < 10) :
    Spec w 145 [.ref l, .ref x] 8 news (fun v nx => ∃ fl us n tl, v = .ref fl ∧ nx = (fl, listOf us.toArray n) :: (tl ++ news) ∧ RunAll (tl ++ news) us (runs 0 ns) ∧ (∀ p ∈ news, p.1 < fl)) := by
  intro mean mg mb dp un gd cn cs a ccd cl outer A₀ base h₀ L m s Q E B F X N T hk hd hu ret
  refine wpAny_call ?_
  k_dflt ktr_enter
  rename Fr _ _ _ _ => F0
  have F1 : Fr _ _ _ (fun y => List.lookup y [(Str.ofString "data", Value.ref x), (Str.ofString "text", Value.ref l)]) := F0
  clear F0
  k_steps
  unfold Hold
  rename Fr _ _ _ _ => lF'
  rename News _ _ _ _ => lN'
  rename_i fl h4 lfl D h3 lD h2 h1 mq1 h0
  k_dflt (refine ksw_while (σ := RSt) (fun c => (fl, listOf c.us.toArray c.n) :: (c.tl ++ news)) (fun c => [(Str.ofString "at", .int c.at_ c.ta)]) (fun _ => True) [Str.ofString "end", Str.ofString "zero"] (fun c => 0 ≤ c.at_ ∧ c.at_ ≤ ns.length ∧ RunAll (c.tl ++ news) c.us c.done ∧ (∀ p ∈ c.tl ++ news, p.1 ≠ fl) ∧ c.done ++ runs c.at_ (ns.drop c.at_.toNat) = runs 0 ns ∧ (c.us.length : Int) ≤ c.at_) (fun c => ((ns.length : Int) - c.at_).toNat) ⟨0, _, [], 0, [], []⟩ lF' (cb_drop lN' (fun p hp => List.mem_cons_of_mem _ hp)) trivial (List.forall_mem_cons.mpr ⟨rfl, List.forall_mem_nil _⟩) ⟨Int.le_refl _, by dsimp only; k_extra "ar", .nil, fun p hp => Nat.ne_of_lt (lfl p hp), rfl, by dsimp only; simp⟩ ?_)
  rintro ⟨at_, ta, us, n, tl, done⟩ u h tk - ⟨p1, p2, p3, p4, p5, p6⟩ F' N'
  dsimp only at p1 p2 p3 p4 p5 p6 F' N' ⊢
  simp only [kstB] at F'
  clear lF' lN'
  (try k_unmd); (try k_fold)
  k_steps
  all_goals (try unfold Hold)
  · rename zof (ns.getD at_.toNat 0) = none => q1
    have k0 : runLen (ns.drop at_.toNat) = 0 := runLen_none p1 (by k_extra "ar") q1
    have k1 : 0 < (ns.drop at_.toNat).length := by rw [List.length_drop]; k_extra "ar"
    refine ksw_end ⟨at_ + 1, _, us, n, tl, done⟩ (by assumption) (by assumption) (fun p hp => List.mem_cons_of_mem _ hp) trivial (List.forall_mem_cons.mpr ⟨rfl, List.forall_mem_nil _⟩) (by (try dsimp +zetaDelta only); ksw_same) ?_ ?_
    · dsimp only
      refine ⟨by k_extra "ar", by k_extra "ar", p3, p4, ?_, by k_extra "ar"⟩
      rw [← p5, runs_no k1 k0, List.drop_drop, show at_.toNat + 1 = (at_ + 1).toNat by k_extra "ar"]
    · dsimp only; k_extra "ar"
  · rename zof (ns.getD at_.toNat 0) = some _ => q1
    rename Fr _ _ _ _ => lF'
    rename News _ _ _ _ => lN'
    rename _ ∧ AllLt _ _ => l1
    rename Int => z
    have q2 := runLen_some p1 (by k_extra "ar") q1
    refine cutRun lF' s ((fl, listOf us.toArray n) :: (tl ++ news)) (at_ + (runLen (ns.drop at_.toNat) : Nat)) at_ ns.length ?_ ?_
    · k_dflt (refine ksw_while (σ := Int × Tok) (fun _ => (fl, listOf us.toArray n) :: (tl ++ news)) (fun c => [(Str.ofString "end", .int c.1 c.2)]) (fun _ => True) [] (fun c => at_ + 1 ≤ c.1 ∧ c.1 ≤ ns.length ∧ at_ + (rlen z (ns.drop at_.toNat) : Nat) = c.1 + (rlen z (ns.drop c.1.toNat) : Nat)) (fun c => ((ns.length : Int) - c.1).toNat) (at_ + 1, _) lF' (cb_drop lN' (fun p hp => List.mem_cons_of_mem _ hp)) trivial (List.forall_mem_cons.mpr ⟨rfl, List.forall_mem_nil _⟩) ⟨Int.le_refl _, by dsimp only; k_extra "ar", by dsimp only; rw [rlen_step p1 (by k_extra "ar") q1]; k_extra "ar"⟩ ?_)
      rintro ⟨e, te⟩ u2 h9 tk9 - ⟨r1, r2, r3⟩ F' N'
      dsimp only at r1 r2 r3 F' ⊢
      simp only [kstB, List.contains_nil, Bool.false_eq_true, if_false] at F'
      clear lF' lN'
      (try k_unmd); (try k_fold)
      k_steps
      all_goals (try unfold Hold)
      · have q4 := rlen_stop (ns := ns) (e := e) (z := z) (by k_extra "ar") (by k_extra "ar") (by rename zof (ns.getD e.toNat 0) = none => q3; rw [q3]; exact fun h => nomatch h)
        rename Fr _ _ _ _ => F9
        rename News _ _ _ _ => N9
        exact .mk e te _ _ F9 N9 (by rw [q2]; k_extra "ar") r1 r2
      · rename zof (ns.getD e.toNat 0) = some _ => q3
        rename _ = z => q5
        rw [q5] at q3
        have q4 := rlen_step (by k_extra "ar") (by k_extra "ar") q3
        refine ksw_end (_, _) (by assumption) (by assumption) (fun _ h => h) trivial (List.forall_mem_cons.mpr ⟨rfl, List.forall_mem_nil _⟩) (by (try dsimp +zetaDelta only); ksw_same) ?_ ?_
        · dsimp only; refine ⟨by k_extra "ar", by k_extra "ar", ?_⟩; rw [r3, q4]; k_extra "ar"
        · dsimp only; k_extra "ar"
      · have q4 := rlen_stop (ns := ns) (e := e) (z := z) (by k_extra "ar") (by k_extra "ar") (by rename zof (ns.getD e.toNat 0) = some _ => q3; rename _ ≠ z => q5; rw [q3]; exact fun h => q5 (Option.some.inj h))
        rename Fr _ _ _ _ => F9
        rename News _ _ _ _ => N9
        exact .mk e te _ _ F9 N9 (by rw [q2]; k_extra "ar") r1 r2
      · have q4 := rlen_end (ns := ns) (e := e) (z := z) (by k_extra "ar")
        rename Fr _ _ _ _ => F9
        rename News _ _ _ _ => N9
        exact .mk e te _ _ F9 N9 (by rw [q2]; k_extra "ar") r1 r2
    · rintro f s9 ⟨e, te, h9, tk9, F9, N9, k9, r1, r2⟩
      clear lF' lN'
      (try k_unmd); (try k_fold)
      k_steps
      all_goals (try unfold Hold)
      rename News _ _ _ (_ :: _ :: _ :: _) => nN
      rename _ ∧ AllLt _ (tl ++ news) => l3
      rw [List.push_toArray] at nN
      refine ksw_end ⟨e, _, us ++ [.ref _], n + 1, (_, _) :: (_, _) :: tl, done ++ [(at_, e)]⟩ (by assumption) nN perm3 trivial (List.forall_mem_cons.mpr ⟨rfl, List.forall_mem_nil _⟩) (by (try dsimp +zetaDelta only); ksw_same) ?_ ?_
      · dsimp only
        refine ⟨by k_extra "ar", by k_extra "ar", ?_, ?_, ?_, by rw [List.length_append]; simp only [List.length_cons, List.length_nil]; k_extra "ar"⟩
        · exact .snoc (p3.mono (fun p hp => List.mem_cons_of_mem _ (List.mem_cons_of_mem _ hp))) ⟨_, _, _, _, _, _, _, _, _, _, _, _, rfl, .head _, .tail _ (.head _)⟩
        · intro p hp
          rcases List.mem_cons.mp hp with rfl | hp
          · exact Nat.ne_of_gt (by k_extra "ar")
          rcases List.mem_cons.mp hp with rfl | hp
          · exact Nat.ne_of_gt (by k_extra "ar")
          exact p4 p hp
        · rw [List.append_assoc, ← p5, runs_yes (by rw [List.length_drop]; k_extra "ar") (show 0 < runLen (ns.drop at_.toNat) by k_extra "ar"), List.drop_drop, ← k9, show at_.toNat + runLen (ns.drop at_.toNat) = e.toNat by k_extra "ar"]; rfl
      · dsimp only; k_extra "ar"
  · have k1 : ns.drop at_.toNat = [] := List.drop_eq_nil_of_le (by k_extra "ar")
    rw [k1, runs_nil, List.append_nil] at p5
    exact ret _ _ _ _ ⟨_, _, _, _, rfl, rfl, p5 ▸ p3, lfl⟩ (by assumption) (by assumption)
end
--@M
example : True := by ((k_with "specL" => (apply digit_runs_c; all_goals (walk_at "mine side"))); trivial)
--@E
example : True := by
  w_top off
  trivial
/-! ## _law_run -/
theorem zeroAt_zof (ns : List Int) (i : Int) : zeroAt ns i = if i < (ns.length : Int) then zof (ns.getD i.toNat 0) else none := rfl
theorem law_zero_d (w : World) (news : Led) (l : Addr) (ns : List Int) (i : Int) (ti : Tok) (hl : TL news l ns) (hn : ns.length < 100) (h0 : 0 ≤ i) (h1 : i < 200) :
    Spec w 320 [.ref l, .int i ti] 1 news (fun v nx => nx = news ∧ ((zeroAt ns i = none ∧ v = .none) ∨ ∃ z t, zeroAt ns i = some z ∧ v = .int z t)) := by
  refine (law_zero_c w news l ns i ti hl hn h0 h1).mono ?_
  rintro v nx ⟨e, h⟩
  refine ⟨e, ?_⟩
  cases hz : zeroAt ns i with
  | none => rw [hz] at h; exact .inl ⟨rfl, h⟩
  | some z => rw [hz] at h; obtain ⟨t, ht⟩ := h; exact .inr ⟨z, t, rfl, ht⟩
theorem zeroAt_lt {ns : List Int} {i z : Int} (h : zeroAt ns i = some z) : i < (ns.length : Int) ∧ zof (ns.getD i.toNat 0) = some z := by
  rw [zeroAt_zof] at h
  split at h
  · exact ⟨by assumption, h⟩
  · cases h
example : True := by ((k_with "afterN" => ((rename zeroAt _ _ = some _ => zq; obtain ⟨zq2, zq3⟩ := zeroAt_lt zq))); trivial)
--@M
example : True := by ((k_with "specN" => (apply law_zero_d; all_goals (walk_at "mine side"))); trivial)
--@E
theorem tup2_e {a b c d : Int} {u v : Tok} (h : a = b) (k : c = d) : tup2 a u c v = tup2 b u d v := by rw [h, k]
theorem take_snoc {ns : List Int} {i e : Int} (h0 : 0 ≤ i) (h1 : i ≤ e) (h2 : e < (ns.length : Int)) : (ns.drop i.toNat).take (e + 1 - i).toNat = (ns.drop i.toNat).take (e - i).toNat ++ [ns.getD e.toNat 0] := by
  have hlt : e.toNat < ns.length := tn_lt (Int.le_trans h0 h1) h2
  have hl : (e - i).toNat < (ns.drop i.toNat).length := by rw [List.length_drop, tsub h0]; exact Nat.sub_lt_sub_right (Int.toNat_le_toNat h1) hlt
  rw [show (e + 1 - i).toNat = (e - i).toNat + 1 by rw [Int.add_comm e 1, Int.add_sub_assoc, Int.add_comm 1]; exact tn_s (Int.sub_nonneg.mpr h1), List.take_succ_eq_append_getElem hl, List.getElem_drop]
  congr 2
  have e1 : i.toNat + (e - i).toNat = e.toNat := by rw [tsub h0]; exact Nat.add_sub_cancel' (Int.toNat_le_toNat h1)
  simp [List.getD, e1, hlt]
theorem law_run_c (w : World) (news : Led) (l : Addr) (ns : List Int) (i : Int) (ti : Tok) (hl : TL news l ns) (hn : ns.length < 100) (h0 : 0 ≤ i) (h1 : i < 100) :
    Spec w 327 [.ref l, .int i ti] 2 news (fun v nx => ∃ T u1 u2, v = .ref T ∧ nx = (T, tup2 (i + (runLen (ns.drop i.toNat) : Nat)) u1 (decV ((ns.drop i.toNat).take (runLen (ns.drop i.toNat)))) u2) :: news ∧ ∀ p ∈ news, p.1 < T) := by
  intro mean mg mb dp un gd cn cs a ccd cl outer A₀ base h₀ L m s Q E B F X N T hk hd hu ret
  refine wpAny_call ?_
  k_dflt ktr_enter
  rename Fr _ _ _ _ => F0
  have F1 : Fr _ _ _ (fun y => List.lookup y [(Str.ofString "at", Value.int i ti), (Str.ofString "text", Value.ref l)]) := F0
  clear F0
  k_steps
  · rename zeroAt ns i = none => q1
    have q2 : runLen (ns.drop i.toNat) = 0 := by
      by_cases hi : i < (ns.length : Int)
      · rw [zeroAt_zof, if_pos hi] at q1; exact runLen_none h0 hi q1
      · exact runLen_end (by k_extra "ar")
    unfold Hold
    rename Fr _ _ _ _ => lF'
    rename News _ _ _ _ => lN'
    k_dflt (refine ksw_while (σ := Unit) (fun _ => news) (fun _ => []) (fun _ => True) [] (fun _ => True) (fun _ => 0) () lF' (cb_drop lN' (fun p hp => List.mem_cons_of_mem _ hp)) trivial (List.forall_mem_nil _) trivial ?_)
    rintro ⟨⟩ u h tk - - F' N'
    dsimp only at F' ⊢
    simp only [kstB, List.contains_nil, Bool.false_eq_true, if_false] at F'
    clear lF' lN'
    (try k_unmd); (try k_fold)
    k_steps
    refine ret _ _ _ _ ⟨_, _, _, rfl, congrArg (fun q => (_, q) :: news) (tup2_e ?_ ?_), by assumption⟩ (by assumption) (by assumption)
    · k_extra "ar"
    · rw [q2]; rfl
  · rename zeroAt ns i = some _ => q0
    have q1 := zeroAt_lt q0
    have q2 := runLen_some h0 q1.1 q1.2
    unfold Hold
    rename Fr _ _ _ _ => lF'
    rename News _ _ _ _ => lN'
    rename_i z tz _ _ _ _ D0 h5 l5 h6 h7 mq1 h8
    k_dflt (refine ksw_while (σ := Int × Tok × Int × Tok) (fun _ => news) (fun c => [(Str.ofString "at", .int c.1 c.2.1), (Str.ofString "number", .int c.2.2.1 c.2.2.2)]) (fun _ => True) [] (fun c => i ≤ c.1 ∧ c.1 ≤ ns.length ∧ i + (rlen z (ns.drop i.toNat) : Nat) = c.1 + (rlen z (ns.drop c.1.toNat) : Nat) ∧ c.2.2.1 = decV ((ns.drop i.toNat).take (c.1 - i).toNat)) (fun c => ((ns.length : Int) - c.1).toNat) (i, _, 0, _) lF' (cb_drop lN' (fun p hp => List.mem_cons_of_mem _ hp)) trivial (List.forall_mem_cons.mpr ⟨rfl, List.forall_mem_cons.mpr ⟨rfl, List.forall_mem_nil _⟩⟩) ⟨Int.le_refl _, by dsimp only; k_extra "ar", rfl, by simp [decV]⟩ ?_)
    rintro ⟨e, te, num, tn⟩ u h tk - ⟨p1, p2, p3, p4⟩ F' N'
    dsimp only at p1 p2 p3 p4 F' ⊢
    simp only [kstB, List.contains_nil, Bool.false_eq_true, if_false] at F'
    clear lF' lN'
    (try k_unmd); (try k_fold)
    k_steps
    all_goals (try unfold Hold)
    · rename zeroAt ns e = none => q3
      have q4 : rlen z (ns.drop e.toNat) = 0 := by
        by_cases he : e < (ns.length : Int)
        · rw [zeroAt_zof, if_pos he] at q3; exact rlen_stop (by k_extra "ar") he (by rw [q3]; exact fun h => nomatch h)
        · exact rlen_end (by k_extra "ar")
      rw [q4] at p3
      refine ret _ _ _ _ ⟨_, _, _, rfl, congrArg (fun q => (_, q) :: news) (tup2_e ?_ ?_), by assumption⟩ (by assumption) (by assumption)
      · k_extra "ar"
      · rw [p4, q2, show (e - i).toNat = rlen z (ns.drop i.toNat) by k_extra "ar"]
    · rename zof (ns.getD e.toNat 0) = some _ => q3
      rename _ = z => q5
      rw [q5] at q3
      have q4 := rlen_step (by k_extra "ar") (by k_extra "ar") q3
      refine ksw_end (_, _, _, _) (by assumption) (by assumption) (fun _ h => h) trivial (List.forall_mem_cons.mpr ⟨rfl, List.forall_mem_cons.mpr ⟨rfl, List.forall_mem_nil _⟩⟩) (by (try dsimp +zetaDelta only); ksw_same) ?_ ?_
      · dsimp only; refine ⟨by k_extra "ar", by k_extra "ar", ?_, ?_⟩
        · rw [p3, q4]; k_extra "ar"
        · rw [take_snoc h0 p1 (by k_extra "ar"), decV_snoc, val_of q3, p4]; k_extra "ar"
      · dsimp only; k_extra "ar"
    · rename zof (ns.getD e.toNat 0) = some _ => q3
      rename _ ≠ z => q5
      have q4 := rlen_stop (ns := ns) (e := e) (z := z) (by k_extra "ar") (by k_extra "ar") (by rw [q3]; exact fun h => q5 (Option.some.inj h))
      rw [q4] at p3
      refine ret _ _ _ _ ⟨_, _, _, rfl, congrArg (fun q => (_, q) :: news) (tup2_e ?_ ?_), by assumption⟩ (by assumption) (by assumption)
      · k_extra "ar"
      · rw [p4, q2, show (e - i).toNat = rlen z (ns.drop i.toNat) by k_extra "ar"]
--@M
example : True := by ((k_with "specT" => (apply law_run_c; all_goals (walk_at "mine side"))); trivial)
--@E
example : True := by
  w_top off
  trivial
/-! ## _law_lowest -/
--@M
local macro_rules | `(tactic| walk_at "mine enterC") => `(tactic| (refine' code_defC ?k1 ?k2 ?k3 ?k4 ?k5 ?kA ?kF ?kK ?k6 ?k7 ?k8 ?k9 ?kB ?kD ?_ ?c2 ?c3 ?c4; (case kA => exact rfl); (case kF => exact rfl); (case kK => assumption); (case k1 => k_asm); (case k2 => k_asm); (case k3 => k_asm); (case k4 => k_asm); (case k5 => k_asm); (case k6 => k_is); (case k7 => k_is); (case k8 => ktr_room); (case k9 => exact BindsTo.of_eq rfl); (case kB => exact rfl); (case kD => decide +kernel); (case c2 => exact rfl); (case c3 => exact rfl); (case c4 => exact rfl); k_whole; intro g' L' h' tk' cells' FG' F' N' Y' B' X' T' l1; (try k_lt l1); k_cells Y'; (try simp only [List.cons_append, List.nil_append] at N'); (try dsimp only); (try k_fold)))
--@E
def lowG (a b : Int) (l : List Int) (k : Int) : List Int := if a.fmod k = 0 ∧ b.fmod k = 0 then l ++ [k] else l
theorem lowG_mem {a b : Int} : ∀ (ks l : List Int) (x : Int), x ∈ ks.foldl (lowG a b) l ↔ x ∈ l ∨ (x ∈ ks ∧ a.fmod x = 0 ∧ b.fmod x = 0)
  | [], l, x => by simp
  | k :: ks, l, x => by
    rw [List.foldl_cons, lowG_mem ks, lowG]
    by_cases h : a.fmod k = 0 ∧ b.fmod k = 0
    · rw [if_pos h, List.mem_append, List.mem_singleton, List.mem_cons]
      constructor
      · rintro ((h1 | rfl) | h1)
        · exact .inl h1
        · exact .inr ⟨.inl rfl, h⟩
        · exact .inr ⟨.inr h1.1, h1.2⟩
      · rintro (h1 | ⟨rfl | h1, h2⟩)
        · exact .inl (.inl h1)
        · exact .inl (.inr rfl)
        · exact .inr ⟨h1, h2⟩
    · rw [if_neg h, List.mem_cons]
      constructor
      · rintro (h1 | h1)
        · exact .inl h1
        · exact .inr ⟨.inr h1.1, h1.2⟩
      · rintro (h1 | ⟨rfl | h1, h2⟩)
        · exact .inl h1
        · exact absurd h2 h
        · exact .inr ⟨h1, h2⟩
theorem fmod_dvd {a k : Int} (hk : 0 < k) : a.fmod k = 0 ↔ k ∣ a := by
  rw [Int.fmod_eq_emod_of_nonneg _ (by k_extra "ar")]; exact Int.dvd_iff_emod_eq_zero.symm
theorem low_max {a b M : Int} {n : Nat} (hb : 0 < b) (hn : (n : Int) = b) (h1 : M ∈ (rangeKs 1 n).foldl (lowG a b) []) (h2 : ∀ x, x ∈ (rangeKs 1 n).foldl (lowG a b) [] → x ≤ M) : M = (Int.gcd a b : Nat) := by
  rw [lowG_mem] at h1
  have hg := gcd_bd a hb
  rcases h1 with h1 | ⟨h1, h3, h4⟩
  · cases h1
  · have hM := mem_rangeKs h1
    rw [fmod_dvd (by k_extra "ar")] at h3 h4
    have h5 : M ∣ (Int.gcd a b : Nat) := Int.dvd_coe_gcd h3 h4
    have h6 := Int.le_of_dvd hg.1 h5
    have h7 : ((Int.gcd a b : Nat) : Int) ≤ M := by
      refine h2 _ ((lowG_mem _ _ _).mpr (.inr ⟨?_, ?_, ?_⟩))
      · unfold rangeKs
        refine List.mem_map.mpr ⟨Int.gcd a b - 1, List.mem_range.mpr (by k_extra "ar"), by k_extra "ar"⟩
      · rw [fmod_dvd hg.1]; exact Int.gcd_dvd_left ..
      · rw [fmod_dvd hg.1]; exact Int.gcd_dvd_right ..
    k_extra "ar"
section
local macro_rules | `(tactic| walk_at $s:str) => do
  let t := Lean.Syntax.mkStrLit ("si21 " ++ s.getString)
  `(tactic| k_extra $t)
example : True := by ((k_with "si21 CompSrcT" => ((refine hold ?_))); trivial)
example : True := by ((k_with "si21 CompEnd" => ((refine hold ?_))); trivial)
example : True := by ((k_with "si21 call builtin:max cons nil" => ((refine hold ?_))); trivial)
theorem law_lowest_c (w : World) (news : Led) (a b : Int) (ta tb : Tok) (h0 : 0 ≤ a) (hb : 0 < b) (hb2 : b < 1000) :
    Spec w 332 [.int a ta, .int b tb] 2 news (fun v nx => ∃ T u1 u2, v = .ref T ∧ nx = (T, tup2 (lowP a b).1 u1 (lowP a b).2 u2) :: news ∧ ∀ p ∈ news, p.1 < T) := by
  intro mean mg mb dp un gd cn cs a0 ccd cl outer A₀ base h₀ L m s Q E B F X N T hk hd hu ret
  refine wpAny_call ?_
  k_dflt walk_at "mine enterC"
  k_steps
  unfold Hold
  k_dflt (refine LCt.CompSrcT.range (by rfl) (by k_asm) (by k_asm) (by assumption) (small_one (by k_extra "ar") (by k_extra "ar") (by k_extra "ar") (by k_extra "ar")) (rangeSize_nat _ _) (by rw [PySem.sizeLine_eq]; k_extra "ar") ?_)
  intro g
  refine kci_range (lowG a b) (fun k t I oI C oC D m₂ ys l h tk E' hlo hhi hI hC hx F N off ne hm => ?_) ?_ ?_
  · k_steps
    all_goals (try unfold Hold)
    · exact LCg.CompEnd.intro (by assumption) N _ (fun _ h => h) off True.intro ⟨rfl, k, t, rfl, by unfold lowG; rw [if_pos ⟨by assumption, by assumption⟩]⟩
    · rename ¬ b.fmod k = 0 => q1
      exact LCg.CompEnd.intro (by assumption) N _ (fun _ h => h) off True.intro ⟨rfl, by unfold lowG; rw [if_neg (fun h => q1 h.2)]⟩
    · rename ¬ a.fmod k = 0 => q1
      exact LCg.CompEnd.intro (by assumption) N _ (fun _ h => h) off True.intro ⟨rfl, by unfold lowG; rw [if_neg (fun h => q1 h.1)]⟩
  · intro ys hy hlen
    k_steps
    unfold Hold
    rename News _ _ _ _ => nN
    rename Fr _ _ _ _ => nF
    have hg := gcd_bd a hb
    have hin : ((Int.gcd a b : Nat) : Int) ∈ (rangeKs 1 (b + 1 - 1).toNat).foldl (lowG a b) [] := by
      refine (lowG_mem _ _ _).mpr (.inr ⟨?_, ?_, ?_⟩)
      · unfold rangeKs
        refine List.mem_map.mpr ⟨Int.gcd a b - 1, List.mem_range.mpr (by k_extra "ar"), by k_extra "ar"⟩
      · rw [fmod_dvd hg.1]; exact Int.gcd_dvd_left ..
      · rw [fmod_dvd hg.1]; exact Int.gcd_dvd_right ..
    k_dflt (refine max_list_N rfl nF nN ⟨_, (nN _ (.head _)).1, rfl, _, rfl⟩ hy (List.length_pos_iff.mpr (List.ne_nil_of_mem hin)) ?_)
    intro h2 M tM tk2 F2 N2 hM hle
    have hMe := low_max hb (by k_extra "ar") hM hle
    subst hMe
    clear nF nN
    k_steps
    exact ret _ _ _ _ ⟨_, _, _, rfl, rfl, by rename _ ∧ _ => q9; exact ktn_ltOf q9.2.2.2⟩ (by assumption) (cb_drop (by assumption) (by kcf_all))
  · intro l k; unfold lowG; split <;> simp
end
example : True := by first | walk1 | trivial
--@M
example : True := by ((k_with "specT" => (apply law_lowest_c; all_goals (walk_at "mine side"))); trivial)
--@E
example : True := by
  w_top off
  trivial
--@nofill
/-! ## what the law's own look tells -/
/-- what the law's own look tells of the number at a text's head -/
def metVal (s : List Int) : Option (Int × Int) :=
  if numLen s = 0 then none
  else if 0 < runLen s ∧ (s.drop (runLen s)).head? = some 8260 ∧ runLen s < numLen s ∧ 1000 ≤ decV ((s.drop (runLen s + 1)).take (runLen (s.drop (runLen s + 1)))) then none
  else some (fracV (s.take (numLen s)))
def optD : Option (Int × Int) → Dat
  | some p => dPair p.1 p.2
  | none => .none
abbrev metO (e : Int) (u : Tok) (x : Value) : Obj := { cls := .type "tuple", data := .seq #[Value.int e u, x] }
inductive MOut (news : Led) (i : Int) (s : List Int) (v : Value) (nx : Led) : Prop
  | mk (T : Addr) (u : Tok) (z1 : v = .ref T) (z2 : (∀ p ∈ news, p.1 < T)) (z3 : ((metVal s = none ∧ nx = (T, metO (i + (numLen s : Nat)) u .none) :: news) ∨
    ∃ (p : Int × Int) (T2 : Addr) (u1 u2 : Tok), metVal s = some p ∧ nx = (T, metO (i + (numLen s : Nat)) u (.ref T2)) :: (T2, tup2 p.1 u1 p.2 u2) :: news ∧ ∀ p ∈ news, p.1 < T2)) : MOut news i s v nx
theorem met_run {s : List Int} (hr : runLen s ≠ 0) (hn : numLen s = runLen s) : metVal s = some (decV (s.take (runLen s)), 1) := by
  unfold metVal
  rw [if_neg (by k_extra "ar"), if_neg (fun h => by k_extra "ar"), hn]
  unfold fracV
  rw [runLen_take (Nat.le_refl _), if_neg hr]
  simp
theorem met_end {s : List Int} (hr : runLen s ≠ 0) (hd : s.drop (runLen s) = []) : numLen s = runLen s := by
  unfold numLen; rw [if_neg hr, hd]
theorem met_sgn {s t : List Int} {d : Int} {p : Int × Int} (hr : runLen s ≠ 0) (hd : s.drop (runLen s) = d :: t) (hs : sgn d = some p) : numLen s = if 0 < p.1 ∧ p.1 < p.2 then runLen s + 1 else runLen s := by
  unfold numLen; rw [if_neg hr, hd]; simp only [hs]
theorem met_non {s t : List Int} {d : Int} (hr : runLen s ≠ 0) (hd : s.drop (runLen s) = d :: t) (hs : sgn d = none) :
    numLen s = if d = 8260 ∧ 0 < runLen t ∧ t.head?.bind zof = s.head?.bind zof ∧ decV (t.take (runLen t)) ≠ 0 then runLen s + 1 + runLen t else runLen s := by
  conv => lhs; unfold numLen
  rw [if_neg hr, hd]; simp only [hs]
theorem met_sgnV {s t : List Int} {d : Int} {p : Int × Int} (hr : runLen s ≠ 0) (hd : s.drop (runLen s) = d :: t) (hs : sgn d = some p) (h1 : 0 < p.1) (h2 : p.1 < p.2) : numLen s = runLen s + 1 ∧ metVal s = some (lowP (decV (s.take (runLen s)) * p.2 + p.1) p.2) := by
  have hn := met_sgn hr hd hs
  rw [if_pos ⟨h1, h2⟩] at hn
  refine ⟨hn, ?_⟩
  unfold metVal
  rw [if_neg (by k_extra "ar"), if_neg, hn]
  · unfold fracV
    rw [runLen_take (by k_extra "ar"), if_neg hr, List.drop_take, hd, Nat.add_sub_cancel_left, List.take_succ_cons, List.take_zero]
    simp only [hs]
    rw [List.take_take, Nat.min_eq_left (by k_extra "ar"), Int.mul_one, Int.one_mul]
  · rintro ⟨_, h, _⟩
    rw [hd] at h
    simp only [List.head?_cons, Option.some.injEq] at h
    rw [h] at hs; cases hs
theorem met_slashV {s t : List Int} (hr : runLen s ≠ 0) (hd : s.drop (runLen s) = 8260 :: t) (h1 : 0 < runLen t) (h2 : t.head?.bind zof = s.head?.bind zof) (h3 : decV (t.take (runLen t)) ≠ 0) :
    numLen s = runLen s + 1 + runLen t ∧ (1000 ≤ decV (t.take (runLen t)) → metVal s = none) ∧ (decV (t.take (runLen t)) < 1000 → metVal s = some (lowP (decV (s.take (runLen s))) (decV (t.take (runLen t))))) := by
  have hn := met_non hr hd rfl
  rw [if_pos ⟨rfl, h1, h2, h3⟩] at hn
  have hdd : s.drop (runLen s + 1) = t := by rw [← List.drop_drop, hd]; rfl
  refine ⟨hn, fun h => ?_, fun h => ?_⟩
  · unfold metVal
    rw [if_neg (by k_extra "ar"), if_pos ⟨by k_extra "ar", by rw [hd]; rfl, by k_extra "ar", by rw [hdd]; exact h⟩]
  · unfold metVal
    rw [if_neg (by k_extra "ar"), if_neg (by rw [hdd]; intro h9; k_extra "ar"), hn]
    unfold fracV
    rw [runLen_take (by k_extra "ar"), if_neg hr, List.drop_take, hd, show runLen s + 1 + runLen t - runLen s = runLen t + 1 by rw [Nat.add_assoc, Nat.add_sub_cancel_left, Nat.add_comm], List.take_succ_cons]
    simp only [show sgn 8260 = none from rfl]
    rw [List.take_take, Nat.min_eq_left (by k_extra "ar")]
theorem met_sgn0 {c : Int} {r : List Int} {p : Int × Int} (hr : runLen (c :: r) = 0) (hs : sgn c = some p) : numLen (c :: r) = 1 ∧ metVal (c :: r) = some p := by
  have hn : numLen (c :: r) = 1 := by unfold numLen; rw [if_pos hr]; simp only [hs, Option.isSome_some, if_true]
  refine ⟨hn, ?_⟩
  unfold metVal
  rw [if_neg (by k_extra "ar"), if_neg (fun h => by k_extra "ar"), hn]
  unfold fracV
  rw [List.take_succ_cons, List.take_zero, if_pos (by rw [runLen, sgn_zof hs])]
  simp only [hs]; rfl
theorem met_no {c : Int} {r : List Int} (hr : runLen (c :: r) = 0) (hs : sgn c = none) : numLen (c :: r) = 0 ∧ metVal (c :: r) = none := by
  have hn : numLen (c :: r) = 0 := by unfold numLen; rw [if_pos hr]; simp only [hs]; rfl
  exact ⟨hn, by unfold metVal; rw [if_pos hn]⟩
theorem mout_none {news : Led} {i e : Int} {s : List Int} {D : Addr} {u : Tok} (he : e = i + (numLen s : Nat)) (hv : metVal s = none) (hl : ∀ p ∈ news, p.1 < D) : MOut news i s (.ref D) ((D, metO e u .none) :: news) :=
  ⟨D, u, rfl, hl, .inl ⟨hv, by rw [he]⟩⟩
theorem mout_pair {news : Led} {i e : Int} {s : List Int} {D T2 : Addr} {u u1 u2 : Tok} {p : Int × Int} (he : e = i + (numLen s : Nat)) (hv : metVal s = some p) (hl : ∀ p ∈ news, p.1 < D) (hl2 : ∀ p ∈ news, p.1 < T2) :
    MOut news i s (.ref D) ((D, metO e u (.ref T2)) :: (T2, tup2 p.1 u1 p.2 u2) :: news) :=
  ⟨D, u, rfl, hl, .inr ⟨p, T2, u1, u2, hv, by rw [he], hl2⟩⟩
example : True := by
  w_top off
  trivial
/-! ## _law_signs -/
inductive IsSigns (w : World) (news : Led) (D : Addr) : Prop
  | mk (o : Obj) (kvs : List (Int × Value)) (z1 : (D, o) ∈ news) (z2 : (D == sysModules) = false) (z3 : o.IsDictOf (PySem.intKind PP w) kvs) (z4 : ∀ c : Int, match sgn c with
      | some p => ∃ (T : Addr) (u1 u2 : Tok), valueAt kvs c = some (.ref T) ∧ (T, tup2 p.1 u1 p.2 u2) ∈ news ∧ @LT.lt Nat _ D T
      | none => valueAt kvs c = none) : IsSigns w news D
theorem rot {α : Type} {x : α} (tl r : List α) : ∀ p ∈ x :: (tl ++ r), p ∈ tl ++ x :: r := by
  intro p hp
  simp only [List.mem_cons, List.mem_append] at hp ⊢
  rcases hp with h | h | h
  · exact .inr (.inl h)
  · exact .inl h
  · exact .inr (.inr h)
theorem signs_of {news : Led} {D T0 T1 T2 T3 T4 T5 T6 T7 : Addr} {a0 b0 a1 b1 a2 b2 a3 b3 a4 b4 a5 b5 a6 b6 a7 b7 : Tok} (h0 : (T0, tup2 1 a0 2 b0) ∈ news) (h1 : (T1, tup2 1 a1 5 b1) ∈ news) (h2 : (T2, tup2 7 a2 2 b2) ∈ news) (h3 : (T3, tup2 5 a3 1 b3) ∈ news) (h4 : (T4, tup2 2 a4 1 b4) ∈ news) (h5 : (T5, tup2 0 a5 1 b5) ∈ news) (h6 : (T6, tup2 (-1) a6 2 b6) ∈ news) (h7 : (T7, tup2 7 a7 8 b7) ∈ news) (g0 : @LT.lt Nat _ D T0) (g1 : @LT.lt Nat _ D T1) (g2 : @LT.lt Nat _ D T2) (g3 : @LT.lt Nat _ D T3) (g4 : @LT.lt Nat _ D T4) (g5 : @LT.lt Nat _ D T5) (g6 : @LT.lt Nat _ D T6) (g7 : @LT.lt Nat _ D T7) :
    ∀ c : Int, match sgn c with
      | some p => ∃ (T : Addr) (u1 u2 : Tok), valueAt [((189 : Int), Value.ref T0), ((8533 : Int), Value.ref T1), ((3884 : Int), Value.ref T2), ((8548 : Int), Value.ref T3), ((178 : Int), Value.ref T4), ((12295 : Int), Value.ref T5), ((3891 : Int), Value.ref T6), ((8542 : Int), Value.ref T7)] c = some (.ref T) ∧ (T, tup2 p.1 u1 p.2 u2) ∈ news ∧ @LT.lt Nat _ D T
      | none => valueAt [((189 : Int), Value.ref T0), ((8533 : Int), Value.ref T1), ((3884 : Int), Value.ref T2), ((8548 : Int), Value.ref T3), ((178 : Int), Value.ref T4), ((12295 : Int), Value.ref T5), ((3891 : Int), Value.ref T6), ((8542 : Int), Value.ref T7)] c = none := by
  intro c
  by_cases c0 : c = 189
  · subst c0; exact ⟨_, _, _, rfl, h0, g0⟩
  by_cases c1 : c = 8533
  · subst c1; exact ⟨_, _, _, rfl, h1, g1⟩
  by_cases c2 : c = 3884
  · subst c2; exact ⟨_, _, _, rfl, h2, g2⟩
  by_cases c3 : c = 8548
  · subst c3; exact ⟨_, _, _, rfl, h3, g3⟩
  by_cases c4 : c = 178
  · subst c4; exact ⟨_, _, _, rfl, h4, g4⟩
  by_cases c5 : c = 12295
  · subst c5; exact ⟨_, _, _, rfl, h5, g5⟩
  by_cases c6 : c = 3891
  · subst c6; exact ⟨_, _, _, rfl, h6, g6⟩
  by_cases c7 : c = 8542
  · subst c7; exact ⟨_, _, _, rfl, h7, g7⟩
  have hs : sgn c = none := by unfold sgn; rw [if_neg c0, if_neg c1, if_neg c2, if_neg c3, if_neg c4, if_neg c5, if_neg c6, if_neg c7]
  rw [hs]
  unfold valueAt
  simp only [List.find?_cons, List.find?_nil, Ne.symm c0, Ne.symm c1, Ne.symm c2, Ne.symm c3, Ne.symm c4, Ne.symm c5, Ne.symm c6, Ne.symm c7, decide_false, Option.map_none]
inductive SignsOut (w : World) (news : Led) : Value → Led → Prop
  | mk (D : Addr) (o : Obj) (tl : Led) (s : IsSigns w ((D, o) :: (tl ++ news)) D) (l : ∀ p ∈ news, p.1 < D) : SignsOut w news (.ref D) ((D, o) :: (tl ++ news))
section
example : True := by ((k_with "all" => (exact fun p hp => Nat.ne_of_lt ((by assumption : ∀ p ∈ _, p.1 < _) p hp))); trivial)
local macro_rules | `(tactic| walk_at "eval Dict cons cons") => `(tactic| (k_here; k_dflt (refine' kdn_int ?q ?F ?N ?b ?a ?l ?e ?n ?_; (case q => rfl); (case F => k_asm); (case N => k_asm); (case b => exact Top.nolimit (by k_asm)); (case a => rfl); (case l => rfl); (case e => exact List.cons_ne_nil _ _); (case n => exact Nat.le_of_ble_eq_true rfl)); intro d' h' o' F' N' l1 lo' hd'; (try k_lt l1)))
local macro_rules | `(tactic| walk_at "KdnMade") => `(tactic| (k_here; k_dflt ((refine' kdn_made_int ?F ?N ?U ?d ?k ?n ?_; (case F => k_asm); (case N => k_asm); (case U => k_updF); (case d => k_asm); (case k => rfl); (case n => exact of_decide_eq_true (by first | rfl | kernel_rfl!)); intro h' o' F' N' hd')); (try dsimp only at N')))
theorem law_signs_c (w : World) (news : Led) :
    Spec w 291 [] 1 news (SignsOut w news) := by
  intro mean mg mb dp un gd cn cs a ccd cl outer A₀ base h₀ L m s Q E B F X N T hk hd hu ret
  refine wpAny_call ?_
  k_dflt ktr_enter
  rename Fr _ _ _ _ => F0
  have F1 : Fr _ _ _ (fun y => List.lookup y ([] : List (Str × Value))) := F0
  clear F0
  k_steps
  rename News _ _ _ _ => nN
  refine ret _ _ _ _ ⟨_, _, [_, _, _, _, _, _, _, _], ⟨_, _, .head _, by assumption, by assumption, ?_⟩, by assumption⟩ (by assumption) (cb_drop nN (rot [_, _, _, _, _, _, _, _] news))
  exact signs_of (by refine List.mem_cons_of_mem _ ?_; kcf_m) (by refine List.mem_cons_of_mem _ ?_; kcf_m) (by refine List.mem_cons_of_mem _ ?_; kcf_m) (by refine List.mem_cons_of_mem _ ?_; kcf_m) (by refine List.mem_cons_of_mem _ ?_; kcf_m) (by refine List.mem_cons_of_mem _ ?_; kcf_m) (by refine List.mem_cons_of_mem _ ?_; kcf_m) (by refine List.mem_cons_of_mem _ ?_; kcf_m) (by k_extra "ar") (by k_extra "ar") (by k_extra "ar") (by k_extra "ar") (by k_extra "ar") (by k_extra "ar") (by k_extra "ar") (by k_extra "ar")
end
example : True := by first | walk1 | trivial
example : True := by
  w_top off
  trivial
/-! ## _law_met -/
theorem IsSigns.mono {w : World} {news news' : Led} {D : Addr} (h : IsSigns w news D) (s : ∀ p ∈ news, p ∈ news') : IsSigns w news' D := by
  obtain ⟨o, kvs, a, b, c, d⟩ := h
  refine ⟨o, kvs, s _ a, b, c, fun k => ?_⟩
  have := d k
  split
  · rename_i p hp; rw [hp] at this; obtain ⟨T, u1, u2, e, m, g⟩ := this; exact ⟨T, u1, u2, e, s _ m, g⟩
  · rename_i hp; rw [hp] at this; exact this
section
variable {w : World} {A : Around} {E : Value → Shared → Prop} {s : Shared} {h₀ : Heap} {L D : Addr} {cur : Led} {c : Int} {t : Tok}
theorem sg_in {Q : Value → Shared → Prop} (N : News h₀ L s.heap cur) (S : IsSigns w cur D) (h : Q (.bool (sgn c).isSome) { s with toks := s.toks + 1 }) : wpAny (model PP w) A (compareOp .In (.int c t) (.ref D)) Q E s := by
  obtain ⟨o, kvs, m, lo, hd, hv⟩ := S
  refine kda_in N m hd lo (intKind_is _ _ _ _) (sgn c).isSome ?_ h
  have := hv c
  split at this
  · rename_i p hp; obtain ⟨T, u1, u2, e, _⟩ := this; rw [e, hp]; rfl
  · rename_i hp; rw [this, hp]; rfl
theorem sg_item {value slice : PySem.Expr} {Q : Value → Shared → Prop} (N : News h₀ L s.heap cur) (S : IsSigns w cur D) (hc : (sgn c).isSome = true)
    (h : ∀ p T u1 u2, sgn c = some p → (T, tup2 p.1 u1 p.2 u2) ∈ cur → @LT.lt Nat _ D T → Q (.ref T) { s with toks := s.toks + 1 })
    (hs : subscripted slice false (.ref D) (.int c t) = operate [.ref D, .int c t] (getItem (.ref D) (.int c t)) := by with_unfolding_all rfl) (hg : ∀ r, letTemporaryGo value (.ref D) r = pure () := by intro _; with_unfolding_all rfl) :
    wpAny (model PP w) A (subscriptTail value slice (.ref D) (.int c t)) Q E s := by
  obtain ⟨o, kvs, m, lo, hd, hv⟩ := S
  have := hv c
  split at this
  · rename_i p hp
    obtain ⟨T, u1, u2, e, mT, g⟩ := this
    exact kda_item N m hd (intKind_is _ _ _ _) e (h p T u1 u2 hp mT g) hs hg
  · rename_i hp; rw [hp] at hc; cases hc
theorem sg_method {pl : Sem Bool} {Q : Value × List Value → Shared → Prop} (N : News h₀ L s.heap cur) (S : IsSigns w cur D) (h : Q (.builtin "dict.get", [.ref D]) s) : wpAny (model PP w) A (getMethod (.ref D) "get" pl) Q E s := by
  obtain ⟨o, kvs, m, lo, hd, hv⟩ := S
  exact kdg_method N m hd h
theorem sg_get {dflt : Value} {Q : Value → Shared → Prop} (N : News h₀ L s.heap cur) (S : IsSigns w cur D)
    (h1 : ∀ p T u1 u2, sgn c = some p → (T, tup2 p.1 u1 p.2 u2) ∈ cur → Q (.ref T) { s with toks := s.toks + 1 }) (h2 : sgn c = none → Q dflt { s with toks := s.toks + 1 }) :
    wpAny (model PP w) A (call (.builtin "dict.get") [.ref D, .int c t, dflt]) Q E s := by
  obtain ⟨o, kvs, m, lo, hd, hv⟩ := S
  have := hv c
  refine kdg_get2 N m hd lo (intKind_is _ _ _ _) _ rfl ?_
  split at this
  · rename_i p hp; obtain ⟨T, u1, u2, e, mT, _⟩ := this; rw [e]; exact h1 p T u1 u2 hp mT
  · rename_i hp; rw [this]; exact h2 hp
end
theorem dec_run_nn (s : List Int) : 0 ≤ decV (s.take (runLen s)) := by
  by_cases h : 0 < runLen s
  · obtain ⟨z, _, hz⟩ := run_all h
    exact (decV_bd _ (fun c hc => by rw [hz c hc]; rfl)).1
  · rw [show runLen s = 0 by k_extra "ar"]; exact Int.le_refl _
theorem low_nonneg {x a b : Int} (h : 0 ≤ x) (ha : 0 < a) (hb : a < b) : 0 ≤ x * b + a := by
  have := Int.mul_nonneg h (show 0 ≤ b by k_extra "ar"); k_extra "ar"
example : True := by ((k_with "side" => (first | exact dec_run_nn _ | (refine low_nonneg (dec_run_nn _) ?_ ?_ <;> k_extra "ar"))); trivial)
theorem sg_slash_no {c : Int} {p : Int × Int} (h : sgn c = some p) (e : c = 8260) : False := by rw [e] at h; cases h
theorem sg_zero_no {p : Int × Int} (h : sgn 0 = some p) : False := by cases h
theorem law_zero_k (w : World) (news : Led) (l : Addr) (ns : List Int) (i z : Int) (ti : Tok) (hl : TL news l ns) (hn : ns.length < 100) (h0 : 0 ≤ i) (h1 : i < 200) (hz : zeroAt ns i = some z) :
    Spec w 320 [.ref l, .int i ti] 1 news (fun v nx => nx = news ∧ ∃ t, v = .int z t) := by
  refine (law_zero_d w news l ns i ti hl hn h0 h1).mono ?_
  rintro v nx ⟨e, ⟨h, _⟩ | ⟨z', t, h, e2⟩⟩
  · rw [hz] at h; cases h
  · rw [hz] at h; cases h; exact ⟨e, t, e2⟩
theorem eq_yes {prog : Program} {w : World} {A : Around} {E : Value → Shared → Prop} {s : Shared} {a b : Int} {t u : Tok} {Q : Value → Shared → Prop} (e : a = b) (h : Q (.bool true) s) : wpAny (model prog w) A (compareOp .Eq (.int a t) (.int b u)) Q E s :=
  PyProof.Rows.eq_int (by rw [show (a == b) = true from beq_iff_eq.mpr e]; exact h)
theorem eq_no {prog : Program} {w : World} {A : Around} {E : Value → Shared → Prop} {s : Shared} {a b : Int} {t u : Tok} {Q : Value → Shared → Prop} (e : a ≠ b) (h : Q (.bool false) s) : wpAny (model prog w) A (compareOp .Eq (.int a t) (.int b u)) Q E s :=
  PyProof.Rows.eq_int (by rw [show (a == b) = false from beq_eq_false_iff_ne.mpr e]; exact h)
--@M
example : True := by ((k_with "mine mine lt" => ((rename _ ∧ _ => q9; first | exact fun p hp => ktn_ltOf q9.2 p (by kcf_m) | exact fun p hp => ktn_ltOf q9.2.2 p (by kcf_m) | exact fun p hp => ktn_ltOf q9.2.2.2 p (by kcf_m) | exact fun p hp => ktn_ltOf q9.2.2.2.2 p (by kcf_m) | exact fun p hp => ktn_ltOf q9.2.2.2.2.2 p (by kcf_m)))); trivial)
example : True := by ((k_with "mine compareOp Eq int int" => ((k_here; first | with_reducible refine eq_yes (by k_extra "ar") ?_ | with_reducible refine eq_no (by k_extra "ar") ?_))); trivial)
example : True := by ((k_with "mine tS" => ((intro v' nx' h' tk' O'; (obtain ⟨D1, o1, tl1, s1, l1⟩ := O'); intro F' N'; (try k_lt l1)))); trivial)
example : True := by ((k_with "mine call ref" => ((k_here; (with_reducible show wpAny _ _ (call (Value.ref 291) _ _) _ _ _); k_dflt (refine' Spec.use (by k_asm) (by k_asm) (by k_asm) (by k_asm) (by k_asm) (by first | exact rfl | assumption) (law_signs_c _ _) (by ktr_room) (by ktr_units) ?_; k_whole); walk_at "mine tS"; ((try k_sweep); (try dsimp only); (try k_fold))))); trivial)
example : True := by ((k_with "mine mine sg" => (first | assumption | exact IsSigns.mono (by assumption) (by intro _ _; kcf_m))); trivial)
--@E
section
local macro_rules | `(tactic| walk_at $s:str) => do
  let t := Lean.Syntax.mkStrLit ("si42 " ++ s.getString)
  `(tactic| k_extra $t)
example : True := by ((k_with "si42 compareOp In int ref" => ((k_here; k_dflt (refine sg_in (by k_asm) (by walk_at "mine sg") ?_)))); trivial)
example : True := by ((k_with "mine subscriptTail Name Subscript ref int" => ((k_here; k_dflt (refine' sg_item (by k_asm) (by walk_at "mine sg") (by assumption) ?_ (by with_unfolding_all rfl) (by intro _; with_unfolding_all rfl); k_whole); intro _ _ _ _ _ _ _))); trivial)
example : True := by ((k_with "si42 getMethod ref" => ((k_here; k_dflt (refine sg_method (by k_asm) (by walk_at "mine sg") ?_)))); trivial)
example : True := by ((k_with "si42 call builtin:dict.get" => ((k_here; k_dflt (refine sg_get (by k_asm) (by walk_at "mine sg") ?_ ?_) <;> (first | (intro p' T' u1' u2' q1' m1'; first | exact (sg_slash_no q1' (by assumption)).elim | exact (sg_zero_no q1').elim | have m2' := sgn_den q1') | intro q1')))); trivial)
example : True := by ((k_with "specI" => (apply law_zero_k; all_goals (walk_at "mine side"))); trivial)
example : True := by ((k_with "specT" => (apply law_lowest_c; all_goals (walk_at "mine side"))); trivial)
theorem law_run_z (w : World) (news : Led) (l : Addr) (ns : List Int) (i : Int) (ti : Tok) (hl : TL news l ns) (hn : ns.length < 100) (h0 : 0 ≤ i) (h1 : i < 100) (hr : runLen (ns.drop i.toNat) = 0) :
    Spec w 327 [.ref l, .int i ti] 2 news (fun v nx => ∃ T u1 u2, v = .ref T ∧ nx = (T, tup2 i u1 0 u2) :: news ∧ ∀ p ∈ news, p.1 < T) := by
  refine (law_run_c w news l ns i ti hl hn h0 h1).mono ?_
  rintro v nx ⟨T, u1, u2, e1, e2, e3⟩
  rw [hr] at e2
  exact ⟨T, u1, u2, e1, by rw [e2]; exact congrArg (fun q => (_, q) :: news) (tup2_e (by k_extra "ar") rfl), e3⟩
inductive BehCut (h₀ : Heap) (L : Addr) (s : Shared) (m0 : Str → Option Value) (led : Led) (ns : List Int) (e : Int) : Flow → Shared → Prop
  | mk (b : Int) (tb : Tok) (h : Heap) (tk : Tok) (F : Fr h₀ L h (fun y => if y = Str.ofString "behind" then some (.int b tb) else m0 y)) (N : News h₀ L h led) (hb : (e < ns.length ∧ b = ns.getD e.toNat 0) ∨ ((ns.length : Int) ≤ e ∧ b = 0)) :
      BehCut h₀ L s m0 led ns e .next ⟨h, s.gens, s.drawn, tk, s.os⟩
theorem cutBeh {M : Model} {A : Around} {st : Sem Flow} {Q : Flow → Shared → Prop} {E : Value → Shared → Prop} {S : Shared} {h₀ h : Heap} {L : Addr} {m0 : Str → Option Value} {led : Led} (F : Fr h₀ L h m0) (N : News h₀ L h led) (s : Shared) (ns : List Int) (e : Int)
    (w : wpAny M A st (BehCut h₀ L s m0 led ns e) E S) (k : ∀ f s', BehCut h₀ L s m0 led ns e f s' → Q f s') : wpAny M A st Q E S := wpAny_mono w k fun _ _ x => x
inductive MetCut (h₀ : Heap) (L : Addr) (s : Shared) (m0 : Str → Option Value) (led : Led) (no : Prop) (Q : Flow → Shared → Prop) : Flow → Shared → Prop
  | next (o la : Option Value) (h : Heap) (tk : Tok) (F : Fr h₀ L h (fun y => if y = Str.ofString "other" then o else if y = Str.ofString "last" then la else m0 y)) (N : News h₀ L h led) (hn : no) : MetCut h₀ L s m0 led no Q .next ⟨h, s.gens, s.drawn, tk, s.os⟩
  | ret (v : Value) (s' : Shared) (q : Q (.ret v) s') : MetCut h₀ L s m0 led no Q (.ret v) s'
theorem cutMet {M : Model} {A : Around} {st : Sem Flow} {Q : Flow → Shared → Prop} {E : Value → Shared → Prop} {S : Shared} {h₀ h : Heap} {L : Addr} {m0 : Str → Option Value} {led : Led} (F : Fr h₀ L h m0) (N : News h₀ L h led) (s : Shared) (no : Prop)
    (w : wpAny M A st (MetCut h₀ L s m0 led no Q) E S) (k : ∀ s', MetCut h₀ L s m0 led no Q .next s' → Q .next s') : wpAny M A st Q E S := wpAny_mono w (fun f s' h => by
  cases h with
  | next o la h tk F N hn => exact k _ (.next o la h tk F N hn)
  | ret v s' q => exact q) fun _ _ x => x
theorem fr_pad {h₀ h : Heap} {L : Addr} {m : Str → Option Value} (F : Fr h₀ L h m) (a b : Str) : Fr h₀ L h (fun y => if y = a then m a else if y = b then m b else m y) := by
  have e : (fun y => if y = a then m a else if y = b then m b else m y) = m := by
    funext y
    by_cases h1 : y = a
    · rw [if_pos h1, h1]
    · rw [if_neg h1]
      by_cases h2 : y = b
      · rw [if_pos h2, h2]
      · rw [if_neg h2]
  rw [e]; exact F
section
example : True := by ((k_with "specT" => (apply law_run_z; all_goals (walk_at "mine side"))); trivial)
theorem law_met_a (w : World) (news : Led) (l : Addr) (ns : List Int) (i : Int) (ti : Tok) (hl : TL news l ns) (hn : ns.length < 10) (h0 : 0 ≤ i) (h1 : i < ns.length) (hr : runLen (ns.drop i.toNat) = 0) :
    Spec w 339 [.ref l, .int i ti] 3 news (MOut news i (ns.drop i.toNat)) := by
  intro mean mg mb dp un gd cn cs a ccd cl outer A₀ base h₀ L m s Q E B F X N T hk hd hu ret
  refine wpAny_call ?_
  k_dflt ktr_enter
  rename Fr _ _ _ _ => F0
  have F1 : Fr _ _ _ (fun y => List.lookup y [(Str.ofString "at", Value.int i ti), (Str.ofString "text", Value.ref l)]) := F0
  clear F0
  k_steps
  all_goals (try unfold Hold)
  · rename sgn _ = some _ => q1
    have e0 := drop_at h0 h1
    rw [e0] at hr ret
    obtain ⟨n1, v1⟩ := met_sgn0 hr q1
    rename News _ _ _ _ => nN
    refine ret _ _ _ _ (mout_pair (e := i + 1) (by k_extra "ar") v1 (by walk_at "mine lt") ?_) (by assumption) (cb_drop nN (by kcf_all))
    exact fun p hp => Nat.lt_trans ((by assumption : ∀ p ∈ news, p.1 < _) p hp) (by k_extra "ar")
  · rename (sgn _).isSome = false => q1
    have q2 : sgn (ns.getD i.toNat 0) = none := by simpa using q1
    have e0 := drop_at h0 h1
    rw [e0] at hr ret
    obtain ⟨n1, v1⟩ := met_no hr q2
    rename News _ _ _ _ => nN
    exact ret _ _ _ _ (mout_none (e := i) (by k_extra "ar") v1 (by walk_at "mine lt")) (by assumption) (cb_drop nN (by kcf_all))
end
theorem zero_run {ns : List Int} {e : Int} (h0 : 0 ≤ e) (h : zeroAt ns e = none) : runLen (ns.drop e.toNat) = 0 := by
  by_cases he : e < (ns.length : Int)
  · rw [zeroAt_zof, if_pos he] at h; exact runLen_none h0 he h
  · exact runLen_end (by k_extra "ar")
theorem rlen_pos {ns : List Int} {e z : Int} (h0 : 0 ≤ e) (h : e < (ns.length : Int)) (hz : zof (ns.getD e.toNat 0) = some z) : 0 < rlen z (ns.drop e.toNat) := by
  rw [rlen_step h0 h hz]; k_extra "ar"
example : True := by ((k_with "mine exec Assign cons IfExp" => ((k_here; (with_reducible show wpAny _ _ (exec _ (envOf (Str.ofString "_law_met") _ _ _ _)) _ _ _); (goal_lacks BehCut); refine hold ?_))); trivial)
example : True := by ((k_with "mine exec If BoolOp cons nil" => ((k_here; (with_reducible show wpAny _ _ (exec _ (envOf (Str.ofString "_law_met") _ _ _ _)) _ _ _); (goal_lacks MetCut); refine hold ?_))); trivial)
theorem law_met_b (w : World) (news : Led) (l : Addr) (ns : List Int) (i z : Int) (ti : Tok) (hl : TL news l ns) (hn : ns.length < 10) (h0 : 0 ≤ i) (h1 : i < ns.length) (hr : runLen (ns.drop i.toNat) ≠ 0) (hz : zeroAt ns i = some z) :
    Spec w 339 [.ref l, .int i ti] 3 news (MOut news i (ns.drop i.toNat)) := by
  intro mean mg mb dp un gd cn cs a ccd cl outer A₀ base h₀ L m s Q E B F X N T hk hd hu ret
  refine wpAny_call ?_
  k_dflt ktr_enter
  rename Fr _ _ _ _ => F0
  have F1 : Fr _ _ _ (fun y => List.lookup y [(Str.ofString "at", Value.int i ti), (Str.ofString "text", Value.ref l)]) := F0
  clear F0
  k_steps
  unfold Hold
  rename Fr _ _ _ _ => lF'
  rename News _ _ _ _ => lN'
  refine cutBeh lF' lN' s ns (i + (runLen (ns.drop i.toNat) : Nat)) ?_ ?_
  · k_steps
    · rename Fr _ _ _ _ => F9
      rename News _ _ _ _ => N9
      exact .mk _ _ _ _ F9 N9 (.inl ⟨by k_extra "ar", rfl⟩)
    · rename Fr _ _ _ _ => F9
      rename News _ _ _ _ => N9
      exact .mk _ _ _ _ F9 N9 (.inr ⟨by k_extra "ar", rfl⟩)
  rintro f s9 ⟨b, tb, h9, tk9, F9, N9, hb⟩
  clear lF' lN'
  (try k_unmd); (try k_fold)
  k_steps
  unfold Hold
  rename Fr _ _ _ _ => lF'
  rename News _ _ _ _ => lN'
  have hb8 : b = 8260 → (i + (runLen (ns.drop i.toNat) : Nat) < (ns.length : Int) ∧ ns.getD (i + (runLen (ns.drop i.toNat) : Nat)).toNat 0 = 8260) := fun h => by
    rcases hb with q | q
    · exact ⟨q.1, by rw [← q.2]; exact h⟩
    · rw [q.2] at h; exact absurd h (by decide)
  refine cutMet lF' lN' s (sgn b = none → numLen (ns.drop i.toNat) = runLen (ns.drop i.toNat)) ?_ ?_
  · k_steps
    all_goals (try unfold Hold)
    · rename b = 8260 => q0
      rename zeroAt ns _ = none => q3
      obtain ⟨q7, q8⟩ := hb8 q0
      rename Fr _ _ _ _ => F8
      rename News _ _ _ _ => N8
      refine .next _ _ _ _ (fr_pad F8 _ _) (cb_drop N8 (by kcf_all)) fun _ => ?_
      have e1 := drop_run (ns := ns) (k := runLen (ns.drop i.toNat)) h0
      rw [drop_at (e := i + (runLen (ns.drop i.toNat) : Nat)) (by k_extra "ar") q7] at e1
      rw [q8] at e1
      have q4 : runLen (ns.drop (i + (runLen (ns.drop i.toNat) : Nat) + 1).toNat) = 0 := zero_run (by k_extra "ar") q3
      have n1 := met_non hr e1 rfl
      rw [if_neg (fun h => by have := h.2.1; k_extra "ar")] at n1
      exact n1
    · rename b = 8260 => q0
      obtain ⟨q7, q8⟩ := hb8 q0
      k_unmd
      k_unfold
      (try dsimp only)
      refine .ret _ _ ?_
      k_steps
      all_goals (try unfold Hold)
      rename zof (ns.getD (Int.toNat (_ + 1)) 0) = some _ => q3
      rename _ = z => q5
      subst q5
      have e1 := drop_run (ns := ns) (k := runLen (ns.drop i.toNat)) h0
      rw [drop_at (e := i + (runLen (ns.drop i.toNat) : Nat)) (by k_extra "ar") q7] at e1
      rename News _ _ _ _ => nN
      rw [q8] at e1
      obtain ⟨n1, v1, v2⟩ := met_slashV hr e1 (by rw [runLen_some (by k_extra "ar") (by assumption) q3]; exact rlen_pos (by k_extra "ar") (by assumption) q3) (by rw [head_zof (by k_extra "ar") q3, head_zof h0 (zeroAt_lt hz).2]) (by k_extra "ar")
      refine ret _ _ _ _ (mout_pair (e := i + (runLen (ns.drop i.toNat) : Nat) + 1 + (runLen (ns.drop (i + (runLen (ns.drop i.toNat) : Nat) + 1).toNat) : Nat)) (by k_extra "ar") (v2 (by assumption)) (by walk_at "mine lt") ?_) (by assumption) (cb_drop nN (by kcf_all))
      exact fun p hp => Nat.lt_trans ((by assumption : ∀ p ∈ news, p.1 < _) p hp) (by k_extra "ar")
    · rename b = 8260 => q0
      obtain ⟨q7, q8⟩ := hb8 q0
      k_unmd
      k_unfold
      (try dsimp only)
      refine .ret _ _ ?_
      k_steps
      all_goals (try unfold Hold)
      rename zof (ns.getD (Int.toNat (_ + 1)) 0) = some _ => q3
      rename _ = z => q5
      subst q5
      have e1 := drop_run (ns := ns) (k := runLen (ns.drop i.toNat)) h0
      rw [drop_at (e := i + (runLen (ns.drop i.toNat) : Nat)) (by k_extra "ar") q7] at e1
      rename News _ _ _ _ => nN
      rw [q8] at e1
      obtain ⟨n1, v1, v2⟩ := met_slashV hr e1 (by rw [runLen_some (by k_extra "ar") (by assumption) q3]; exact rlen_pos (by k_extra "ar") (by assumption) q3) (by rw [head_zof (by k_extra "ar") q3, head_zof h0 (zeroAt_lt hz).2]) (by k_extra "ar")
      exact ret _ _ _ _ (mout_none (e := i + (runLen (ns.drop i.toNat) : Nat) + 1 + (runLen (ns.drop (i + (runLen (ns.drop i.toNat) : Nat) + 1).toNat) : Nat)) (by k_extra "ar") (v1 (by k_extra "ar")) (by walk_at "mine lt")) (by assumption) (cb_drop nN (by kcf_all))
    · rename b = 8260 => q0
      rename ¬ 0 < decV _ => q6
      obtain ⟨q7, q8⟩ := hb8 q0
      rename Fr _ _ _ _ => F8
      rename News _ _ _ _ => N8
      refine .next _ _ _ _ F8 (cb_drop N8 (by kcf_all)) fun _ => ?_
      have e1 := drop_run (ns := ns) (k := runLen (ns.drop i.toNat)) h0
      rw [drop_at (e := i + (runLen (ns.drop i.toNat) : Nat)) (by k_extra "ar") q7] at e1
      rw [q8] at e1
      have n1 := met_non hr e1 rfl
      have q10 := dec_run_nn (ns.drop (i + (runLen (ns.drop i.toNat) : Nat) + 1).toNat)
      rw [if_neg (fun h => by have := h.2.2.2; k_extra "ar")] at n1
      exact n1
    · rename b = 8260 => q0
      rename zof (ns.getD (Int.toNat (_ + 1)) 0) = some _ => q3
      rename _ ≠ z => q5
      obtain ⟨q7, q8⟩ := hb8 q0
      rename Fr _ _ _ _ => F8
      rename News _ _ _ _ => N8
      refine .next _ _ _ _ (fr_pad F8 _ _) (cb_drop N8 (by kcf_all)) fun _ => ?_
      have e1 := drop_run (ns := ns) (k := runLen (ns.drop i.toNat)) h0
      rw [drop_at (e := i + (runLen (ns.drop i.toNat) : Nat)) (by k_extra "ar") q7] at e1
      rw [q8] at e1
      have n1 := met_non hr e1 rfl
      rw [if_neg (fun h => q5 (by have := h.2.2.1; rw [head_zof (by k_extra "ar") q3, head_zof h0 (zeroAt_lt hz).2] at this; exact Option.some.inj this))] at n1
      exact n1
    · rename b ≠ 8260 => q8
      rename Fr _ _ _ _ => F8
      rename News _ _ _ _ => N8
      refine .next _ _ _ _ (fr_pad F8 _ _) (cb_drop N8 (by kcf_all)) fun hs => ?_
      have e1 := drop_run (ns := ns) (k := runLen (ns.drop i.toNat)) h0
      rcases hb with ⟨q7, q91⟩ | ⟨q7, q91⟩
      · rw [drop_at (e := i + (runLen (ns.drop i.toNat) : Nat)) (by k_extra "ar") q7, ← q91] at e1
        have n1 := met_non hr e1 hs
        rw [if_neg (fun h => q8 h.1)] at n1
        exact n1
      · rw [List.drop_of_length_le (i := Int.toNat (i + _)) (by k_extra "ar")] at e1
        exact met_end hr e1
  · rintro s8 ⟨o, la, h8, tk8, F8, N8, no⟩
    clear lF' lN'
    (try k_unmd); (try k_fold)
    k_steps
    all_goals (try unfold Hold)
    · rename sgn b = some _ => q3
      obtain ⟨q7, q91⟩ : i + (runLen (ns.drop i.toNat) : Nat) < (ns.length : Int) ∧ b = ns.getD (i + (runLen (ns.drop i.toNat) : Nat)).toNat 0 := by
        rcases hb with q | q
        · exact q
        · rw [q.2] at q3; exact nomatch (show sgn 0 = some _ from q3)
      have e1 := drop_run (ns := ns) (k := runLen (ns.drop i.toNat)) h0
      rw [drop_at (e := i + (runLen (ns.drop i.toNat) : Nat)) (by k_extra "ar") q7, ← q91] at e1
      rename News _ _ _ _ => nN
      obtain ⟨n1, v1⟩ := met_sgnV hr e1 q3 (by assumption) (by assumption)
      refine ret _ _ _ _ (mout_pair (e := i + (runLen (ns.drop i.toNat) : Nat) + 1) (by k_extra "ar") v1 (by walk_at "mine lt") ?_) (by assumption) (cb_drop nN (by kcf_all))
      exact fun p hp => Nat.lt_trans ((by assumption : ∀ p ∈ news, p.1 < _) p hp) (by k_extra "ar")
    · rename sgn b = some _ => q3
      obtain ⟨q7, q91⟩ : i + (runLen (ns.drop i.toNat) : Nat) < (ns.length : Int) ∧ b = ns.getD (i + (runLen (ns.drop i.toNat) : Nat)).toNat 0 := by
        rcases hb with q | q
        · exact q
        · rw [q.2] at q3; exact nomatch (show sgn 0 = some _ from q3)
      have e1 := drop_run (ns := ns) (k := runLen (ns.drop i.toNat)) h0
      rw [drop_at (e := i + (runLen (ns.drop i.toNat) : Nat)) (by k_extra "ar") q7, ← q91] at e1
      rename News _ _ _ _ => nN
      have n1 := met_sgn hr e1 q3
      rw [if_neg (fun h => by k_extra "ar")] at n1
      refine ret _ _ _ _ (mout_pair (e := i + (runLen (ns.drop i.toNat) : Nat)) (by k_extra "ar") (met_run hr n1) (by walk_at "mine lt") ?_) (by assumption) (cb_drop nN (by kcf_all))
      exact fun p hp => Nat.lt_trans ((by assumption : ∀ p ∈ news, p.1 < _) p hp) (by k_extra "ar")
    · rename sgn b = some _ => q3
      obtain ⟨q7, q91⟩ : i + (runLen (ns.drop i.toNat) : Nat) < (ns.length : Int) ∧ b = ns.getD (i + (runLen (ns.drop i.toNat) : Nat)).toNat 0 := by
        rcases hb with q | q
        · exact q
        · rw [q.2] at q3; exact nomatch (show sgn 0 = some _ from q3)
      have e1 := drop_run (ns := ns) (k := runLen (ns.drop i.toNat)) h0
      rw [drop_at (e := i + (runLen (ns.drop i.toNat) : Nat)) (by k_extra "ar") q7, ← q91] at e1
      rename News _ _ _ _ => nN
      have n1 := met_sgn hr e1 q3
      rw [if_neg (fun h => by k_extra "ar")] at n1
      refine ret _ _ _ _ (mout_pair (e := i + (runLen (ns.drop i.toNat) : Nat)) (by k_extra "ar") (met_run hr n1) (by walk_at "mine lt") ?_) (by assumption) (cb_drop nN (by kcf_all))
      exact fun p hp => Nat.lt_trans ((by assumption : ∀ p ∈ news, p.1 < _) p hp) (by k_extra "ar")
    · rename News _ _ _ _ => nN
      refine ret _ _ _ _ (mout_pair (e := i + (runLen (ns.drop i.toNat) : Nat)) (by k_extra "ar") (met_run hr (no (by assumption))) (by walk_at "mine lt") ?_) (by assumption) (cb_drop nN (by kcf_all))
      exact fun p hp => Nat.lt_trans ((by assumption : ∀ p ∈ news, p.1 < _) p hp) (by k_extra "ar")
end
example : True := by first | walk1 | trivial
theorem zero_some {ns : List Int} {i : Int} (h0 : 0 ≤ i) (h1 : i < (ns.length : Int)) (hr : runLen (ns.drop i.toNat) ≠ 0) : ∃ z, zeroAt ns i = some z := by
  rw [zeroAt_zof, if_pos h1]
  cases hz : zof (ns.getD i.toNat 0) with
  | none => exact absurd (runLen_none h0 h1 hz) hr
  | some z => exact ⟨z, rfl⟩
theorem law_met_c (w : World) (news : Led) (l : Addr) (ns : List Int) (i : Int) (ti : Tok) (hl : TL news l ns) (hn : ns.length < 10) (h0 : 0 ≤ i) (h1 : i < ns.length) :
    Spec w 339 [.ref l, .int i ti] 3 news (MOut news i (ns.drop i.toNat)) := by
  by_cases hr : runLen (ns.drop i.toNat) = 0
  · exact law_met_a w news l ns i ti hl hn h0 h1 hr
  · obtain ⟨z, hz⟩ := zero_some h0 h1 hr
    exact law_met_b w news l ns i z ti hl hn h0 h1 hr hz
inductive MOut2 (a : Addr × Obj) (R : Led) (i : Int) (s : List Int) : Value → Led → Prop
  | mk (T : Addr) (u : Tok) (vx : Value) (own : Led) (l : ∀ p ∈ a :: R, p.1 < T) (k : ∀ p ∈ own, ∀ q ∈ a :: R, q.1 < p.1) (d : DatIn own vx (optD (metVal s))) :
      MOut2 a R i s (.ref T) ((T, metO (i + (numLen s : Nat)) u vx) :: a :: (own ++ R))
theorem mout2 {a : Addr × Obj} {R nx : Led} {i : Int} {s : List Int} {v : Value} (h : MOut (a :: R) i s v nx) : ∃ nx', MOut2 a R i s v nx' ∧ ∀ p ∈ nx', p ∈ nx := by
  obtain ⟨T, u, e, l, h⟩ := h
  subst e
  rcases h with ⟨hv, e⟩ | ⟨p, T2, u1, u2, hv, e, l2⟩
  · subst e
    exact ⟨_, ⟨T, u, .none, [], l, (fun _ h => nomatch h), by rw [hv]; exact .none⟩, fun _ h => h⟩
  · subst e
    refine ⟨_, ⟨T, u, .ref T2, [(T2, tup2 p.1 u1 p.2 u2)], l, ?_, ?_⟩, ?_⟩
    · intro q hq r hr
      rw [List.mem_singleton.mp hq]; exact l2 r hr
    · rw [hv]
      exact .tuple (vs := [.int _ _, .int _ _]) (.head _) (.cons (.int _ _) (.cons (.int _ _) .nil))
    · intro q hq
      simp only [List.cons_append, List.nil_append, List.mem_cons] at hq ⊢
      rcases hq with h | h | h | h <;> simp [h]
theorem law_met_k (w : World) (a : Addr × Obj) (R : Led) (l : Addr) (ns : List Int) (i : Int) (ti : Tok) (hl : TL (a :: R) l ns) (hn : ns.length < 10) (h0 : 0 ≤ i) (h1 : i < ns.length) :
    Spec w 339 [.ref l, .int i ti] 3 (a :: R) (MOut2 a R i (ns.drop i.toNat)) := by
  intro mean mg mb dp un gd cn cs a2 ccd cl outer A₀ base h₀ L m s Q E B F X N T hk hd hu ret
  refine (law_met_c w (a :: R) l ns i ti hl hn h0 h1).use B F X N T hk hd hu fun v nx h' tk' O F' N' => ?_
  obtain ⟨nx', O', hs⟩ := mout2 O
  exact ret v nx' h' tk' O' F' (cb_drop N' hs)
--@M
example : True := by ((k_with "callO" => ((with_reducible show wpAny _ _ (call (Value.ref 339) _ _) _ _ _); k_dflt (apply Spec.use; (focus (k_asm; done)); (focus (k_asm; done)); (focus (k_asm; done)); (focus (k_asm; done)); (focus (k_asm; done)); (focus ((first | exact rfl | assumption); done)); (focus ((apply law_met_k; all_goals (walk_at "mine side")); done)); (focus (ktr_room; done)); (focus (ktr_units; done)); k_whole); ((intro vz' nxz' hz' tkz' Oz'; (obtain ⟨T1qz, u1qz, x1qz, own1qz, l1qz, a1qz, d1qz⟩ := Oz'); intro Fz' Nz'; (try k_lt l1qz); (try k_sweep); (try dsimp only); (try k_fold))))); trivial)
--@E
example : True := by
  w_top off
  trivial
/-! ## _law_numbers -/
abbrev MetT := Int × Int × Option (Int × Int)
def metD (q : MetT) : Dat := .tuple [.int q.1, .int q.2.1, optD q.2.2]
def mets (off : Int) (s : List Int) : List MetT :=
  if _h : s = [] then []
  else if 0 < numLen s then (off, off + (numLen s : Nat), metVal s) :: mets (off + (numLen s : Nat)) (s.drop (numLen s))
  else mets (off + 1) (s.drop 1)
termination_by s.length
decreasing_by
  · rw [List.length_drop]; exact Nat.sub_lt (List.length_pos_iff.mpr _h) (by assumption)
  · rw [List.length_drop]; exact Nat.sub_lt (List.length_pos_iff.mpr _h) Nat.one_pos
theorem mets_nil (off : Int) : mets off [] = [] := by rw [mets]; simp
theorem mets_yes {off : Int} {s : List Int} (h : 0 < s.length) (hk : 0 < numLen s) : mets off s = (off, off + (numLen s : Nat), metVal s) :: mets (off + (numLen s : Nat)) (s.drop (numLen s)) := by
  rw [mets, dif_neg (by intro e; rw [e] at h; simp at h), if_pos hk]
theorem mets_no {off : Int} {s : List Int} (h : 0 < s.length) (hk : numLen s = 0) : mets off s = mets (off + 1) (s.drop 1) := by
  rw [mets, dif_neg (by intro e; rw [e] at h; simp at h), if_neg (by k_extra "ar")]
theorem permA5 {α : Type} {x a b : α} {own tl news : List α} : ∀ p ∈ x :: ((a :: b :: (own ++ tl)) ++ news), p ∈ a :: b :: x :: (own ++ (tl ++ news)) := by
  intro p hp; simp only [List.cons_append, List.append_assoc, List.mem_cons, List.mem_append] at hp ⊢; rcases hp with h | h | h | h | h | h <;> simp [h]
theorem permA5m {α : Type} {a b : α} {own tl news : List α} : ∀ p ∈ tl ++ news, p ∈ (a :: b :: (own ++ tl)) ++ news := by
  intro p hp; simp only [List.cons_append, List.append_assoc, List.mem_cons, List.mem_append] at hp ⊢; rcases hp with h | h <;> simp [h]
theorem permA6 {α : Type} {x b : α} {own tl news : List α} : ∀ p ∈ x :: (tl ++ news), p ∈ b :: x :: (own ++ (tl ++ news)) := by
  intro p hp; simp only [List.mem_cons, List.mem_append] at hp ⊢; rcases hp with h | h | h <;> simp [h]
theorem own_ne {own R : Led} {x : Addr} {o : Obj} (k : ∀ p ∈ own, ∀ q ∈ (x, o) :: R, q.1 < p.1) (h : ∀ p ∈ R, p.1 ≠ x) : ∀ p ∈ own ++ R, p.1 ≠ x := fun p hp =>
  (List.mem_append.mp hp).elim (fun hp => Nat.ne_of_gt (k p hp _ (.head _))) (h p)
structure LSt where
  at_ : Int
  ta : Tok
  us : List Value
  n : Nat
  tl : Led
  done : List MetT
section
example : True := by ((k_with "all" => (exact own_ne (by assumption) (by assumption))); trivial)
example : True := by ((k_with "mine call builtin:list.append cons nil" => ((k_here; k_dflt (refine' append_K (by k_asm) (by k_asm) (by k_upd) ?_ (by (rw [List.size_toArray, sizeLine_eq]; k_extra "ar")); k_whole); intro _ _ _; (try k_sweep)))); trivial)
theorem law_numbers_c (w : World) (news : Led) (l : Addr) (ns : List Int) (hl : TL news l ns) (hn : ns.length < 10) :
    Spec w 346 [.ref l] 4 news (fun v nx => ∃ fl us n tl, v = .ref fl ∧ nx = (fl, listOf us.toArray n) :: (tl ++ news) ∧ DatAll (tl ++ news) us ((mets 0 ns).map metD) ∧ (∀ p ∈ news, p.1 < fl)) := by
  intro mean mg mb dp un gd cn cs a ccd cl outer A₀ base h₀ L m s Q E B F X N T hk hd hu ret
  refine wpAny_call ?_
  k_dflt ktr_enter
  rename Fr _ _ _ _ => F0
  have F1 : Fr _ _ _ (fun y => List.lookup y [(Str.ofString "text", Value.ref l)]) := F0
  clear F0
  k_steps
  unfold Hold
  rename Fr _ _ _ _ => lF'
  rename News _ _ _ _ => lN'
  rename_i fl h4 lfl D h3 lD h2 h1 mq1 h0
  k_dflt (refine ksw_while (σ := LSt) (fun c => (fl, listOf c.us.toArray c.n) :: (c.tl ++ news)) (fun c => [(Str.ofString "at", .int c.at_ c.ta)]) (fun _ => True) [Str.ofString "end", Str.ofString "value"] (fun c => 0 ≤ c.at_ ∧ c.at_ ≤ ns.length ∧ DatAll (c.tl ++ news) c.us (c.done.map metD) ∧ (∀ p ∈ c.tl ++ news, p.1 ≠ fl) ∧ c.done ++ mets c.at_ (ns.drop c.at_.toNat) = mets 0 ns ∧ (c.us.length : Int) ≤ c.at_) (fun c => ((ns.length : Int) - c.at_).toNat) ⟨0, _, [], 0, [], []⟩ lF' (cb_drop lN' (fun p hp => List.mem_cons_of_mem _ hp)) trivial (List.forall_mem_cons.mpr ⟨rfl, List.forall_mem_nil _⟩) ⟨Int.le_refl _, by dsimp only; k_extra "ar", .nil, fun p hp => Nat.ne_of_lt (lfl p hp), rfl, by dsimp only; simp⟩ ?_)
  rintro ⟨at_, ta, us, n, tl, done⟩ u h tk - ⟨p1, p2, p3, p4, p5, p6⟩ F' N'
  dsimp only at p1 p2 p3 p4 p5 p6 F' N' ⊢
  simp only [kstB] at F'
  clear lF' lN'
  (try k_unmd); (try k_fold)
  k_steps
  all_goals (try unfold Hold)
  · have k0 : 0 < numLen (ns.drop at_.toNat) := by k_extra "ar"
    have k1 : 0 < (ns.drop at_.toNat).length := by rw [List.length_drop]; k_extra "ar"
    have k2 := runLen_pre (s := ns.drop at_.toNat)
    rw [List.length_drop] at k2
    rename News _ _ _ (_ :: _ :: _ :: _) => nN
    rename DatIn _ _ (optD _) => d1
    rename ∀ p ∈ (_ : Led), ∀ q ∈ (_ : Led), q.1 < p.1 => a1
    rw [List.push_toArray] at nN
    refine ksw_end ⟨at_ + (numLen (ns.drop at_.toNat) : Nat), _, us ++ [.ref _], n + 1, (_, _) :: (_, _) :: (_ ++ tl), done ++ [(at_, at_ + (numLen (ns.drop at_.toNat) : Nat), metVal (ns.drop at_.toNat))]⟩ (by assumption) nN permA5 trivial (List.forall_mem_cons.mpr ⟨at_fix1 (a := at_ + 1) (e := at_ + (numLen (ns.drop at_.toNat) : Nat)) (by k_extra "ar"), List.forall_mem_nil _⟩) (by (try dsimp +zetaDelta only); ksw_same) ?_ ?_
    · dsimp only
      refine ⟨by k_extra "ar", by k_extra "ar", ?_, ?_, ?_, by rw [List.length_append]; simp only [List.length_cons, List.length_nil]; k_extra "ar"⟩
      · rw [List.map_append]
        exact .append (p3.mono (fun p hp => permA5m p hp)) (.one (.tuple (.head _) (.cons (.int _ _) (.cons (.int _ _) (.cons (d1.mono fun p hp => List.mem_cons_of_mem _ (List.mem_cons_of_mem _ (List.mem_append_left _ (List.mem_append_left _ hp)))) .nil)))))
      · intro p hp
        rcases List.mem_cons.mp hp with rfl | hp
        · exact Nat.ne_of_gt (by k_extra "ar")
        rcases List.mem_cons.mp hp with rfl | hp
        · exact Nat.ne_of_gt (by k_extra "ar")
        rcases List.mem_append.mp hp with hp | hp
        · rcases List.mem_append.mp hp with hp | hp
          · exact Nat.ne_of_gt (a1 p hp _ (.head _))
          exact p4 p (List.mem_append_left _ hp)
        exact p4 p (List.mem_append_right _ hp)
      · rw [List.append_assoc, ← p5, mets_yes k1 k0]
        rw [List.drop_drop, show at_.toNat + numLen (ns.drop at_.toNat) = (at_ + (numLen (ns.drop at_.toNat) : Nat)).toNat by k_extra "ar"]; rfl
    · dsimp only; k_extra "ar"
  · have k0 : numLen (ns.drop at_.toNat) = 0 := by k_extra "ar"
    have k1 : 0 < (ns.drop at_.toNat).length := by rw [List.length_drop]; k_extra "ar"
    refine ksw_end ⟨at_ + 1, _, us, n, tl, done⟩ (by assumption) (by assumption) permA6 trivial (List.forall_mem_cons.mpr ⟨at_fix2 (a := at_ + 1) (e := at_ + (numLen (ns.drop at_.toNat) : Nat)) (by k_extra "ar"), List.forall_mem_nil _⟩) (by (try dsimp +zetaDelta only); ksw_same) ?_ ?_
    · dsimp only
      refine ⟨by k_extra "ar", by k_extra "ar", p3, p4, ?_, by k_extra "ar"⟩
      rw [← p5, mets_no k1 k0, List.drop_drop, show at_.toNat + 1 = (at_ + 1).toNat by k_extra "ar"]
    · dsimp only; k_extra "ar"
  · have k1 : ns.drop at_.toNat = [] := List.drop_eq_nil_of_le (by k_extra "ar")
    rw [k1, mets_nil, List.append_nil] at p5
    exact ret _ _ _ _ ⟨_, _, _, _, rfl, rfl, p5 ▸ p3, lfl⟩ (by assumption) (by assumption)
end
--@M
example : True := by ((k_with "specL" => (apply law_numbers_c; all_goals (walk_at "mine side"))); trivial)
--@E
example : True := by
  w_top off
  trivial
--@nofill
/-! ## the first two of a tuple of three -/
section
variable {prog : Program} {w : World} {A : Around} {E : Value → Shared → Prop} {s : Shared}
theorem sliceApplied_two {sl : Addr} {u : Tok} {Q : Int × Int × Nat → Shared → Prop} (hs : s.heap.IsSliceOf sl .none (.int 2 u) .none) (h : Q (0, 1, 2) s) :
    wpAny (model prog w) A (Builtin.Slice.sliceApplied (.ref sl) (pure (3 : Int))) Q E s := by
  obtain ⟨os, hos, hcs, hds⟩ := id hs
  unfold Builtin.Slice.sliceApplied Builtin.Slice.sliceFields
  refine wpAny_bind (wpAny_bind (wpAny_field hos hds (x := .none) rfl (wpAny_bind (wpAny_field hos hds (x := .int 2 u) rfl (wpAny_bind (wpAny_field hos hds (x := .none) rfl (wpAny_pure ?_)))))))
  refine wpAny_bind (slicePart_none ?_)
  show wpAny _ _ (if ((1 : Int) == 0) = true then _ else _) _ _ s
  rw [if_neg (by decide)]
  refine wpAny_bind (slicePart_none (wpAny_bind (slicePart_int (wpAny_bind (wpAny_pure ?_)))))
  exact wpAny_pure h
theorem getItem_tuple_two {t sl : Addr} {x y z : Value} {u : Tok} {Q : Value → Shared → Prop} (ht : IsTup s.heap t #[x, y, z]) (hs : s.heap.IsSliceOf sl .none (.int 2 u) .none)
    (h : Q (.ref s.heap.objs.size) { s with heap := s.heap.push { cls := .type "tuple", data := .seq #[x, y] } }) : wpAny (model prog w) A (getItem (.ref t) (.ref sl)) Q E s := by
  have hdrop : sizeOk (.seq #[x, y]) := by
    show (2 : Nat) ≤ sizeLine
    rw [sizeLine_eq]; k_extra "ar"
  obtain ⟨os, hos, hcs, hds⟩ := id hs
  have hTs : s.TypeIs (.ref sl) "slice" := ⟨os, hos, hcs⟩
  unfold getItem
  try with_reducible refine wpAny_holding ?_
  first | refine wpAny_bind (wpAny_pure ?_) | skip
  refine wpAny_bind (wpAny_sequenceKey ht.typeIs (by decide) ?_)
  refine wpAny_bind (wpAny_callSpecial?_slot (name := Str.ofString "__getitem__") ht.typeIs slot_tuple_getitem
    (wpAny_call_entry slot_tuple_getitem ht.typeIs entry_tuple_getitem ?_ (args_tuple_getitem _ _)))
  show wpAny _ _ (Builtin.Tuple.tupleItemsOf (.ref t) >>= _) _ _ s
  refine wpAny_bind (tupleItemsOf_ ht ?_)
  refine wpAny_bind (wpAny_typeOf hTs ?_)
  rw [if_pos (by decide)]
  refine wpAny_bind (sliceApplied_two hs ?_)
  show wpAny _ _ (if ((0 : Int) == 0 && (1 : Int) == 1 && ((2 : Nat) == 3)) = true then _ else _) _ _ s
  rw [if_neg (by decide)]
  first
    | exact wpAny_bind (m := Builtin.Tuple.tupleExact _) (wpAny_newObj_type (wpAny_pure ⟨_, rfl, wpAny_pure h⟩) hdrop)
    | exact wpAny_bind (m := Builtin.Tuple.tupleExact _) (wpAny_newObj_type (wpAny_bind (wpAny_pure (wpAny_pure ⟨_, rfl, wpAny_pure h⟩))) hdrop)
    | exact wpAny_bind (wpAny_bind (m := Builtin.Tuple.tupleExact _) (wpAny_newObj_type (wpAny_pure (wpAny_pure ⟨_, rfl, wpAny_pure h⟩)) hdrop))
    | exact wpAny_bind (wpAny_bind (m := Builtin.Tuple.tupleExact _) (wpAny_newObj_type (wpAny_pure ⟨_, rfl, wpAny_pure h⟩) hdrop))
end
section
variable {prog : Program} {w : World} {A : Around} {E : Value → Shared → Prop} {s : Shared} {h₀ : Heap} {L : Addr} {m : Str → Option Value} {news : List (Addr × Obj)}
theorem slice_tuple_two {value slice : PySem.Expr} {t : Addr} {x y z : Value} {u : Tok} {n : Nat} {Q : Value → Shared → Prop}
    (F : Fr h₀ L s.heap m) (N : News h₀ L s.heap news) (hm : (t, ({ cls := .type "tuple", data := .seq [x, y, z].toArray n } : Obj)) ∈ news)
    (h : ∀ D h', Fr h₀ L h' m → News h₀ L h' ((D, { cls := .type "tuple", data := .seq #[x, y] }) :: news) → (∀ p ∈ news, p.1 < D) → Q (.ref D) { s with heap := h' })
    (hs : subscripted slice false (.ref t) (.ref s.heap.objs.size) = operate [.ref s.heap.objs.size, .ref t] (getItem (.ref t) (.ref s.heap.objs.size)))
    (hg : ∀ r, letTemporaryGo value (.ref t) r = pure ()) :
    wpAny (model prog w) A (subscriptTail value slice (.ref t) (.ref s.heap.objs.size)) Q E { s with heap := s.heap.push { cls := .type "slice", data := .fields #[.none, .int 2 u, .none] } } := by
  have ht : IsTup s.heap t #[x, y, z] := ⟨_, (N _ hm).1, rfl, n, rfl⟩
  have ht' : IsTup (s.heap.push { cls := .type "slice", data := .fields #[.none, .int 2 u, .none] }) t #[x, y, z] := ht.keeps fun _ _ e => Heap.get?_push_of_some _ e
  refine subscriptTail_ops (s := { s with heap := s.heap.push { cls := .type "slice", data := .fields #[.none, .int 2 u, .none] } }) ht'.typeIs slot_tuple_getitem.lookup
    (getItem_tuple_two ht' (Heap.IsSliceOf.new ..) ?_) hs hg
  have N1 := News.push (F.push { cls := .type "slice", data := .fields #[.none, .int 2 u, .none] }) (N.grown fun _ _ e => Heap.get?_push_of_some _ e) { cls := .type "tuple", data := .seq #[x, y] }
  rw [Heap.size_push] at N1
  show Q (.ref (s.heap.push _).objs.size) _
  rw [Heap.size_push]
  exact h _ _ ((F.push _).push _) N1 (fun p hp => Nat.lt_succ_of_lt (Heap.lt_size (N p hp).1))
end
theorem tuple_same_N {prog : Program} {w : World} {A : Around} {E : Value → Shared → Prop} {s : Shared} {h₀ : Heap} {L t : Addr} {cur : Led} {vs : List Value} {n : Nat} {Q : Value → Shared → Prop} (N : News h₀ L s.heap cur) (hm : (t, ({ cls := .type "tuple", data := .seq vs.toArray n } : Obj)) ∈ cur) (h : Q (.ref t) s) :
    wpAny (model prog w) A (call (.type "tuple") [.ref t]) Q E s := call_tuple_tup ⟨_, (N _ hm).1, rfl, n, rfl⟩ h
--@M
example : True := by ((k_with "mine call type:tuple cons nil" => ((k_here; k_dflt (refine' tuple_same_N (by k_asm) (by first | assumption | kcf_m) ?_)))); trivial)
example : True := by ((k_with "mine subscriptTail Name Slice ref ref" => ((k_here; (with_reducible show wpAny _ _ (subscriptTail _ (PySem.Expr.Slice none (some _) none _) _ _) _ _ _); k_dflt (refine' slice_tuple_two (by k_asm) (by k_asm) (by kcf_m) ?_ (by with_unfolding_all rfl) (by kmk_pure)); walk_at "mine iA"))); trivial)
--@E
example : True := by
  w_top off
  trivial
--@nofill
/-! ## a comprehension over zip of two lists, with a pair target and a test that is never met -/
section
open PySem.Spec PyProof.Rows.LCg
variable {prog : Program} {w : World} {A : Around} {E : Value → Shared → Prop} {s : Shared} {h₀ : Heap} {L : Addr} {m : Str → Option Value} {env : Env}
theorem loop_pairT {ct elt target iter : PySem.Expr} {scope : Scope} {pos : Pos} {it acc : Value} {env : Env} {R : Result → Shared → Prop} (I : Nat → Shared → Prop)
    (turn : ∀ n s, I n s → wpAny (model prog w) A (pyNext it) (fun r s₁ => match r with
      | none => R (.ok .next) s₁
      | some v => wpAny (model prog w) A (letOwnedTupleGo target it v) (fun _ s₀ => wpAny (model prog w) A (assign target env v) (fun _ s₂ =>
          wpAny (model prog w) A (isTrue ct env (eval ct env)) (fun ok s₃ => ok = false ∧ ∃ m, m < n ∧ I m s₃) (notedBy (model prog w) A env fun e s' => R (.error e) s') s₂)
          (notedBy (model prog w) A env fun e s' => R (.error e) s') s₀) (notedBy (model prog w) A env fun e s' => R (.error e) s') s₁) (notedBy (model prog w) A env fun e s' => R (.error e) s') s)
    (n : Nat) (h : I n s) : codeAny (model prog w) A (.compLoop (.ListComp elt [⟨target, iter, [ct], 0⟩] scope pos) 0 it acc env) R s := by
  refine codeAny_loop rfl I (fun n s hI => ?_) n h
  show wpAny _ A ((compTurn (.ListComp elt [⟨target, iter, [ct], 0⟩] scope pos) 0 it acc env).onRaise (fun x => do noteFrame x env; theTreesLotGoes x)) _ _ s
  refine wpAny_noted ?_
  rw [compTurn_list]
  refine wpAny_bind (wpAny_standAt (wpAny_bind (wpAny_mono (turn n s hI) (fun r s₁ h₁ => ?_) fun _ _ h' => h')))
  cases r with
  | none => exact wpAny_pure h₁
  | some v =>
    refine wpAny_bind (wpAny_mono h₁ (fun _ s₀ h₀' => ?_) fun _ _ h' => h')
    refine wpAny_bind (wpAny_mono h₀' (fun _ s₂ h₂ => ?_) fun _ _ h' => h')
    refine wpAny_bind (wpAny_tests_one (wpAny_mono h₂ (fun ok s₃ h₃ => ?_) fun _ _ h' => h'))
    obtain ⟨rfl, h₃⟩ := h₃
    exact wpAny_pure ⟨rfl, h₃⟩

abbrev ZSt (z TI TO i1 i2 l1 l2 : Addr) (xs ys : Array Value) (i : Nat) (h : Heap) : Prop :=
  IsZip h z TI TO .none ∧ IsPair h TI (.ref i1) (.ref i2) ∧ (∃ a b, IsPair h TO a b) ∧ h.IsListIter i1 l1 i ∧ h.IsListIter i2 l2 i ∧ h.IsList l1 xs ∧ h.IsList l2 ys
theorem zst_lt {z TI TO i1 i2 l1 l2 : Addr} {xs ys : Array Value} {k : Nat} {g : Heap} (hst : ZSt z TI TO i1 i2 l1 l2 xs ys k g) : ∀ b ∈ [z, TI, TO, i1, i2, l1, l2], b < g.objs.size := by
  obtain ⟨a1, a2, ⟨_, _, a3⟩, ⟨_, a4, _⟩, ⟨_, a5, _⟩, ⟨_, a6, _⟩, ⟨_, a7, _⟩⟩ := hst
  exact List.forall_mem_cons.mpr ⟨Heap.lt_size a1, List.forall_mem_cons.mpr ⟨Heap.lt_size a2, List.forall_mem_cons.mpr ⟨Heap.lt_size a3, List.forall_mem_cons.mpr ⟨Heap.lt_size a4, List.forall_mem_cons.mpr ⟨Heap.lt_size a5, List.forall_mem_cons.mpr ⟨Heap.lt_size a6, List.forall_mem_cons.mpr ⟨Heap.lt_size a7, List.forall_mem_nil _⟩⟩⟩⟩⟩⟩⟩
inductive ZObjs (z TI TO i1 i2 l1 l2 : Addr) (g : Heap) : Prop
  | mk (oz o2 o3 o4 o5 o6 o7 : Obj) (q1 : g.get? z = some oz) (q2 : g.get? TI = some o2) (q3 : g.get? TO = some o3) (q4 : g.get? i1 = some o4) (q5 : g.get? i2 = some o5) (q6 : g.get? l1 = some o6) (q7 : g.get? l2 = some o7) : ZObjs z TI TO i1 i2 l1 l2 g
theorem zst_objs {z TI TO i1 i2 l1 l2 : Addr} {xs ys : Array Value} {k : Nat} {g : Heap} (hst : ZSt z TI TO i1 i2 l1 l2 xs ys k g) : ZObjs z TI TO i1 i2 l1 l2 g := by
  obtain ⟨a1, a2, ⟨_, _, a3⟩, ⟨_, a4, _⟩, ⟨_, a5, _⟩, ⟨_, a6, _⟩, ⟨_, a7, _⟩⟩ := hst
  exact ⟨_, _, _, _, _, _, _, a1, a2, a3, a4, a5, a6, a7⟩
inductive ZLoop (z TI TO i1 i2 l1 l2 : Addr) (xs ys : Array Value) (h₀ : Heap) (L C : Addr) (m : Str → Option Value) (led : Led) (s : Shared) : Nat → Shared → Prop
  | mk (h : Heap) (tk : Tok) (i : Nat) (m' : Str → Option Value) (hi : i ≤ min xs.size ys.size) (st : ZSt z TI TO i1 i2 l1 l2 xs ys i h) (F : Fr h₀ L h m) (n : h.Ns C m') (N : News h₀ L h led) :
      ZLoop z TI TO i1 i2 l1 l2 xs ys h₀ L C m led s (min xs.size ys.size + 1 - i) { s with heap := h, toks := tk }
theorem block_Z {ct elt iter : PySem.Expr} {x x₂ : Str} {px px₂ tp : Pos} {tk0} {scope : Scope} {cl : List (Str × Addr)} {pos : Pos} {s₂ : Shared} {z TI TO i1 i2 l1 l2 : Addr} {xs ys : Array Value} {news : Led} {RR : Value → Addr → Result → Shared → Prop}
    (hh : A.handled = none) (Dz : ZipApart z TI TO i1 i2 l1 l2) (hst : ZSt z TI TO i1 i2 l1 l2 xs ys 0 s₂.heap)
    (hcell : ∀ y ∈ scope.names, y.2 ≠ .cell) (hkind : scope.kind = .function) (hx : scope.names.lookup x = some .local) (hx₂ : scope.names.lookup x₂ = some .local) (hxx : x ≠ x₂)
    (F : Fr h₀ L s₂.heap m) (N : News h₀ L s₂.heap news) (hz : ∀ b ∈ [z, TI, TO, i1, i2], b ≠ L ∧ h₀.get? b = none ∧ ∀ p ∈ news, p.1 ≠ b) (hl1 : ∃ o, (l1, o) ∈ news) (hl2 : ∃ o, (l2, o) ∈ news)
    (turn : ∀ (i : Nat) v₁ v₂ C oC m₂ zs h tk (E' : Value → Shared → Prop), xs[i]? = some v₁ → ys[i]? = some v₂ → NsObj oC m₂ → m₂ x = some v₁ → m₂ x₂ = some v₂ → Fr h₀ L h m → News h₀ L h ((C, oC) :: (zs ++ news)) →
      wpAny (model prog w) A (isTrue ct (compEnvC scope cl C env) (eval ct (compEnvC scope cl C env))) (fun ok s' => ok = false ∧ ∃ h' tk', s' = { s₂ with heap := h', toks := tk' } ∧ Fr h₀ L h' m ∧ News h₀ L h' ((C, oC) :: (zs ++ news))) E' { s₂ with heap := h, toks := tk })
    (hRR : ∀ D C h tk m', Fr h₀ L h m → News h₀ L h ((D, lst []) :: news) → (∀ p ∈ news, p.1 ≠ D) → h.Ns C m' → h₀.get? C = none → h₀.get? D = none → C ≠ L → D ≠ L → C ≠ D → (∀ p ∈ news, p.1 ≠ C) → RR (.ref D) C (.ok .next) { s₂ with heap := h, toks := tk }) :
    wpAny (model prog w) A (newList []) (fun acc s₃ => wpAny (model prog w) A (newFunctionEnv scope env.globals cl [] env.qual none .none (some env)) (fun cenv s₄ =>
      codeAny (model prog w) A (.compStart (.ListComp elt [⟨.Tuple [.Name x px, .Name x₂ px₂] tk0 tp, iter, [ct], 0⟩] scope pos) 0 (.ref z) acc { cenv with scope := relabel scope env }) (RR acc cenv.locals) s₄) E s₃) E s₂ := by
  have W := WalksT.zip2 (prog := prog) (w := w) hh z TI TO i1 i2 l1 l2 Dz xs ys
  have hfp : ∀ b ∈ [z, TI, TO, i1, i2, l1, l2], b < s₂.heap.objs.size := zst_lt hst
  refine wpAny_newObj_type (wpAny_newFunctionEnv hcell (by intro y hy; simp at hy) (fun h₁ hns₁ hsb₁ => ?_) hkind)
  dsimp only at hns₁ hsb₁ ⊢
  generalize hH2 : s₂.heap.push { cls := .type "list", dict := none, data := .seq ([] : List Value).toArray } = H2 at hns₁ hsb₁ ⊢
  have hC : H2.objs.size = s₂.heap.objs.size + 1 := by rw [← hH2, Heap.size_push]
  have hDC : s₂.heap.objs.size ≠ H2.objs.size := by rw [hC]; exact Nat.ne_of_lt (Nat.lt_succ_self _)
  have below : ∀ b, b < s₂.heap.objs.size → b ≠ H2.objs.size ∧ b ≠ s₂.heap.objs.size := fun b hb => ⟨by rw [hC]; exact Nat.ne_of_lt (Nat.lt_succ_of_lt hb), Nat.ne_of_lt hb⟩
  have old : ∀ b o, s₂.heap.get? b = some o → h₁.get? b = some o := fun b o e => hsb₁.extBut b o (below b (Heap.lt_size e)).1 (Heap.get?_push_of_some _ (hH2 ▸ Heap.get?_push_of_some _ e))
  have hacc : h₁.get? s₂.heap.objs.size = some (lst []) := hsb₁.extBut _ _ hDC (Heap.get?_push_of_some _ (hH2 ▸ Heap.get?_push_size _ rfl))
  have fresh : ∀ a, s₂.heap.objs.size ≤ a → s₂.heap.get? a = none := fun a ha => by
    cases e : s₂.heap.get? a with
    | none => rfl
    | some o' => exact absurd (Heap.lt_size e) (Nat.not_lt.mpr ha)
  have fresh₀ : ∀ a, s₂.heap.objs.size ≤ a → h₀.get? a = none := fun a ha => by
    cases e : h₀.get? a with
    | none => rfl
    | some o' => have := F.keep a o' e; rw [fresh a ha] at this; cases this
  have hD₀ : h₀.get? s₂.heap.objs.size = none := fresh₀ _ (Nat.le_refl _)
  have hC₀ : h₀.get? H2.objs.size = none := fresh₀ _ (by rw [hC]; exact Nat.le_succ _)
  have hLlt : L < s₂.heap.objs.size := F.ns.lt
  have hDL : s₂.heap.objs.size ≠ L := Ne.symm (below L hLlt).2
  have hCL : H2.objs.size ≠ L := Ne.symm (below L hLlt).1
  have offC : ∀ p ∈ news, p.1 ≠ H2.objs.size := fun p hp => (below _ (Heap.lt_size (N p hp).1)).1
  have offD : ∀ p ∈ news, p.1 ≠ s₂.heap.objs.size := fun p hp => (below _ (Heap.lt_size (N p hp).1)).2
  have hwr : ∀ b ∈ [z, TO, i1, i2], b ≠ L ∧ h₀.get? b = none ∧ (∀ p ∈ news, p.1 ≠ b) ∧ b ≠ H2.objs.size ∧ b ≠ s₂.heap.objs.size := fun b hb => by
    have q := hz b (by simp only [List.mem_cons, List.not_mem_nil, or_false] at hb ⊢; rcases hb with h | h | h | h <;> simp [h])
    have q2 := below b (hfp b (W.sub b hb))
    exact ⟨q.1, q.2.1, q.2.2, q2.1, q2.2⟩
  have loop : ∀ s₃ : Shared, s₃ = { s₂ with heap := h₁, toks := s₂.toks + ([] : List (Str × Value)).length } →
      codeAny (model prog w) A (.compLoop (.ListComp elt [⟨.Tuple [.Name x px, .Name x₂ px₂] tk0 tp, iter, [ct], 0⟩] scope pos) 0 (.ref z) (.ref s₂.heap.objs.size) (compEnvC scope cl H2.objs.size env))
        (RR (.ref s₂.heap.objs.size) H2.objs.size) s₃ := by
    rintro s₃ rfl
    refine loop_pairT
      (ZLoop z TI TO i1 i2 l1 l2 xs ys h₀ L H2.objs.size m ((s₂.heap.objs.size, lst []) :: news) s₂) ?_ (min xs.size ys.size + 1)
      ⟨h₁, _, 0, _, Nat.zero_le _, W.frame _ _ _ hst fun b _ o e => old b o e, F.keeps old, hns₁, fun p hp => ?_⟩
    · rintro k s' ⟨h', tk, i, m', hi, hst', F', hn', N'⟩
      have keepF : ∀ {g g' : Heap} {m}, Fr h₀ L g m → (∀ b o, b ∉ [z, TO, i1, i2] → g.get? b = some o → g'.get? b = some o) → Fr h₀ L g' m := fun {g g' m} Fg hk =>
        ⟨Fg.ns.at' fun o e => hk L o (fun hb => (hwr L hb).1 rfl) e, fun b o e => hk b o (fun hb => by rw [(hwr b hb).2.1] at e; cases e) (Fg.keep b o e), Fg.above⟩
      have keepN : ∀ {g g' : Heap}, News h₀ L g ((s₂.heap.objs.size, lst []) :: news) → (∀ b o, b ∉ [z, TO, i1, i2] → g.get? b = some o → g'.get? b = some o) → News h₀ L g' ((s₂.heap.objs.size, lst []) :: news) := fun {g g'} Ng hk p hp =>
        ⟨hk _ _ (fun hb => by
          have q := hwr _ hb
          rcases List.mem_cons.mp hp with rfl | hp
          · exact q.2.2.2.2 rfl
          · exact q.2.2.1 p hp rfl) (Ng p hp).1, (Ng p hp).2⟩
      by_cases hlt : i < min xs.size ys.size
      · refine W.item i _ _ _ hlt hst' fun T vals h₂ tk₂ hP hTlt hT hMid hk₂ => ?_
        obtain ⟨a, b, ha, hb, rfl⟩ := hP
        refine W.go _ _ _ i T _ _ _ hMid fun h₃ hst₃ hk₃ => ?_
        have hT3 : IsTup h₃ T #[a, b] := by
          obtain ⟨oT, eT, rT⟩ := hT
          exact ⟨oT, hk₃ _ _ (W.apart i T _ hMid) eT, rT⟩
        refine assign_Tuple_tuple hh hT3 rfl rfl fun h₅ he => ?_
        have he' : ∀ b o, h₃.get? b = some o → h₅.get? b = some o := fun b o e => he b o (Nat.ne_of_lt (Heap.lt_size e)) e
        have nsC : ∀ b ∈ [z, TO, i1, i2], H2.objs.size ≠ b := fun b hb e => (hwr b hb).2.2.2.1 e.symm
        have hnC : h₅.Ns H2.objs.size m' := ((hn'.at' fun o e => hk₂ _ o (fun hb => nsC _ hb rfl) e).at' fun o e => hk₃ _ o (fun hb => nsC _ hb rfl) e).at' fun o e => he' _ o e
        refine assignInOrder_cons (wpAny_assign_Name (wpAny_storeName_local (lookup_relabel_local hx) hnC (fun h₆ hn₆ hs₆ => ?_) (by simp [compEnvC, relabel, hkind])))
        refine assignInOrder_cons (wpAny_assign_Name (wpAny_storeName_local (lookup_relabel_local hx₂) hn₆ (fun h₇ hn₇ hs₇ => ?_) (by simp [compEnvC, relabel, hkind])))
        refine assignInOrder_nil ?_
        have old7 : ∀ b o, b ≠ H2.objs.size → h₃.get? b = some o → h₇.get? b = some o := fun b o hb e => hs₇.extBut b o hb (hs₆.extBut b o hb (he' b o e))
        have hst₇ : ZSt z TI TO i1 i2 l1 l2 xs ys (i + 1) h₇ := W.frame _ _ _ hst₃ fun b hb o e => old7 b o (below b (hfp b hb)).1 e
        obtain ⟨oC, heC, hoC⟩ := ns_obj hn₇
        have F₇ : Fr h₀ L h₇ m := (((keepF (keepF F' hk₂) hk₃).keeps he').change hs₆ hCL hC₀).change hs₇ hCL hC₀
        have N₃ := keepN (keepN N' hk₂) hk₃
        have N₇ : News h₀ L h₇ ((s₂.heap.objs.size, lst []) :: news) := fun p hp => ⟨old7 _ _ (by
          rcases List.mem_cons.mp hp with rfl | hp
          · exact hDC
          · exact offC p hp) (N₃ p hp).1, (N₃ p hp).2⟩
        obtain ⟨oz, o2, o3, o4, o5, o6, o7, qz, q2', q3', q4, q5, q6, q7⟩ := zst_objs hst₇
        have hN : News h₀ L h₇ ((H2.objs.size, oC) :: ([(z, oz), (TI, o2), (TO, o3), (i1, o4), (i2, o5), (s₂.heap.objs.size, lst [])] ++ news)) := (List.forall_mem_cons.mpr ⟨⟨heC, hCL, hC₀⟩, List.forall_mem_cons.mpr ⟨⟨qz, (hz _ (.head _)).1, (hz _ (.head _)).2.1⟩, List.forall_mem_cons.mpr ⟨⟨q2', (hz _ (.tail _ (.head _))).1, (hz _ (.tail _ (.head _))).2.1⟩,
          List.forall_mem_cons.mpr ⟨⟨q3', (hz _ (.tail _ (.tail _ (.head _)))).1, (hz _ (.tail _ (.tail _ (.head _)))).2.1⟩, List.forall_mem_cons.mpr ⟨⟨q4, (hz _ (.tail _ (.tail _ (.tail _ (.head _))))).1, (hz _ (.tail _ (.tail _ (.tail _ (.head _))))).2.1⟩,
          List.forall_mem_cons.mpr ⟨⟨q5, (hz _ (.tail _ (.tail _ (.tail _ (.tail _ (.head _)))))).1, (hz _ (.tail _ (.tail _ (.tail _ (.tail _ (.head _)))))).2.1⟩, N₇⟩⟩⟩⟩⟩⟩ : ∀ p ∈ (H2.objs.size, oC) :: (z, oz) :: (TI, o2) :: (TO, o3) :: (i1, o4) :: (i2, o5) :: (s₂.heap.objs.size, lst []) :: news, _)
        refine wpAny_mono (turn i a b H2.objs.size oC _ _ h₇ _ _ ha hb hoC (by simp [hxx]) (by simp) F₇ hN) (fun ok s₄ h₄ => ?_) fun _ _ e => e
        obtain ⟨rfl, h₈, tk₈, rfl, F₈, N₈⟩ := h₄
        have get8 : ∀ {c : Addr} {oc o : Obj}, (c, oc) ∈ (H2.objs.size, oC) :: ([(z, oz), (TI, o2), (TO, o3), (i1, o4), (i2, o5), (s₂.heap.objs.size, lst [])] ++ news) → h₇.get? c = some oc → h₇.get? c = some o → h₈.get? c = some o := fun hm e1 e2 => by
          rw [e1] at e2; cases e2; exact (N₈ _ hm).1
        obtain ⟨ol, hol⟩ := hl1
        obtain ⟨ol2, hol2⟩ := hl2
        refine ⟨rfl, min xs.size ys.size + 1 - (i + 1), Nat.sub_lt_sub_left (Nat.lt_succ_of_lt hlt) (Nat.lt_succ_self i), h₈, tk₈, i + 1, _, hlt, W.frame _ _ _ hst₇ (List.forall_mem_cons.mpr ⟨fun o e => get8 (.tail _ (.head _)) qz e, List.forall_mem_cons.mpr ⟨fun o e => get8 (.tail _ (.tail _ (.head _))) q2' e,
          List.forall_mem_cons.mpr ⟨fun o e => get8 (.tail _ (.tail _ (.tail _ (.head _)))) q3' e, List.forall_mem_cons.mpr ⟨fun o e => get8 (.tail _ (.tail _ (.tail _ (.tail _ (.head _))))) q4 e, List.forall_mem_cons.mpr ⟨fun o e => get8 (.tail _ (.tail _ (.tail _ (.tail _ (.tail _ (.head _)))))) q5 e,
          List.forall_mem_cons.mpr ⟨fun o e => get8 (List.mem_cons_of_mem _ (List.mem_append_right _ hol)) (N₇ _ (List.mem_cons_of_mem _ hol)).1 e, List.forall_mem_cons.mpr ⟨fun o e => get8 (List.mem_cons_of_mem _ (List.mem_append_right _ hol2)) (N₇ _ (List.mem_cons_of_mem _ hol2)).1 e, List.forall_mem_nil _⟩⟩⟩⟩⟩⟩⟩), F₈, hoC.ns (N₈ _ List.mem_cons_self).1, fun p hp => N₈ p (List.mem_cons_of_mem _ ?_)⟩
        · rcases List.mem_cons.mp hp with rfl | hp
          · simp
          · exact List.mem_append_right _ hp
      · obtain rfl : i = min xs.size ys.size := Nat.le_antisymm hi (Nat.not_lt.mp hlt)
        refine W.done _ _ _ hst' fun h₂ tk₂ hk₂ => ?_
        have nsC : ∀ b ∈ [z, TO, i1, i2], H2.objs.size ≠ b := fun b hb e => (hwr b hb).2.2.2.1 e.symm
        exact hRR _ _ h₂ tk₂ _ (keepF F' hk₂) (keepN N' hk₂) offD (hn'.at' fun o e => hk₂ _ o (fun hb => nsC _ hb rfl) e) hC₀ hD₀ hCL hDL (Ne.symm hDC) offC
    · rcases List.mem_cons.mp hp with rfl | hp
      · exact ⟨hacc, hDL, hD₀⟩
      · exact ⟨old _ _ (N p hp).1, (N p hp).2⟩
  exact codeAny_compStart_list (loop _ rfl) (W.self 0 _ _ _ (W.frame _ _ _ hst fun b _ o e => old b o e) (loop _ rfl))

def ZTurn (prog : Program) (w : World) (A : Around) (h₀ : Heap) (L : Addr) (m : Str → Option Value) (env : Env) (ct : PySem.Expr) (x x₂ : Str) (scope : Scope) (cl : List (Str × Addr)) (s : Shared) (xs ys : Array Value) (news : Led) : Prop :=
  ∀ (i : Nat) v₁ v₂ C oC m₂ zs h tk (E' : Value → Shared → Prop), xs[i]? = some v₁ → ys[i]? = some v₂ → NsObj oC m₂ → m₂ x = some v₁ → m₂ x₂ = some v₂ → Fr h₀ L h m → News h₀ L h ((C, oC) :: (zs ++ news)) →
      wpAny (model prog w) A (isTrue ct (compEnvC scope cl C env) (eval ct (compEnvC scope cl C env))) (fun ok s' => ok = false ∧ ∃ h' tk', s' = { s with heap := h', toks := tk' } ∧ Fr h₀ L h' m ∧ News h₀ L h' ((C, oC) :: (zs ++ news))) E' { s with heap := h, toks := tk }
def ZSrc (prog : Program) (w : World) (A : Around) (h₀ : Heap) (L : Addr) (m : Str → Option Value) (env : Env) (ct : PySem.Expr) (x x₂ : Str) (scope : Scope) (cl : List (Str × Addr)) (Q : Value → Shared → Prop) (xv : Value) (s : Shared) : Prop :=
  ∃ z TI TO i1 i2 l1 l2 xs ys news, xv = .ref z ∧ A.handled = none ∧ ZipApart z TI TO i1 i2 l1 l2 ∧ ZSt z TI TO i1 i2 l1 l2 xs ys 0 s.heap ∧ Fr h₀ L s.heap m ∧ News h₀ L s.heap news ∧
    (∀ b ∈ [z, TI, TO, i1, i2], b ≠ L ∧ h₀.get? b = none ∧ ∀ p ∈ news, p.1 ≠ b) ∧ (∃ o, (l1, o) ∈ news) ∧ (∃ o, (l2, o) ∈ news) ∧ ZTurn prog w A h₀ L m env ct x x₂ scope cl s xs ys news ∧
    ∀ D h tk, Fr h₀ L h m → News h₀ L h ((D, lst []) :: news) → (∀ p ∈ news, p.1 ≠ D) → Q (.ref D) { s with heap := h, toks := tk }
theorem ListComp_Z {ct elt iter : PySem.Expr} {x x₂ : Str} {px px₂ tp : Pos} {tk0} {scope : Scope} {cl : List (Str × Addr)} {pos : Pos} {Q : Value → Shared → Prop} (_F₀ : Fr h₀ L s.heap m)
    (hclos : closureFor scope env = pure cl) (hcell : ∀ y ∈ scope.names, y.2 ≠ .cell) (hkind : scope.kind = .function)
    (hnames : ∀ y ∈ scope.names, y.2 = .local → scope.names.lookup y.1 = some .local) (hx : scope.names.lookup x = some .local) (hx₂ : scope.names.lookup x₂ = some .local) (hxx : x ≠ x₂)
    (h : wpAny (model prog w) A (eval iter env) (ZSrc prog w A h₀ L m env ct x x₂ scope cl Q) E s)
    (hs : ∀ x, foldedSetIterable iter env x = pure x := by intro _; rfl) :
    wpAny (model prog w) A (eval (.ListComp elt [⟨.Tuple [.Name x px, .Name x₂ px₂] tk0 tp, iter, [ct], 0⟩] scope pos) env) Q E s := by
  rw [eval_ListComp]
  refine wpAny_comprehension_free (use := none) rfl hs hclos hkind hnames (wpAny_mono h (fun xv s₁ h₁ => ?_) fun _ _ e => e)
  obtain ⟨z, TI, TO, i1, i2, l1, l2, xs, ys, news, rfl, hh, Dz, hst, F, N, hz, hl1, hl2, turn, fin⟩ := h₁
  refine (WalksT.zip2 (prog := prog) (w := w) hh z TI TO i1 i2 l1 l2 Dz xs ys).self 0 _ _ _ hst ?_
  refine block_Z hh Dz hst hcell hkind hx hx₂ hxx F N hz hl1 hl2 turn ?_
  intro D C h tk m' F' N' o1 hn hC₀ hD₀ hCL hDL hCD offC
  refine ⟨m', hn, fun h'' hs'' => fin D h'' tk (F'.change hs'' hCL hC₀) (fun p hp => ?_) o1⟩
  refine ⟨hs''.extBut _ _ ?_ (N' p hp).1, (N' p hp).2⟩
  rcases List.mem_cons.mp hp with rfl | hp
  · exact Ne.symm hCD
  · exact offC p hp
theorem zip_src {ct : PySem.Expr} {x x₂ : Str} {scope : Scope} {cl : List (Str × Addr)} {Q : Value → Shared → Prop} {l1 l2 : Addr} {us vs : List Value} {n k : Nat} {news : Led}
    (hh : A.handled = none) (F : Fr h₀ L s.heap m) (N : News h₀ L s.heap news) (m1 : (l1, listOf us.toArray n) ∈ news) (m2 : (l2, listOf vs.toArray k) ∈ news)
    (turn : ZTurn prog w A h₀ L m env ct x x₂ scope cl s us.toArray vs.toArray news)
    (fin : ∀ D h tk, Fr h₀ L h m → News h₀ L h ((D, lst []) :: news) → (∀ p ∈ news, p.1 ≠ D) → Q (.ref D) { s with heap := h, toks := tk }) :
    wpAny (model prog w) A (call (.type "zip") [.ref l1, .ref l2]) (ZSrc prog w A h₀ L m env ct x x₂ scope cl Q) E s := by
  have hls1 : s.heap.IsList l1 us.toArray := ⟨_, (N _ m1).1, rfl, n, rfl⟩
  have hls2 : s.heap.IsList l2 vs.toArray := ⟨_, (N _ m2).1, rfl, k, rfl⟩
  have a1 : l1 < s.heap.objs.size := Heap.lt_size (N _ m1).1
  have a2 : l2 < s.heap.objs.size := Heap.lt_size (N _ m2).1
  have hLs : L < s.heap.objs.size := F.ns.lt
  have hab : h₀.objs.size ≤ L := F.above
  refine call_zip_2 hls1 hls2 fun h' hz hTI hTO hit1 hit2 hsz hk => ?_
  have F' : Fr h₀ L h' m := ⟨F.ns.keeps hk, fun b o e => hk b o (F.keep b o e), F.above⟩
  have N' : News h₀ L h' news := fun p hp => ⟨hk _ _ (N p hp).1, (N p hp).2⟩
  refine ⟨_, _, _, _, _, l1, l2, us.toArray, vs.toArray, news, rfl, hh, zipApart_new a1 a2, ⟨hz, hTI, ⟨_, _, hTO⟩, hit1, hit2, hls1.at fun o e => hk l1 o e, hls2.at fun o e => hk l2 o e⟩, F', N', ?_, ⟨_, m1⟩, ⟨_, m2⟩, turn, fin⟩
  have up : ∀ j, (s.heap.objs.size + j ≠ L) ∧ h₀.get? (s.heap.objs.size + j) = none ∧ ∀ p ∈ news, p.1 ≠ s.heap.objs.size + j := fun j =>
    ⟨Nat.ne_of_gt (Nat.lt_of_lt_of_le hLs (Nat.le_add_right _ j)), Heap.get?_none_of_le (Nat.le_trans hab (Nat.le_trans (Nat.le_of_lt hLs) (Nat.le_add_right _ j))), fun p hp e => Nat.ne_of_lt (Nat.lt_of_lt_of_le (Heap.lt_size (N p hp).1) (Nat.le_add_right _ j)) e⟩
  intro b hb
  simp only [List.mem_cons, List.not_mem_nil, or_false] at hb
  rcases hb with rfl | rfl | rfl | rfl | rfl
  · exact up 4
  · exact up 2
  · exact up 3
  · exact up 0
  · exact up 1
end
example : True := by
  w_top off
  trivial
--@nofill
/-! ## comprehensions over a ledger's list -/
section
variable {prog : Program} {w : World} {A : Around} {h₀ : Heap} {L : Addr} {m : Str → Option Value} {env : Env} {ct elt : PySem.Expr} {x : Str} {scope : Scope} {cl : List (Str × Addr)} {s : Shared} {S : Led → Prop} {Fin : List Value → Led → Prop}
theorem comp_dat {α : Type} {as : List α} {base : Led} {its : Array Value} (Rel : α → Value → Prop) (G : α → Dat) (hS : ∀ e, S (e ++ base)) (hsz : its.size = as.length) (hrel : ∀ (i : Nat) v, its[i]? = some v → ∃ a, as[i]? = some a ∧ Rel a v)
    (turn : ∀ a v cur ys I oI C oC D m₂ h tk (E' : Value → Shared → Prop), a ∈ as → Rel a v → (∀ p ∈ base, p ∈ cur) → (∀ e, S (e ++ cur)) → LCg.NsObj oC m₂ → m₂ x = some v → Fr h₀ L h m → News h₀ L h ((I, oI) :: (C, oC) :: (D, LCg.lst ys) :: cur) → LCg.Off3 I C D cur → ((@Ne Nat I C) ∧ (@Ne Nat I D) ∧ (@Ne Nat C D)) →
      wpAny (model prog w) A (eval elt (compEnvC scope cl C env)) (LCg.CompEnd h₀ L m { s with heap := h, toks := tk } I oI C oC D (LCg.lst ys) S (fun y news' => ∃ e, news' = e ++ cur ∧ DatIn news' y (G a))) E' { s with heap := h, toks := tk })
    (fin : ∀ ys own, DatAll (own ++ base) ys (as.map G) → Fin ys (own ++ base)) : LCg.CompRest prog w A h₀ L m env elt x scope cl s S (fun i v => its[i]? = some v) Fin its.size 0 [] base := by
  have key : ∀ (j i : Nat) (ys : List Value) (own : Led), i + j = as.length → DatAll (own ++ base) ys ((as.take i).map G) → LCg.CompRest prog w A h₀ L m env elt x scope cl s S (fun i v => its[i]? = some v) Fin j i ys (own ++ base) := by
    intro j
    induction j with
    | zero =>
      intro i ys own hi hy
      rw [List.take_of_length_le (by k_extra "ar")] at hy
      exact LCg.CompRest.zero (fin ys own hy)
    | succ j ih =>
      intro i ys own hi hy
      refine LCg.CompRest.succ ?_
      intro v I oI C oC D m₂ h tk E' hv hC hx F N off ne
      obtain ⟨a, ha, hr⟩ := hrel i v hv
      refine wpAny_mono (turn a v (own ++ base) ys I oI C oC D m₂ h tk E' (List.mem_of_getElem? ha) hr (fun p hp => List.mem_append_right _ hp) (fun e => by rw [← List.append_assoc]; exact hS _) hC hx F N off ne) (fun y s₂ hq => ?_) fun _ _ e => e
      obtain ⟨h', tk', nw, e, F', N', off', hS', e2, hn, hd⟩ := hq
      subst hn
      refine ⟨h', tk', e2 ++ (own ++ base), e, F', N', off', hS', ?_⟩
      rw [← List.append_assoc]
      refine ih (i + 1) _ _ (by k_extra "ar") ?_
      rw [List.append_assoc, List.take_add_one, ha, Option.toList_some, List.map_append]
      exact .append (hy.mono fun p hp => List.mem_append_right _ hp) (.one hd)
  rw [hsz]
  exact key as.length 0 [] [] (by k_extra "ar") .nil
theorem dat_rel {α : Type} {as : List α} {base : Led} {us : List Value} {f : α → Dat} (h : DatAll base us (as.map f)) : us.toArray.size = as.length ∧ ∀ (i : Nat) v, us.toArray[i]? = some v → ∃ a, as[i]? = some a ∧ DatIn base v (f a) := by
  have hl := h.length
  rw [List.length_map] at hl
  refine ⟨by rw [List.size_toArray, hl], fun i v hv => ?_⟩
  have hi : i < us.length := by
    have := (Array.getElem?_eq_some_iff.mp hv).1
    simpa using this
  obtain ⟨v', h1, h2⟩ := h.get (k := i) (by rw [List.length_map]; k_extra "ar")
  rw [List.getElem?_toArray] at hv
  rw [h1] at hv
  cases hv
  refine ⟨as[i]'(by k_extra "ar"), List.getElem?_eq_getElem _, ?_⟩
  simpa using h2
theorem comp_end1 {h₀ : Heap} {L : Addr} {m : Str → Option Value} {s : Shared} {I C D T : Addr} {oI oC oD o : Obj} {S : Led → Prop} {cur : Led} {h' : Heap} {tk : Nat} {d : Dat}
    (F : Fr h₀ L h' m) (N : News h₀ L h' ((T, o) :: (I, oI) :: (C, oC) :: (D, oD) :: cur)) (off : LCg.Off3 I C D cur) (hl : (@LT.lt Nat _ I T) ∧ (@LT.lt Nat _ C T) ∧ (@LT.lt Nat _ D T) ∧ AllLt T cur) (hS : ∀ e, S (e ++ cur)) (hd : DatIn ((T, o) :: cur) (.ref T) d) :
    LCg.CompEnd h₀ L m s I oI C oC D oD S (fun y news' => ∃ e, news' = e ++ cur ∧ DatIn news' y d) (.ref T) { s with heap := h', toks := tk } :=
  LCg.CompEnd.intro F N ([(T, o)] ++ cur) (fun p hp => by
    simp only [List.mem_cons, List.cons_append, List.nil_append] at hp ⊢
    rcases hp with h | h | h | h | h <;> simp [h]) ⟨⟨Nat.ne_of_gt hl.1, Nat.ne_of_gt hl.2.1, Nat.ne_of_gt hl.2.2.1⟩, off⟩ (hS _) ⟨[(T, o)], rfl, hd⟩
end
example : True := by
  w_top off
  trivial
/-! ## _law_is_told -/
inductive Told : List NumT → List MetT → Prop
  | nil : Told [] []
  | cons {a b : Int} {v : Int × Int} {o : Option (Int × Int)} {qs : List NumT} {ms : List MetT} : (∀ p, o = some p → p = v) → Told qs ms → Told ((a, b, v) :: qs) ((a, b, o) :: ms)
theorem told_len : ∀ {qs : List NumT} {ms : List MetT}, Told qs ms → qs.length = ms.length
  | _, _, .nil => rfl
  | _, _, .cons _ h => by rw [List.length_cons, List.length_cons, told_len h]
theorem told_cut : ∀ {qs : List NumT} {ms : List MetT}, Told qs ms → qs.map (fun q => Dat.tuple [.int q.1, .int q.2.1]) = ms.map (fun q => Dat.tuple [.int q.1, .int q.2.1])
  | _, _, .nil => rfl
  | _, _, .cons _ h => by rw [List.map_cons, List.map_cons, told_cut h]
theorem told_at : ∀ {qs : List NumT} {ms : List MetT}, Told qs ms → ∀ (i : Nat) {q : NumT} {r : MetT}, qs[i]? = some q → ms[i]? = some r → ∀ p, r.2.2 = some p → p = q.2.2
  | _, _, .nil, i, q, r, h, _ => by simp at h
  | _, _, .cons h _, 0, q, r, h1, h2 => by
    simp only [List.getElem?_cons_zero, Option.some.injEq] at h1 h2
    subst h1; subst h2; exact h
  | _, _, .cons _ t, i + 1, q, r, h1, h2 => by
    simp only [List.getElem?_cons_succ] at h1 h2
    exact told_at t i h1 h2
inductive NumIn (base : Led) (q : NumT) : Value → Prop
  | mk (T T2 : Addr) (t1 t2 u1 u2 : Tok) (n n2 : Nat) (m : (T, ({ cls := .type "tuple", data := .seq [Value.int q.1 t1, Value.int q.2.1 t2, Value.ref T2].toArray n } : Obj)) ∈ base) (m2 : (T2, ({ cls := .type "tuple", data := .seq [Value.int q.2.2.1 u1, Value.int q.2.2.2 u2].toArray n2 } : Obj)) ∈ base) : NumIn base q (.ref T)
theorem numD_in {base : Led} {v : Value} {q : NumT} (h : DatIn base v (numD q)) : NumIn base q v := by
  obtain ⟨T, vs, n, m, a1⟩ := tup_in h
  obtain ⟨v1, vs, h1, a2⟩ := cons_in a1
  obtain ⟨t1⟩ := int_in h1
  obtain ⟨v2, vs, h2, a3⟩ := cons_in a2
  obtain ⟨t2⟩ := int_in h2
  obtain ⟨v3, vs, h3, a4⟩ := cons_in a3
  have e := nil_in a4
  subst e
  obtain ⟨T2, vs, n2, m2, a5⟩ := tup_in h3
  obtain ⟨v4, vs, h4, a6⟩ := cons_in a5
  obtain ⟨u1⟩ := int_in h4
  obtain ⟨v5, vs, h5, a7⟩ := cons_in a6
  obtain ⟨u2⟩ := int_in h5
  have e := nil_in a7
  subst e
  exact ⟨T, T2, t1, t2, u1, u2, n, n2, m, m2⟩
theorem pair_in {base : Led} {v : Value} {p : Int × Int} (h : DatIn base v (optD (some p))) : PairIn base p v := pairD_in h
inductive MetIn (base : Led) (q : MetT) : Value → Prop
  | mk (T : Addr) (t1 t2 : Tok) (x : Value) (n : Nat) (m : (T, ({ cls := .type "tuple", data := .seq [Value.int q.1 t1, Value.int q.2.1 t2, x].toArray n } : Obj)) ∈ base) (d : DatIn base x (optD q.2.2)) : MetIn base q (.ref T)
theorem metD_in {base : Led} {v : Value} {q : MetT} (h : DatIn base v (metD q)) : MetIn base q v := by
  obtain ⟨T, vs, n, m, a1⟩ := tup_in h
  obtain ⟨v1, vs, h1, a2⟩ := cons_in a1
  obtain ⟨t1⟩ := int_in h1
  obtain ⟨v2, vs, h2, a3⟩ := cons_in a2
  obtain ⟨t2⟩ := int_in h2
  obtain ⟨v3, vs, h3, a4⟩ := cons_in a3
  have e := nil_in a4
  subst e
  exact ⟨T, t1, t2, v3, n, m, h3⟩
section
local macro_rules | `(tactic| walk_at $s:str) => do
  let t := Lean.Syntax.mkStrLit ("sj21 " ++ s.getString)
  `(tactic| k_extra $t)
example : True := by ((k_with "sj21 eval ListComp" => ((k_here; (with_reducible show wpAny _ _ (eval (PySem.Expr.ListComp _ [⟨.Tuple _ _ _, _, _, _⟩] _ _) _) _ _ _); refine hold ?_))); trivial)
example : True := by ((k_with "sj21 call type:zip" => ((refine hold ?_))); trivial)
example : True := by ((k_with "sj21 CompSrc" => ((refine hold ?_))); trivial)
example : True := by ((k_with "sj21 CompSrcT" => ((refine hold ?_))); trivial)
example : True := by ((k_with "sj21 CompEnd" => ((refine hold ?_))); trivial)
theorem is_told_c (w : World) (news : Led) (a b : Addr) (us vs : List Value) (n k : Nat) (qs : List NumT) (ms : List MetT) (ha : (a, listOf us.toArray n) ∈ news) (hb : (b, listOf vs.toArray k) ∈ news) (da : DatAll news us (qs.map numD)) (db : DatAll news vs (ms.map metD)) (ht : Told qs ms) (hq : qs.length < 10) :
    Spec w 351 [.ref a, .ref b] 8 news (fun v nx => nx = news ∧ v = .bool true) := by
  intro mean mg mb dp un gd cn cs ad ccd cl outer A₀ base h₀ L m s Q E B F X N T hk hd hu ret
  refine wpAny_call ?_
  k_dflt ktr_enter
  rename Fr _ _ _ _ => F0
  have F1 : Fr _ _ _ (fun y => List.lookup y [(Str.ofString "due", Value.ref b), (Str.ofString "told", Value.ref a)]) := F0
  clear F0
  k_steps
  unfold Hold
  rename Fr _ _ _ _ => lF'
  rename News _ _ _ _ => lN'
  k_dflt (refine LCg.CompSrc.ledger rfl lF' lN' ha (by rw [(dat_rel da).1, sizeLine_eq]; k_extra "ar") ?_)
  intro g
  refine comp_dat (fun q v => DatIn news v (numD q)) (fun q => .tuple [.int q.1, .int q.2.1]) (fun e => .inr ⟨_, List.mem_append_right _ ha, rfl, _, rfl⟩) (dat_rel da).1 (dat_rel da).2 (fun q v cur ys I oI C oC D m₂ h tk E' hq hr hsub hS hC hx F N off ne => ?_) ?_
  · obtain ⟨T, T2, t1, t2, u1, u2, n1, n2, hm, hm2⟩ := numD_in hr
    have hm := hsub _ hm
    k_steps
    unfold Hold
    exact comp_end1 (by assumption) (by assumption) off (by assumption) hS (.tuple (vs := [_, _]) (.head _) (.cons (.int _ _) (.cons (.int _ _) .nil)))
  · intro ys own hd1
    k_steps
    unfold Hold
    clear lF' lN'
    rename Fr _ _ _ _ => lF'
    rename News _ _ _ _ => lN'
    rename_i D1 _ _ o1
    have hb1 : (b, listOf vs.toArray k) ∈ (D1, LCg.lst ys) :: (own ++ news) := .tail _ (List.mem_append_right _ hb)
    have db1 := db.mono (fun p hp => List.Mem.tail (D1, LCg.lst ys) (List.mem_append_right own hp))
    k_dflt (refine LCg.CompSrc.ledger rfl lF' lN' hb1 (by rw [(dat_rel db1).1, sizeLine_eq, ← told_len ht]; k_extra "ar") ?_)
    intro g2
    refine comp_dat (fun q v => DatIn ((D1, LCg.lst ys) :: (own ++ news)) v (metD q)) (fun q => .tuple [.int q.1, .int q.2.1]) (fun e => .inr ⟨_, List.mem_append_right _ hb1, rfl, _, rfl⟩) (dat_rel db1).1 (dat_rel db1).2 (fun q v cur ys I oI C oC D m₂ h tk E' hq hr hsub hS hC hx F N off ne => ?_) ?_
    · obtain ⟨T, t1, t2, x, n1, hm, hm2⟩ := metD_in hr
      have hm := hsub _ hm
      k_steps
      unfold Hold
      exact comp_end1 (by assumption) (by assumption) off (by assumption) hS (.tuple (vs := [_, _]) (.head _) (.cons (.int _ _) (.cons (.int _ _) .nil)))
    · intro zs own2 hd2
      k_steps
      clear lF' lN'
      rename News _ _ _ _ => nN
      k_dflt (refine kqd_ne nN (.tail _ (List.mem_append_right _ (.head _))) rfl rfl hd1 (fun p hp => .tail _ (List.mem_append_right _ (.tail _ hp))) (.head _) rfl rfl hd2 (fun p hp => .tail _ hp) ?_ ?_ (by simp only [units_deeper, units_in1, Around.mark_units]; (try dsimp only [ktrTop]); k_extra "ar") ?_)
      · intro d hd; obtain ⟨x, _, rfl⟩ := List.mem_map.mp hd; rfl
      · intro d hd; obtain ⟨x, _, rfl⟩ := List.mem_map.mp hd; rfl
      have hcut : ∀ i : Decidable (qs.map (fun q => Dat.tuple [.int q.1, .int q.2.1]) = ms.map (fun q => Dat.tuple [.int q.1, .int q.2.1])), (!@decide _ i) = false := fun i => by
        rw [Bool.not_eq_false', decide_eq_true_iff]; exact told_cut ht
      rw [hcut]
      rename Fr _ _ _ _ => nF
      k_steps
      unfold Hold
      k_dflt (refine ListComp_Z nF (by rfl) (by decide) (by rfl) (by decide) (by rfl) (by rfl) (by decide) ?_)
      k_steps
      unfold Hold
      have nM : News _ _ _ news := cb_drop nN (fun p hp => .tail _ (List.mem_append_right _ (.tail _ (List.mem_append_right _ hp))))
      k_dflt (refine zip_src rfl nF nM ha hb ?_ ?_)
      · clear nN nM nF
        intro i v₁ v₂ C oC m₂ zz h tk E' e1 e2 hC hx hx2 F N
        obtain ⟨q, eq, dq⟩ := (dat_rel da).2 i v₁ e1
        obtain ⟨r, er, dr⟩ := (dat_rel db).2 i v₂ e2
        have hqr := told_at ht i eq er
        obtain ⟨T, T2, t1, t2, u1, u2, n1, n2, hm, hm2⟩ := numD_in dq
        obtain ⟨T3, t3, t4, x3, n3, hm3, hd3⟩ := metD_in dr
        cases hr : r.2.2 with
        | none =>
          rw [hr] at hd3
          cases hd3
          have hm := List.mem_cons_of_mem (C, oC) (List.mem_append_right zz hm)
          have hm3 := List.mem_cons_of_mem (C, oC) (List.mem_append_right zz hm3)
          k_steps
          · exact F
          · exact N
        | some p =>
          rw [hr] at hd3
          have hp := hqr p hr
          obtain ⟨T4, w1, w2, n4, hm4⟩ := pair_in hd3
          subst hp
          have hm := List.mem_cons_of_mem (C, oC) (List.mem_append_right zz hm)
          have hm2 := List.mem_cons_of_mem (C, oC) (List.mem_append_right zz hm2)
          have hm3 := List.mem_cons_of_mem (C, oC) (List.mem_append_right zz hm3)
          have hm4 := List.mem_cons_of_mem (C, oC) (List.mem_append_right zz hm4)
          k_steps
          · exact F
          · exact N
      · intro D h tk F N o1
        clear nN nM nF
        k_steps
        exact ret _ _ _ _ ⟨rfl, rfl⟩ (by assumption) (cb_drop (by assumption) (by kcf_all))
end
example : True := by first | walk1 | trivial
example : True := by
  w_top off
  trivial
/-! ## _law_next -/
inductive NextOut (rw cl : Addr) (k below : Int) (rest : Led) : Value → Led → Prop
  | mk (x : Int) (t u : Tok) (n' : Nat) (h0 : 0 ≤ x) (h1 : x < below) : NextOut rw cl k below rest (.int x t) ((rw, listOf #[Value.int (k + 1) u, Value.ref cl] n') :: rest)
section
theorem law_next_c (w : World) (rest : Led) (rw cl : Addr) (k : Int) (tk0 : Tok) (n : Nat) (cells : List Int) (below : Int) (tb : Tok) (hr : ∀ p ∈ rest, p.1 ≠ rw) (hc : TL rest cl cells) (hl : cells.length < 100) (hk0 : 0 ≤ k) (hk1 : k < 1000) (hb : 0 < below) (hb1 : below < 1000) :
    Spec w 299 [.ref rw, .int below tb] 1 ((rw, listOf #[Value.int k tk0, Value.ref cl] n) :: rest) (NextOut rw cl k below rest) := by
  intro mean mg mb dp un gd cn cs a ccd cl0 outer A₀ base h₀ L m s Q E B F X N T hk hd hu ret
  refine wpAny_call ?_
  k_dflt ktr_enter
  rename Fr _ _ _ _ => F0
  have F1 : Fr _ _ _ (fun y => List.lookup y [(Str.ofString "below", Value.int below tb), (Str.ofString "row", Value.ref rw)]) := F0
  clear F0
  k_steps
  all_goals exact ret _ _ _ _ ⟨_, _, _, _, Int.fmod_nonneg_of_pos _ hb, Int.fmod_lt_of_pos _ hb⟩ (by assumption) (by assumption)
end
--@M
example : True := by ((k_with "callO" => ((with_reducible show wpAny _ _ (call (Value.ref 299) _ _) _ _ _); k_dflt (apply Spec.use; (focus (k_asm; done)); (focus (k_asm; done)); (focus (k_asm; done)); (focus (k_asm; done)); (focus (k_asm; done)); (focus ((first | exact rfl | assumption); done)); (focus ((apply law_next_c; all_goals (walk_at "mine side")); done)); (focus (ktr_room; done)); (focus (ktr_units; done)); k_whole); ((intro vz' nxz' hz' tkz' Oz'; (obtain ⟨x1qz, t1qz, u1qz, n1qz, b1qz, b2qz⟩ := Oz'); intro Fz' Nz'); ((try k_sweep); (try dsimp only); (try k_fold))))); trivial)
--@E
example : True := by
  w_top off
  trivial
/-! ## _law_code -/
theorem alpha_48 {x : Int} (h0 : 0 ≤ x) (h1 : x < 10) : 48 + x ∈ Alpha := by
  obtain ⟨k, rfl⟩ := Int.eq_ofNat_of_zero_le h0
  exact (by decide : ∀ k : Nat, k < 10 → 48 + (k : Int) ∈ Alpha) k (Int.ofNat_lt.mp h1)
theorem alpha_1632 {x : Int} (h0 : 0 ≤ x) (h1 : x < 10) : 1632 + x ∈ Alpha := by
  obtain ⟨k, rfl⟩ := Int.eq_ofNat_of_zero_le h0
  exact (by decide : ∀ k : Nat, k < 10 → 1632 + (k : Int) ∈ Alpha) k (Int.ofNat_lt.mp h1)
theorem alpha_order {x : Int} (h0 : 0 ≤ x) (h1 : x < 8) : ([189, 8533, 3884, 8548, 178, 12295, 3891, 8542] : List Int).getD x.toNat 0 ∈ Alpha := by
  obtain ⟨k, rfl⟩ := Int.eq_ofNat_of_zero_le h0
  exact (by decide : ∀ k : Nat, k < 8 → ([189, 8533, 3884, 8548, 178, 12295, 3891, 8542] : List Int).getD (k : Int).toNat 0 ∈ Alpha) k (Int.ofNat_lt.mp h1)
inductive CodeOut (rw cl : Addr) (k : Int) (rest : Led) : Value → Led → Prop
  | mk (c k' : Int) (t u : Tok) (n' : Nat) (hA : c ∈ Alpha) (h1 : k ≤ k') (h2 : k' ≤ k + 2) : CodeOut rw cl k rest (.int c t) ((rw, listOf #[Value.int k' u, Value.ref cl] n') :: rest)
theorem law_code_c (w : World) (rest : Led) (rw cl : Addr) (k : Int) (tk0 : Tok) (n : Nat) (cells : List Int) (hr : ∀ p ∈ rest, p.1 ≠ rw) (hc : TL rest cl cells) (hl : cells.length < 100) (hk0 : 0 ≤ k) (hk1 : k < 900) :
    Spec w 313 [.ref rw] 2 ((rw, listOf #[Value.int k tk0, Value.ref cl] n) :: rest) (CodeOut rw cl k rest) := by
  intro mean mg mb dp un gd cn cs a ccd cl0 outer A₀ base h₀ L m s Q E B F X N T hk hd hu ret
  refine wpAny_call ?_
  k_dflt ktr_enter
  rename Fr _ _ _ _ => F0
  have F1 : Fr _ _ _ (fun y => List.lookup y [(Str.ofString "row", Value.ref rw)]) := F0
  clear F0
  k_steps
  · exact ret _ _ _ _ ⟨_, k + 1 + 1, _, _, _, alpha_48 (by assumption) (by assumption), by k_extra "ar", by k_extra "ar"⟩ (by assumption) (by assumption)
  · exact ret _ _ _ _ ⟨_, k + 1 + 1, _, _, _, alpha_1632 (by assumption) (by assumption), by k_extra "ar", by k_extra "ar"⟩ (by assumption) (by assumption)
  · exact ret _ _ _ _ ⟨_, k + 1, _, _, _, by decide, by k_extra "ar", by k_extra "ar"⟩ (by assumption) (by assumption)
  · exact ret _ _ _ _ ⟨_, k + 1 + 1, _, _, _, alpha_order (by assumption) (by assumption), by k_extra "ar", by k_extra "ar"⟩ (by assumption) (by assumption)
  · exact ret _ _ _ _ ⟨_, k + 1, _, _, _, by decide, by k_extra "ar", by k_extra "ar"⟩ (by assumption) (by assumption)
--@M
example : True := by ((k_with "callO" => ((with_reducible show wpAny _ _ (call (Value.ref 313) _ _) _ _ _); k_dflt (apply Spec.use; (focus (k_asm; done)); (focus (k_asm; done)); (focus (k_asm; done)); (focus (k_asm; done)); (focus (k_asm; done)); (focus ((first | exact rfl | assumption); done)); (focus ((apply law_code_c; all_goals (walk_at "mine side")); done)); (focus (ktr_room; done)); (focus (ktr_units; done)); k_whole); ((intro vz' nxz' hz' tkz' Oz'; (obtain ⟨x1qz, k1qz, t1qz, u1qz, n1qz, b1qz, b2qz, b3qz⟩ := Oz'); intro Fz' Nz'); ((try k_sweep); (try dsimp only); (try k_fold))))); trivial)
--@E
example : True := by
  w_top off
  trivial
/-! ## range_are_like -/
theorem like_int_c (w : World) (news : Led) (x y : Int) (tx ty : Tok) :
    Spec w 185 [.int x tx, .int y ty] 2 news (fun v nx => nx = news ∧ v = .bool (decide (x = y))) := by
  intro mean mg mb dp un gd cn cs a ccd cl0 outer A₀ base h₀ L m s Q E B F X N T hk hd hu ret
  refine wpAny_call ?_
  k_dflt walk_at "mine enterC"
  k_steps
  · exact ret _ _ _ _ ⟨rfl, by rw [decide_eq_true (by assumption)]; rfl⟩ (by assumption) (cb_drop (by assumption) (by kcf_all))
  · exact ret _ _ _ _ ⟨rfl, congrArg Value.bool (by rw [decide_eq_false (by assumption)]; simpa using (by assumption : ¬ x = y))⟩ (by assumption) (cb_drop (by assumption) (by kcf_all))
theorem like_ns_c (w : World) (news : Led) (x : Str) (t : Tok) : Spec w 185 [.none, .str x t] 2 news (fun v nx => nx = news ∧ v = .bool false) := by
  intro mean mg mb dp un gd cn cs a ccd cl0 outer A₀ base h₀ L m s Q E B F X N T hk hd hu ret
  refine wpAny_call ?_
  k_dflt walk_at "mine enterC"
  k_steps
  exact ret _ _ _ _ ⟨rfl, rfl⟩ (by assumption) (cb_drop (by assumption) (by kcf_all))
theorem nt_eq {prog : Program} {w : World} {A : Around} {E : Value → Shared → Prop} {s : Shared} {h₀ : Heap} {L T : Addr} {cur : Led} {vs : List Value} {n : Nat} {Q : Value → Shared → Prop} (N : News h₀ L s.heap cur) (hm : (T, ({ cls := .type "tuple", data := .seq vs.toArray n } : Obj)) ∈ cur) (hu : A.units < cLine) (h : Q (.bool false) s) :
    wpAny (model prog w) A (compareOp .Eq .none (.ref T)) Q E s := SeqAt.RcAt.none_tuple ⟨_, (N _ hm).1, rfl, n, rfl⟩ hu prog w E Q h
section
example : True := by ((k_with "mine compareOp Eq none ref" => ((k_here; k_dflt (refine' nt_eq (by k_asm) (by kcf_m) (by first | k_extra "ar" | (simp only [units_deeper, units_in1, Around.mark_units]; (try dsimp only [ktrTop]); k_extra "ar")) ?_)))); trivial)
local macro_rules | `(tactic| k_mem) => `(tactic| kcf_m)
theorem like_nt_c (w : World) (news : Led) (T : Addr) (vs : List Value) (n : Nat) (hm : (T, ({ cls := .type "tuple", data := .seq vs.toArray n } : Obj)) ∈ news) : Spec w 185 [.none, .ref T] 2 news (fun v nx => nx = news ∧ v = .bool false) := by
  intro mean mg mb dp un gd cn cs a ccd cl0 outer A₀ base h₀ L m s Q E B F X N T hk hd hu ret
  refine wpAny_call ?_
  k_dflt walk_at "mine enterC"
  k_steps
  exact ret _ _ _ _ ⟨rfl, rfl⟩ (by assumption) (cb_drop (by assumption) (by kcf_all))
end
section
local macro_rules | `(tactic| k_mem) => `(tactic| kcf_m)
local macro_rules | `(tactic| walk_at $s:str) => do
  let t := Lean.Syntax.mkStrLit ("sm12 " ++ s.getString)
  `(tactic| k_extra $t)
example : True := by ((k_with "sm12 CompSrc" => ((refine hold ?_))); trivial)
example : True := by ((k_with "sm12 CompEnd" => ((refine hold ?_))); trivial)
example : True := by ((k_with "specV" => (apply like_int_c; all_goals (walk_at "mine side"))); trivial)
theorem like_tt_c (w : World) (news : Led) (T1 T2 : Addr) (a b : Int) (u1 u2 u3 u4 : Tok) (n1 n2 : Nat) (h1 : (T1, ({ cls := .type "tuple", data := .seq [Value.int a u1, Value.int 1 u2].toArray n1 } : Obj)) ∈ news) (h2 : (T2, ({ cls := .type "tuple", data := .seq [Value.int b u3, Value.int 1 u4].toArray n2 } : Obj)) ∈ news) (hab : a ≠ b) :
    Spec w 185 [.ref T1, .ref T2] 3 news (fun v nx => nx = news ∧ v = .bool false) := by
  intro mean mg mb dp un gd cn cs ad ccd cl0 outer A₀ base h₀ L m s Q E B F X N T hk hd hu ret
  refine wpAny_call ?_
  k_dflt walk_at "mine enterC"
  k_steps
  unfold Hold
  k_dflt (refine LCg.CompSrc.range (n := 2) (by rfl) (by k_asm) (by k_asm) (by assumption) (by decide) (by decide) (by rw [PySem.sizeLine_eq]; k_extra "ar") ?_)
  intro g
  refine LCg.CompRest.succ ?_
  intro v I oI C oC D m₂ h tk E' hv hC hx F1 N1 off ne
  obtain ⟨t, rfl⟩ := (hv : ∃ t, v = Value.int 0 t)
  k_steps
  unfold Hold
  rename News _ _ _ _ => nN
  refine LCg.CompEnd.intro (by assumption) nN _ (fun _ h => h) off True.intro ?_
  rw [decide_eq_false hab]
  clear nN
  refine LCg.CompRest.succ ?_
  intro v I oI C oC D m₂ h tk E' hv hC hx F1 N1 off ne
  obtain ⟨t, rfl⟩ := (hv : ∃ t, v = Value.int 1 t)
  k_steps
  unfold Hold
  rename News _ _ _ _ => nN
  refine LCg.CompEnd.intro (by assumption) nN _ (fun _ h => h) off True.intro ?_
  rw [decide_eq_true rfl]
  clear nN
  refine LCg.CompRest.zero ?_
  k_steps
  exact ret _ _ _ _ ⟨rfl, rfl⟩ (by assumption) (cb_drop (by assumption) (by kcf_all))
end
example : True := by first | walk1 | trivial
example : True := by
  w_top off
  trivial
/-! ## RangeMap.put -/
inductive Unlike (news : Led) : Value → Value → Prop
  | ns (x : Str) (t : Tok) : Unlike news .none (.str x t)
  | nt {T : Addr} {vs : List Value} {n : Nat} : (T, ({ cls := .type "tuple", data := .seq vs.toArray n } : Obj)) ∈ news → Unlike news .none (.ref T)
  | tt {T1 T2 : Addr} {a b : Int} {u1 u2 u3 u4 : Tok} {n1 n2 : Nat} : (T1, ({ cls := .type "tuple", data := .seq [Value.int a u1, Value.int 1 u2].toArray n1 } : Obj)) ∈ news → (T2, ({ cls := .type "tuple", data := .seq [Value.int b u3, Value.int 1 u4].toArray n2 } : Obj)) ∈ news → a ≠ b → Unlike news (.ref T1) (.ref T2)
theorem Unlike.mono {news news' : Led} {u v : Value} (h : Unlike news u v) (s : ∀ p ∈ news, p ∈ news') : Unlike news' u v := by
  cases h with
  | ns x t => exact .ns x t
  | nt h => exact .nt (s _ h)
  | tt h k e => exact .tt (s _ h) (s _ k) e
example : True := by ((k_with "side" => (exact Unlike.mono (by assumption) (by intro p hp; kcf_m))); trivial)
theorem Spec.rank {w : World} {f : Addr} {vs : List Value} {r r' : Nat} {news : Led} {Out : Value → Led → Prop} (S : Spec w f vs r news Out) (h : r ≤ r') : Spec w f vs r' news Out :=
  fun mean mg mb dp un gd cn cs a ccd cl outer A₀ base h₀ L m s Q E B F X N T hk hd hu ret =>
    S mean mg mb dp un gd cn cs a ccd cl outer A₀ base h₀ L m s Q E B F X N T hk (by k_extra "ar") (by k_extra "ar") ret
theorem like_c (w : World) (news : Led) (u v : Value) (h : Unlike news u v) : Spec w 185 [u, v] 3 news (fun v nx => nx = news ∧ v = .bool false) := by
  cases h with
  | ns x t => exact (like_ns_c w news x t).rank (by k_extra "ar")
  | nt h => exact (like_nt_c w news _ _ _ h).rank (by k_extra "ar")
  | tt h k e => exact like_tt_c w news _ _ _ _ _ _ _ _ _ _ h k e
theorem place_k (w : World) (news : Led) (l : Addr) (ns : List Int) (x : Int) (tx : Tok) (k : Nat) (hl : TL news l ns) (hn : ns.length < 1000) (hp : ns.Pairwise (· < ·)) (hk : cntLE ns x = k) :
    Spec w 61 [.ref l, .int x tx] 1 news (fun v nx => nx = news ∧ ∃ t, v = .int ((k : Int) - 1) t) := by
  subst hk; exact place_c w news l ns x tx hl hn hp
theorem pick_from (vs : Array Value) {x : Int} (h : 0 ≤ x) : slicePick vs (some x) none none = (vs.toList.drop x.toNat).toArray := by
  have e : sliceBounds (some x) none none vs.size = (((min x.toNat vs.size : Nat) : Int), ((vs.size : Nat) : Int), 1) := by
    simp only [sliceBounds, Option.getD_none, show (1 : Int) > 0 by decide, if_true, if_neg (show ¬ (x < 0) by k_extra "ar")]
    congr 1
    exact mx_tn h
  rw [kmk_pick_nat _ e]
  congr 1
  rw [← Array.length_toList, kmk_drop_min, List.take_of_length_le (by rw [List.length_drop]; exact Nat.sub_le_sub_left (Nat.min_le_left _ _) _)]
theorem pick_upto (vs : Array Value) {y : Int} (h : 0 ≤ y) : slicePick vs none (some y) none = (vs.toList.take y.toNat).toArray := by
  have e : sliceBounds none (some y) none vs.size = (((0 : Nat) : Int), ((min y.toNat vs.size : Nat) : Int), 1) := by
    simp only [sliceBounds, Option.getD_none, show (1 : Int) > 0 by decide, if_true, if_neg (show ¬ (y < 0) by k_extra "ar")]
    congr 1
    congr 1
    exact mx_tn h
  rw [kmk_pick_nat _ e]
  congr 1
  rw [List.drop_zero, Nat.sub_zero, ← Array.length_toList, kmk_take_min]
section
variable {prog : Program} {w : World} {A : Around} {E : Value → Shared → Prop} {s : Shared} {h₀ : Heap} {L l a b : Addr} {cur : Led} {m : Str → Option Value} {its its2 : Array Value} {n n2 : Nat}
theorem vl_from {value slice : PySem.Expr} {vl : Value} {x : Int} {k : Nat} {Q : Value → Shared → Prop} (F : Fr h₀ L s.heap m) (N : News h₀ L s.heap cur) (hm : (l, listOf its n) ∈ cur) (pl : IsPart vl (some x)) (pu : IsPart .none none) (hk : x = (k : Int)) (hz : its.size < 10000)
    (h : ∀ D h', Fr h₀ L h' m → News h₀ L h' ((D, listOf (its.toList.drop k).toArray 0) :: cur) → (∀ p ∈ cur, p.1 < D) → Q (.ref D) { s with heap := h' })
    (hs : subscripted slice false (.ref l) (.ref s.heap.objs.size) = operate [.ref s.heap.objs.size, .ref l] (getItem (.ref l) (.ref s.heap.objs.size))) (ht : ∀ r, letTemporaryGo value (.ref l) r = pure ()) :
    wpAny (model prog w) A (subscriptTail value slice (.ref l) (.ref s.heap.objs.size)) Q E { s with heap := s.heap.push { cls := .type "slice", data := .fields #[vl, .none, .none] } } :=
  kmk_slice F N ⟨_, (N _ hm).1, rfl, n, rfl⟩ pl pu (fun D h' F' N' lt => h D h' F' (by rw [pick_from its (by k_extra "ar"), hk, Int.toNat_natCast] at N'; exact N') lt) hs ht (by rw [sizeLine_eq]; k_extra "ar")
theorem vl_upto {value slice : PySem.Expr} {vu : Value} {y : Int} {k : Nat} {Q : Value → Shared → Prop} (F : Fr h₀ L s.heap m) (N : News h₀ L s.heap cur) (hm : (l, listOf its n) ∈ cur) (pl : IsPart .none none) (pu : IsPart vu (some y)) (hk : y = (k : Int)) (hz : its.size < 10000)
    (h : ∀ D h', Fr h₀ L h' m → News h₀ L h' ((D, listOf (its.toList.take k).toArray 0) :: cur) → (∀ p ∈ cur, p.1 < D) → Q (.ref D) { s with heap := h' })
    (hs : subscripted slice false (.ref l) (.ref s.heap.objs.size) = operate [.ref s.heap.objs.size, .ref l] (getItem (.ref l) (.ref s.heap.objs.size))) (ht : ∀ r, letTemporaryGo value (.ref l) r = pure ()) :
    wpAny (model prog w) A (subscriptTail value slice (.ref l) (.ref s.heap.objs.size)) Q E { s with heap := s.heap.push { cls := .type "slice", data := .fields #[.none, vu, .none] } } :=
  kmk_slice F N ⟨_, (N _ hm).1, rfl, n, rfl⟩ pl pu (fun D h' F' N' lt => h D h' F' (by rw [pick_upto its (by k_extra "ar"), hk, Int.toNat_natCast] at N'; exact N') lt) hs ht (by rw [sizeLine_eq]; k_extra "ar")
theorem vl_add {Q : Value → Shared → Prop} (F : Fr h₀ L s.heap m) (N : News h₀ L s.heap cur) (ha : (a, listOf its n) ∈ cur) (hb : (b, listOf its2 n2) ∈ cur) (hz : its.size + its2.size < 10000)
    (h : ∀ D h', Fr h₀ L h' m → News h₀ L h' ((D, listOf (its.toList ++ its2.toList).toArray 0) :: cur) → (∀ p ∈ cur, p.1 < D) → Q (.ref D) { s with heap := h' }) :
    wpAny (model prog w) A (binaryOp .Add (.ref a) (.ref b)) Q E s :=
  add_arrays F N ⟨_, (N _ ha).1, rfl, n, rfl⟩ ⟨_, (N _ hb).1, rfl, n2, rfl⟩ (fun h' F' N' => h _ h' F' N' fun p hp => Heap.lt_size (N p hp).1) (by rw [sizeLine_eq]; k_extra "ar")
theorem pv_item {value slice : PySem.Expr} {L9 : Led} {us : List Value} {ds : List Dat} {d : Dat} {j : Nat} {k : Int} {u : Tok} {Q : Value → Shared → Prop} (N : News h₀ L s.heap cur) (hm : (l, listOf us.toArray n) ∈ cur) (hd : DatAll L9 us ds) (hk : k = (j : Int)) (hj : ds[j]? = some d) (hz : ds.length < 10000)
    (h : ∀ v, DatIn L9 v d → Q v s)
    (hs : subscripted slice false (.ref l) (.int k u) = operate [.ref l, .int k u] (getItem (.ref l) (.int k u)) := by with_unfolding_all rfl) :
    wpAny (model prog w) A (subscriptTail value slice (.ref l) (.int k u)) Q E s := by
  have hlt : j < ds.length := (List.getElem?_eq_some_iff.mp hj).1
  refine kd_item N hm hd (by k_extra "ar") (by k_extra "ar") (by k_extra "ar") (fun v d' hd' _ hv => ?_) hs
  rw [hk, Int.toNat_natCast, hj] at hd'
  exact h v (Option.some.inj hd' ▸ hv)
theorem mx_fst {x y : Int} {t u : Tok} {Q : Value → Shared → Prop} (hh : A.handled = none) (F : Fr h₀ L s.heap m) (N : News h₀ L s.heap cur) (e : y ≤ x)
    (h : ∀ h' tk, Fr h₀ L h' m → News h₀ L h' cur → Q (.int x t) { s with heap := h', toks := tk }) : wpAny (model prog w) A (call (.builtin "max") [.int x t, .int y u]) Q E s :=
  max_two_N hh F N fun h' tk F' N' => by rw [if_neg (by k_extra "ar"), if_neg (by k_extra "ar")]; exact h h' tk F' N'
theorem mn_fst {x y : Int} {t u : Tok} {Q : Value → Shared → Prop} (hh : A.handled = none) (F : Fr h₀ L s.heap m) (N : News h₀ L s.heap cur) (e : x ≤ y)
    (h : ∀ h' tk, Fr h₀ L h' m → News h₀ L h' cur → Q (.int x t) { s with heap := h', toks := tk }) : wpAny (model prog w) A (call (.builtin "min") [.int x t, .int y u]) Q E s :=
  min_two_N hh F N fun h' tk F' N' => by rw [if_neg (by k_extra "ar"), if_neg (by k_extra "ar")]; exact h h' tk F' N'
end
theorem pick13 {α : Type} {a b c d e f g h i j k l m : α} {r : List α} : ∀ p ∈ m :: a :: e :: r, p ∈ a :: b :: c :: d :: e :: f :: g :: h :: i :: j :: k :: l :: m :: r := by
  intro p hp; simp only [List.mem_cons] at hp ⊢; rcases hp with h | h | h | h <;> simp [h]
theorem da_take {news : Led} (k : Nat) : ∀ {us : List Value} {ds : List Dat}, DatAll news us ds → DatAll news (us.take k) (ds.take k) := by
  induction k with
  | zero => intro us ds _; rw [List.take_zero, List.take_zero]; exact .nil
  | succ k ih =>
    intro us ds h
    cases h with
    | nil => exact .nil
    | cons a r => exact .cons a (ih r)
theorem da_drop {news : Led} (k : Nat) : ∀ {us : List Value} {ds : List Dat}, DatAll news us ds → DatAll news (us.drop k) (ds.drop k) := by
  induction k with
  | zero => intro us ds h; exact h
  | succ k ih =>
    intro us ds h
    cases h with
    | nil => exact .nil
    | cons a r => exact ih r
theorem hiE (k : Nat) : (k : Int) - 1 + 1 = (k : Int) := by k_extra "ar"
section
local macro_rules | `(tactic| k_mem) => `(tactic| kcf_m)
example : True := by ((k_with "mine call builtin:max" => ((k_here; k_dflt (refine' mx_fst (by with_unfolding_all rfl) (by k_asm) (by k_asm) (by k_extra "ar") ?_); intro _ _ _ _))); trivial)
example : True := by ((k_with "mine call builtin:min" => ((k_here; k_dflt (refine' mn_fst (by with_unfolding_all rfl) (by k_asm) (by k_asm) (by k_extra "ar") ?_); intro _ _ _ _))); trivial)
example : True := by ((k_with "specI" => (apply place_k; all_goals (walk_at "mine side"))); trivial)
example : True := by ((k_with "specV" => (apply like_c; all_goals (walk_at "mine side"))); trivial)
local macro_rules | `(tactic| walk_at "mine iE") => `(tactic| (intro v' hD'; cases hD'))
local macro_rules | `(tactic| walk_at "mine iF") => `(tactic| (intro v' hD'; rename (∀ u, DatIn _ u _ → Unlike _ u _) => hun9; have hU' := hun9 _ hD'))
example : True := by ((k_with "mine subscriptTail Name BinOp ref int" => ((k_here; (first | (k_dflt (refine' pv_item (by k_asm) (by k_mem) (by assumption) ?_ (by exact (by assumption : _ = some Dat.none)) ?_ ?_ (by with_unfolding_all rfl); (focus (k_extra "ar")); (focus (k_extra "ar")); k_whole); walk_at "mine iE") | (k_dflt (refine' pv_item (by k_asm) (by k_mem) (by assumption) ?_ (by assumption) ?_ ?_ (by with_unfolding_all rfl); (focus (k_extra "ar")); (focus (k_extra "ar")); k_whole); walk_at "mine iF"))))); trivial)
example : True := by ((k_with "mine subscriptTail Attribute Name BinOp ref int" => ((k_here; (first | (k_dflt (refine' pv_item (by k_asm) (by k_mem) (by assumption) ?_ (by exact (by assumption : _ = some Dat.none)) ?_ ?_ (by with_unfolding_all rfl); (focus (k_extra "ar")); (focus (k_extra "ar")); k_whole); walk_at "mine iE") | (k_dflt (refine' pv_item (by k_asm) (by k_mem) (by assumption) ?_ (by assumption) ?_ ?_ (by with_unfolding_all rfl); (focus (k_extra "ar")); (focus (k_extra "ar")); k_whole); walk_at "mine iF"))))); trivial)
example : True := by ((k_with "mine subscriptTail Attribute Name Slice ref ref" => ((k_here; (with_reducible show wpAny _ _ (subscriptTail _ (PySem.Expr.Slice (some _) none none _) _ _) _ _ _); k_dflt (refine' vl_from (by k_asm) (by k_asm) (by k_mem) (by kmk_part) (by kmk_part) (by exact hiE _) (by (simp only [List.size_toArray]; k_extra "ar")) ?_ (by with_unfolding_all rfl) (by kmk_pure)); walk_at "mine iA"))); trivial)
example : True := by ((k_with "mine subscriptTail Name Slice ref ref" => ((k_here; (with_reducible show wpAny _ _ (subscriptTail _ (PySem.Expr.Slice (some _) none none _) _ _) _ _ _); k_dflt (refine' vl_from (by k_asm) (by k_asm) (by k_mem) (by kmk_part) (by kmk_part) (by exact hiE _) (by (simp only [List.size_toArray]; k_extra "ar")) ?_ (by with_unfolding_all rfl) (by kmk_pure)); walk_at "mine iA"))); trivial)
example : True := by ((k_with "mine subscriptTail Attribute Name Slice ref ref" => ((k_here; (with_reducible show wpAny _ _ (subscriptTail _ (PySem.Expr.Slice none (some _) none _) _ _) _ _ _); k_dflt (refine' vl_upto (by k_asm) (by k_asm) (by k_mem) (by kmk_part) (by kmk_part) (by exact hiE _) (by (simp only [List.size_toArray]; k_extra "ar")) ?_ (by with_unfolding_all rfl) (by kmk_pure)); walk_at "mine iA"))); trivial)
example : True := by ((k_with "mine subscriptTail Name Slice ref ref" => ((k_here; (with_reducible show wpAny _ _ (subscriptTail _ (PySem.Expr.Slice none (some _) none _) _ _) _ _ _); k_dflt (refine' vl_upto (by k_asm) (by k_asm) (by k_mem) (by kmk_part) (by kmk_part) (by exact hiE _) (by (simp only [List.size_toArray]; k_extra "ar")) ?_ (by with_unfolding_all rfl) (by kmk_pure)); walk_at "mine iA"))); trivial)
example : True := by ((k_with "mine binaryOp Add ref ref" => ((k_here; k_dflt (refine' vl_add (by k_asm) (by k_asm) (by k_mem) (by k_mem) (by (simp only [List.push_toArray, List.cons_append, List.nil_append, List.size_toArray, Array.length_toList, List.length_append, List.length_take, List.length_drop, Array.size_push, List.length_cons, List.length_nil]; first | exact cat_lt (by k_extra "ar") | exact cat_lt2 (by k_extra "ar") | k_extra "ar")) ?_); walk_at "mine iA"))); trivial)
theorem put_starts {hs h1 h2 h3 : Int} {ky v v0 a b : Value} {t1 t2 t3 : Tok} {n : Nat} : (putL (Str.ofString "starts") hs ky v [⟨h1, .str (Str.ofString "default") t1, v0⟩, ⟨h2, .str (Str.ofString "starts") t2, a⟩, ⟨h3, .str (Str.ofString "values") t3, b⟩], putN (Str.ofString "starts") [⟨h1, .str (Str.ofString "default") t1, v0⟩, ⟨h2, .str (Str.ofString "starts") t2, a⟩, ⟨h3, .str (Str.ofString "values") t3, b⟩] n) = ([⟨h1, .str (Str.ofString "default") t1, v0⟩, ⟨h2, .str (Str.ofString "starts") t2, v⟩, ⟨h3, .str (Str.ofString "values") t3, b⟩], n) := by with_unfolding_all rfl
theorem put_values {hs h1 h2 h3 : Int} {ky v v0 a b : Value} {t1 t2 t3 : Tok} {n : Nat} : (putL (Str.ofString "values") hs ky v [⟨h1, .str (Str.ofString "default") t1, v0⟩, ⟨h2, .str (Str.ofString "starts") t2, a⟩, ⟨h3, .str (Str.ofString "values") t3, b⟩], putN (Str.ofString "values") [⟨h1, .str (Str.ofString "default") t1, v0⟩, ⟨h2, .str (Str.ofString "starts") t2, a⟩, ⟨h3, .str (Str.ofString "values") t3, b⟩] n) = ([⟨h1, .str (Str.ofString "default") t1, v0⟩, ⟨h2, .str (Str.ofString "starts") t2, a⟩, ⟨h3, .str (Str.ofString "values") t3, v⟩], n) := by with_unfolding_all rfl
example : True := by ((k_with "mine setAttr ref" => ((k_here; k_dflt (refine' set_dict (by k_asm) (by k_asm) (by k_asm) (by k_inst) (by exact rfl) (by k_is) (by k_is) (by k_is) (by k_is) (by k_get) (by first | exact put_starts | exact put_values) (by k_upd) (by exact Nat.le_of_ble_eq_true rfl) ?_; k_whole; intro _ _ _; (try k_sweep))))); trivial)
abbrev rmDict (h1 h2 h3 : Int) (t1 t2 t3 : Tok) (v0 : Value) (ls lv : Addr) (n : Nat) : Obj := dictOf [⟨h1, .str "default" t1, v0⟩, ⟨h2, .str "starts" t2, .ref ls⟩, ⟨h3, .str "values" t3, .ref lv⟩] n
inductive RMS (R : Led) (r d : Addr) (D : Obj) (st : List Int) (vs : List Dat) : Prop
  | mk (h1 h2 h3 : Int) (t1 t2 t3 : Tok) (v0 : Value) (ls lv : Addr) (n kk ks : Nat) (ss us : List Value) (z1 : D = rmDict h1 h2 h3 t1 t2 t3 v0 ls lv n) (z2 : (r, instObj 230 d) ∈ R) (z3 : (ls, listOf ss.toArray ks) ∈ R) (z4 : IntsAre ss st) (z5 : (lv, listOf us.toArray kk) ∈ R) (z6 : DatAll R us vs) : RMS R r d D st vs
theorem RMS.mono {R R' : Led} {r d : Addr} {D : Obj} {st : List Int} {vs : List Dat} (h : RMS R r d D st vs) (s : ∀ p ∈ R, p ∈ R') : RMS R' r d D st vs := by
  obtain ⟨h1, h2, h3, t1, t2, t3, v0, ls, lv, n, kk, ks, ss, us, e, a, b, c, f, g⟩ := h
  exact ⟨h1, h2, h3, t1, t2, t3, v0, ls, lv, n, kk, ks, ss, us, e, s _ a, s _ b, c, s _ f, g.mono s⟩
inductive UnlikeD : Dat → Dat → Prop
  | ns (x : Str) : UnlikeD .none (.str x)
  | nt (ds : List Dat) : UnlikeD .none (.tuple ds)
  | tt {a b : Int} : a ≠ b → UnlikeD (.tuple [.int a, .int 1]) (.tuple [.int b, .int 1])
inductive OneIn (base : Led) (a : Int) : Value → Prop
  | mk (T : Addr) (u1 u2 : Tok) (n : Nat) (m : (T, ({ cls := .type "tuple", data := .seq [Value.int a u1, Value.int 1 u2].toArray n } : Obj)) ∈ base) : OneIn base a (.ref T)
theorem one_in {base : Led} {v : Value} {a : Int} (h : DatIn base v (.tuple [.int a, .int 1])) : OneIn base a v := by
  obtain ⟨T, vs, n, m, a0⟩ := tup_in h
  obtain ⟨v1, vs, h1, a1⟩ := cons_in a0
  obtain ⟨t1⟩ := int_in h1
  obtain ⟨v2, vs, h2, a2⟩ := cons_in a1
  obtain ⟨t2⟩ := int_in h2
  have e := nil_in a2
  subst e
  exact ⟨T, t1, t2, n, m⟩
theorem UnlikeD.at {news : Led} {u v : Value} {d e : Dat} (h : UnlikeD d e) (hu : DatIn news u d) (hv : DatIn news v e) : Unlike news u v := by
  cases h with
  | ns x => cases hu; cases hv; exact .ns _ _
  | nt ds =>
    cases hu
    cases hv with
    | tuple hm _ => exact .nt hm
  | tt hne =>
    obtain ⟨T1, u1, u2, n1, m1⟩ := one_in hu
    obtain ⟨T2, u3, u4, n2, m2⟩ := one_in hv
    exact .tt m1 m2 hne
/-- what a put must find -/
structure PutC (st : List Int) (vs : List Dat) (first last : Int) (dv : Dat) (low high : Nat) : Prop where
  elen : st.length = vs.length
  elt : st.length < 100
  asc : st.Pairwise (· < ·)
  f0 : 0 ≤ first
  fl : first ≤ last
  la : last < 100000
  elow : cntLE st (first - 1) = low
  ehigh : cntLE st (last + 1) = high
  low0 : 0 < low
  high0 : 0 < high
  highle : high ≤ st.length
  behind : vs[high - 1]? = some .none
  ahead : ∃ d1, vs[low - 1]? = some d1 ∧ UnlikeD d1 dv
  un : UnlikeD .none dv
inductive PutIn (R ex : Led) (r d : Addr) (st' : List Int) (vs' : List Dat) : Value → Led → Prop
  | mk (D' : Obj) (own : Led) (e2 : RMS (own ++ R) r d D' st' vs') (e3 : ∀ p ∈ own, p.1 ≠ d) (e4 : ∀ q ∈ own, ∀ p ∈ R ++ ex, p.1 ≠ q.1) : PutIn R ex r d st' vs' .none ((d, D') :: (own ++ (R ++ ex)))
theorem cat_lt {l n h : Nat} (k : n < 100) : min l n + (0 + 1 + 1) + (n - h) < 10000 := Nat.lt_of_le_of_lt (Nat.add_le_add (Nat.add_le_add_right (Nat.min_le_right l n) _) (Nat.sub_le n h)) (by k_extra "ar")
theorem cat_lt2 {l n : Nat} (k : n < 100) : min l n + (0 + 1 + 1) < 10000 := Nat.lt_of_le_of_lt (Nat.add_le_add_right (Nat.min_le_right l n) _) (by k_extra "ar")
theorem rm_put_c (w : World) (R ex : Led) (x d : Addr) (D : Obj) (st : List Int) (vs : List Dat) (first last : Int) (tf tl : Tok) (v : Value) (dv : Dat) (low high : Nat)
    (hR : RMS R x d D st vs) (hdv0 : DatIn R v dv) (hd : ∀ p ∈ R ++ ex, p.1 ≠ d) (C : PutC st vs first last dv low high) :
    Spec w 213 [.ref x, .int first tf, .int last tl, v] 5 ((d, D) :: (R ++ ex)) (PutIn R ex x d (st.take low ++ [first, last + 1] ++ st.drop high) (vs.take low ++ [dv, .none] ++ vs.drop high)) := by
  obtain ⟨h1, h2, h3, t1, t2, t3, v0, ls, lv, n, kk, ks, ss, us, rfl, hx0, hs0, hsi, hv0, hu0⟩ := hR
  obtain ⟨hlen, hlt, hp, hf, hfl, hla, hlow, hhigh, hl0, hh0, hh, hb, ⟨d1, hb1, hun1⟩, hun2⟩ := C
  have hx := List.mem_append_left ex hx0
  have hs := List.mem_append_left ex hs0
  have hv := List.mem_append_left ex hv0
  have hu := hu0.mono (fun p hp => List.mem_append_left ex hp)
  have hdv := hdv0.mono (fun p hp => List.mem_append_left ex hp)
  have hun0 : Unlike (R ++ ex) .none v := hun2.at .none hdv
  have hun : ∀ u, DatIn (R ++ ex) u d1 → Unlike (R ++ ex) u v := fun u h => hun1.at h hdv
  generalize hrest : R ++ ex = rest at *
  intro mean mg mb dp un gd cn cs ad ccd cl0 outer A₀ base h₀ L m s Q E B F X N T hk hdp0 hun9 ret
  have hst : TL rest ls st := ⟨ss, ks, hs, hsi⟩
  have hsl := hsi.length
  have hul := hu.length
  refine wpAny_call ?_
  k_dflt ktr_enter
  rename Fr _ _ _ _ => F0
  have F1 : Fr _ _ _ (fun y => List.lookup y [(Str.ofString "value", v), (Str.ofString "last", Value.int last tl), (Str.ofString "first", Value.int first tf), (Str.ofString "self", Value.ref x)]) := F0
  clear F0
  k_steps
  rename News _ _ _ (_ :: _ :: _ :: _ :: _ :: _ :: _ :: _ :: _ :: _ :: _ :: _ :: _ :: rest) => nN
  rename _ ∧ _ ∧ _ ∧ _ ∧ _ ∧ _ ∧ _ ∧ _ ∧ AllLt _ rest => l8
  rename _ ∧ _ ∧ _ ∧ _ ∧ _ ∧ _ ∧ _ ∧ _ ∧ _ ∧ _ ∧ _ ∧ _ ∧ AllLt _ rest => l12
  refine ret _ _ _ _ ?o (by assumption) (cb_drop nN pick13)
  subst hrest
  refine .mk _ [_, _] ⟨_, _, _, _, _, _, _, _, _, _, 0, 0, _, _, rfl, .tail _ (.tail _ hx0), .tail _ (.head _), ?_, .head _, ?_⟩ ?_ ?_
  · exact ((hsi.take low).append (.cons first tf (.cons (last + 1) _ .nil))).append (hsi.drop high)
  · exact (((da_take low hu0).append (.cons hdv0 (.cons .none .nil))).append (da_drop high hu0)).mono (fun p hp => .tail _ (.tail _ hp))
  · exact aC (Nat.ne_of_gt (by k_extra "ar")) (aC (Nat.ne_of_gt (by k_extra "ar")) (List.forall_mem_nil _))
  · exact aC (fun p hp => Nat.ne_of_lt (ktn_ltOf l12.2.2.2.2.2.2.2.2.2.2.2.2 p hp)) (aC (fun p hp => Nat.ne_of_lt (ktn_ltOf l8.2.2.2.2.2.2.2.2 p hp)) (List.forall_mem_nil _))
end
example : True := by first | walk1 | trivial
example : True := by
  w_top off
  trivial
/-! ## Data.map_of, Data.put -/
abbrev dataDict (h1 h2 h3 h4 : Int) (t1 t2 t3 t4 : Tok) (dd mp : Addr) (v3 v4 : Value) (n : Nat) : Obj := dictOf [⟨h1, .str "defaults" t1, .ref dd⟩, ⟨h2, .str "maps" t2, .ref mp⟩, ⟨h3, .str "properties" t3, v3⟩, ⟨h4, .str "words" t4, v4⟩] n
theorem perm5 {α : Type} {a b c d e : α} {r : List α} : ∀ p ∈ e :: d :: ([c, b, a] ++ r), p ∈ a :: b :: c :: d :: e :: r := by
  exact aC (.tail _ (.tail _ (.tail _ (.tail _ (.head _))))) (aC (.tail _ (.tail _ (.tail _ (.head _)))) (aC (.tail _ (.tail _ (.head _))) (aC (.tail _ (.head _)) (aC (.head _) (sT (sT (sT (sT (sT fun _ h => h)))))))))
theorem va_some {kvs : List (Str × Value)} {k : Str} {v : Value} (h : valueAt kvs k = some v) : (valueAt kvs k).isSome = true := by rw [h]; rfl
theorem va_none {kvs : List (Str × Value)} {k : Str} (h : valueAt kvs k = none) : (valueAt kvs k).isSome = false := by rw [h]; rfl
theorem va_new {kvs : List (Str × Value)} {k : Str} {v : Value} (h : valueAt kvs k = none) : valueAt (stored kvs k v) k = some v := by
  rw [stored_absent h]; unfold valueAt at h ⊢
  rw [List.find?_append]
  rw [Option.map_eq_none_iff] at h
  rw [h]; simp
theorem kdg_getN {prog : Program} {w : World} {A : Around} {E : Value → Shared → Prop} {s : Shared} {h₀ : Heap} {L d : Addr} {news : Led} {o : Obj} {kvs : List (Str × Value)} {k : Str} {t : Tok} {Q : Value → Shared → Prop} (N : News h₀ L s.heap news) (hp : (d, o) ∈ news) (hd : o.IsDictOf (PySem.strKind prog w) kvs) (lo : (d == sysModules) = false) (hl : (valueAt kvs k).getD .none = .none) (h : Q .none { s with toks := s.toks + 1 }) :
    wpAny (model prog w) A (call (.builtin "dict.get") [.ref d, .str k t]) Q E s :=
  kdg_get1 (knd := PySem.strKind _ _) N hp hd lo (strKind_is _ _ _ _) _ rfl (by rw [hl]; exact h)
section
local macro_rules | `(tactic| k_mem) => `(tactic| kcf_m)
local macro_rules | `(tactic| walk_at $s:str) => do
  let t := Lean.Syntax.mkStrLit ("sm31 " ++ s.getString)
  `(tactic| k_extra $t)
example : True := by ((k_with "sm31 compareOp NotIn str ref" => ((k_here; k_dflt (first | refine kdg_notin (knd := PySem.strKind _ _) (by k_asm) (by k_mem) (by k_asm) (by k_asm) (strKind_is _ _ _ _) true (va_some (by assumption)) ?_ | refine kdg_notin (knd := PySem.strKind _ _) (by k_asm) (by k_mem) (by k_asm) (by k_asm) (strKind_is _ _ _ _) false (va_none (by assumption)) ?_)))); trivial)
example : True := by ((k_with "sm31 subscriptTail Attribute Name Name ref str" => ((k_here; k_dflt (refine kda_item (knd := PySem.strKind _ _) (by k_asm) (by k_mem) (by k_asm) (strKind_is _ _ _ _) (by assumption) ?_); (try dsimp only)))); trivial)
example : True := by ((k_with "sm31 subscriptTail Name Name ref str" => ((k_here; k_dflt (refine kda_item (knd := PySem.strKind _ _) (by k_asm) (by k_mem) (by k_asm) (strKind_is _ _ _ _) (by first | assumption | exact va_new (by assumption)) ?_); (try dsimp only)))); trivial)
theorem map_of_old_c (w : World) (news : Led) (x dx dd mp r : Addr) (n : Nat) (h1 h2 h3 h4 : Int) (t1 t2 t3 t4 : Tok) (v3 v4 : Value) (om : Obj) (kvs : List (Str × Value)) (nm : Str) (tn : Tok)
    (hx : (x, instObj 279 dx) ∈ news) (hdx : (dx, dataDict h1 h2 h3 h4 t1 t2 t3 t4 dd mp v3 v4 n) ∈ news) (hmp : (mp, om) ∈ news) (lo : (mp == sysModules) = false) (hom : om.IsDictOf (PySem.strKind PP w) kvs) (hv : valueAt kvs nm = some (.ref r)) :
    Spec w 276 [.ref x, .str nm tn] 1 news (fun v nx => nx = news ∧ v = .ref r) := by
  intro mean mg mb dp un gd cn cs ad ccd cl0 outer A₀ base h₀ L m s Q E B F X N T hk hdp0 hun9 ret
  refine wpAny_call ?_
  k_dflt ktr_enter
  rename Fr _ _ _ _ => F0
  have F1 : Fr _ _ _ (fun y => List.lookup y [(Str.ofString "name", Value.str nm tn), (Str.ofString "self", Value.ref x)]) := F0
  clear F0
  k_steps
  exact ret _ _ _ _ ⟨rfl, rfl⟩ (by assumption) (by assumption)
end
example : True := by first | walk1 | trivial
section
local macro_rules | `(tactic| k_mem) => `(tactic| kcf_m)
local macro_rules | `(tactic| walk_at $s:str) => do
  let t := Lean.Syntax.mkStrLit ("sm32 " ++ s.getString)
  `(tactic| k_extra $t)
example : True := by ((k_with "sm32 compareOp NotIn str ref" => ((k_here; k_dflt (first | refine kdg_notin (knd := PySem.strKind _ _) (by k_asm) (by k_mem) (by k_asm) (by k_asm) (strKind_is _ _ _ _) true (va_some (by assumption)) ?_ | refine kdg_notin (knd := PySem.strKind _ _) (by k_asm) (by k_mem) (by k_asm) (by k_asm) (strKind_is _ _ _ _) false (va_none (by assumption)) ?_)))); trivial)
example : True := by ((k_with "sm32 getMethod ref" => ((k_here; k_dflt (refine kdg_method (knd := PySem.strKind _ _) (by k_asm) (by k_mem) (by k_asm) ?_)))); trivial)
example : True := by ((k_with "sm32 call builtin:dict.get" => ((k_here; k_dflt (refine kdg_getN (by k_asm) (by k_mem) (by k_asm) (by k_asm) (by assumption) ?_)))); trivial)
example : True := by ((k_with "mine setItem ref str" => ((k_here; k_dflt (refine' kda_set (knd := PySem.strKind _ _) (by k_asm) (by k_asm) (by k_updF) (by k_asm) (strKind_is _ _ _ _) (by rw [sizeLine_eq]; k_extra "ar") ?_); walk_at "mine iB"))); trivial)
example : True := by ((k_with "mine getItem ref str" => ((k_here; k_dflt (refine' kdt_getItem (knd := PySem.strKind _ _) (by k_asm) (by k_mem) (by k_asm) (strKind_is _ _ _ _) (by exact va_new (by assumption)) ?_; k_whole)))); trivial)
inductive MapNew (w : World) (rest : Led) (mp : Addr) (om : Obj) (kvs : List (Str × Value)) (nm : Str) : Value → Led → Prop
  | mk (r d ls lv : Addr) (om' : Obj) (h1 h2 h3 : Int) (t1 t2 t3 t4 : Tok) (e1 : om'.IsDictOf (PySem.strKind PP w) (stored kvs nm (.ref r))) (f1 : ∀ p ∈ (mp, om) :: rest, p.1 < r) (f2 : ∀ p ∈ (mp, om) :: rest, p.1 < d) (f3 : ∀ p ∈ (mp, om) :: rest, p.1 < ls) (f4 : ∀ p ∈ (mp, om) :: rest, p.1 < lv) (n1 : d ≠ r) (n2 : d ≠ ls) (n3 : d ≠ lv) :
    MapNew w rest mp om kvs nm (.ref r) ((mp, om') :: (d, rmDict h1 h2 h3 t1 t2 t3 .none ls lv 3) :: ([(r, instObj 230 d), (ls, listOf #[Value.int 0 t4] 0), (lv, listOf #[Value.none] 0)] ++ rest))
theorem map_of_new_c (w : World) (rest : Led) (x dx dd mp : Addr) (n : Nat) (h1 h2 h3 h4 : Int) (t1 t2 t3 t4 : Tok) (v3 v4 : Value) (om od : Obj) (kvs kd : List (Str × Value)) (nm : Str) (tn : Tok)
    (hx : (x, instObj 279 dx) ∈ rest) (hdx : (dx, dataDict h1 h2 h3 h4 t1 t2 t3 t4 dd mp v3 v4 n) ∈ rest) (hmp : ∀ p ∈ rest, p.1 ≠ mp) (lo : (mp == sysModules) = false) (hom : om.IsDictOf (PySem.strKind PP w) kvs) (hv : valueAt kvs nm = none) (hkl : kvs.length < 100)
    (hdd : (dd, od) ∈ rest) (lod : (dd == sysModules) = false) (hod : od.IsDictOf (PySem.strKind PP w) kd) (hvd : (valueAt kd nm).getD .none = .none) :
    Spec w 276 [.ref x, .str nm tn] 3 ((mp, om) :: rest) (MapNew w rest mp om kvs nm) := by
  intro mean mg mb dp un gd cn cs ad ccd cl0 outer A₀ base h₀ L m s Q E B F X N T hk hdp0 hun9 ret
  refine wpAny_call ?_
  k_dflt ktr_enter
  rename Fr _ _ _ _ => F0
  have F1 : Fr _ _ _ (fun y => List.lookup y [(Str.ofString "name", Value.str nm tn), (Str.ofString "self", Value.ref x)]) := F0
  clear F0
  k_steps
  rename News _ _ _ (_ :: _ :: _ :: _ :: _ :: rest) => nN
  rename (_ < _) ∧ AllLt _ rest => l1
  rename (_ < _) ∧ (_ < _) ∧ (_ < _) ∧ AllLt _ rest => l3
  rename (_ < _) ∧ (_ < _) ∧ (_ < _) ∧ (_ < _) ∧ AllLt _ rest => l4
  have e1 := ktn_ltOf l1.2
  have e3 := ktn_ltOf l3.2.2.2
  have e4 := ktn_ltOf l4.2.2.2.2
  refine ret _ _ _ _ ?o (by assumption) (cb_drop nN perm5)
  exact .mk _ _ _ _ _ _ _ _ _ _ _ _ (by assumption) (aC (by show @LT.lt Nat _ mp _; k_extra "ar") (fun p hp => Nat.lt_trans (e1 p hp) (by k_extra "ar"))) (aC (by show @LT.lt Nat _ mp _; k_extra "ar") e1) (aC (by show @LT.lt Nat _ mp _; k_extra "ar") e3) (aC (by show @LT.lt Nat _ mp _; k_extra "ar") e4) (Nat.ne_of_lt (by k_extra "ar")) (Nat.ne_of_lt (by k_extra "ar")) (Nat.ne_of_lt (by k_extra "ar"))
end
example : True := by first | walk1 | trivial
example : True := by
  w_top off
  trivial
/-! ## Data.put -/
inductive DS (w : World) (R : Led) (x mp : Addr) : Prop
  | mk (dx dd : Addr) (n : Nat) (h1 h2 h3 h4 : Int) (t1 t2 t3 t4 : Tok) (v3 v4 : Value) (od : Obj) (kd : List (Str × Value)) (z1 : (x, instObj 279 dx) ∈ R) (z2 : (dx, dataDict h1 h2 h3 h4 t1 t2 t3 t4 dd mp v3 v4 n) ∈ R) (z3 : (dd, od) ∈ R) (z4 : (dd == sysModules) = false) (z5 : od.IsDictOf (PySem.strKind PP w) kd) (z6 : (valueAt kd (Str.ofString "nt")).getD .none = .none) (z7 : (valueAt kd (Str.ofString "nv")).getD .none = .none) : DS w R x mp
theorem DS.mono {w : World} {R R' : Led} {x mp : Addr} (h : DS w R x mp) (s : ∀ p ∈ R, p ∈ R') : DS w R' x mp := by
  obtain ⟨dx, dd, n, h1, h2, h3, h4, t1, t2, t3, t4, v3, v4, od, kd, a, b, c, e, f, g, i⟩ := h
  exact ⟨dx, dd, n, h1, h2, h3, h4, t1, t2, t3, t4, v3, v4, od, kd, s _ a, s _ b, s _ c, e, f, g, i⟩
theorem perm_new {mp d : Addr} {om D : Obj} {a b c : Addr × Obj} {R ex : Led} : ∀ p ∈ (d, D) :: (([a, b, c] ++ R) ++ (ex ++ [(mp, om)])), p ∈ (mp, om) :: (d, D) :: ([a, b, c] ++ (R ++ ex)) := by
  k_extra "sub"
theorem perm_new2 {mp d : Addr} {om D : Obj} {a b c : Addr × Obj} {R ex own : Led} : ∀ p ∈ (mp, om) :: (d, D) :: ((own ++ [a, b, c]) ++ (R ++ ex)), p ∈ (d, D) :: (own ++ (([a, b, c] ++ R) ++ (ex ++ [(mp, om)]))) := by
  k_extra "sub"
section
local macro_rules | `(tactic| k_mem) => `(tactic| kcf_m)
section
example : True := by ((k_with "specV" => (apply map_of_old_c; (focus (k_mem; done)); (focus (k_mem; done)); (focus (k_mem; done)); (focus (assumption; done)); (focus (assumption; done)); (focus (assumption; done)))); trivial)
example : True := by ((k_with "callO" => ((with_reducible show wpAny _ _ (call (Value.ref 213) _ _) _ _ _); k_dflt (apply Spec.use; (focus (k_asm; done)); (focus (k_asm; done)); (focus (k_asm; done)); (focus (k_asm; done)); (focus (k_asm; done)); (focus ((first | exact rfl | assumption); done)); (focus ((apply rm_put_c; all_goals (walk_at "mine side")); done)); (focus (ktr_room; done)); (focus (ktr_units; done)); k_whole); ((intro vz' nxz' hz' tkz' Oz' Fz' Nz'; have O2z' := Oz'; cases Oz'); (try k_sweep); (try dsimp only); (try k_fold)))); trivial)
theorem data_put_old_c (w : World) (R ex : Led) (x mp r d : Addr) (om D : Obj) (kvs : List (Str × Value)) (nm : Str) (st : List Int) (vs : List Dat) (first last : Int) (tn tf tl : Tok) (v : Value) (dv : Dat) (low high : Nat)
    (hS : DS w R x mp) (hmp : (mp, om) ∈ R ++ ex) (lo : (mp == sysModules) = false) (hom : om.IsDictOf (PySem.strKind PP w) kvs) (hval : valueAt kvs nm = some (.ref r))
    (hR : RMS R r d D st vs) (hdv : DatIn R v dv) (hd : ∀ p ∈ R ++ ex, p.1 ≠ d) (C : PutC st vs first last dv low high) :
    Spec w 262 [.ref x, .str nm tn, .int first tf, .int last tl, v] 7 ((d, D) :: (R ++ ex)) (PutIn R ex r d (st.take low ++ [first, last + 1] ++ st.drop high) (vs.take low ++ [dv, .none] ++ vs.drop high)) := by
  obtain ⟨dx, dd, n, h1, h2, h3, h4, t1, t2, t3, t4, v3, v4, od, kd, a1, a2, a3, a4, a5, a6, a7⟩ := hS
  have b1 := List.mem_append_left ex a1
  have b2 := List.mem_append_left ex a2
  have b3 := hmp
  have hR2 := hR
  obtain ⟨g1, g2, g3, q1, q2, q3, v0, ls, lv, n2, kk, ks, ss, us, e9, hr0, -⟩ := hR2
  subst e9
  have b4 := List.mem_append_left ex hr0
  intro mean mg mb dp un gd cn cs ad ccd cl0 outer A₀ base h₀ L m s Q E B F X N T hk hdp0 hun9 ret
  refine wpAny_call ?_
  k_dflt ktr_enter
  rename Fr _ _ _ _ => F0
  have F1 : Fr _ _ _ (fun y => List.lookup y [(Str.ofString "value", v), (Str.ofString "last", Value.int last tl), (Str.ofString "first", Value.int first tf), (Str.ofString "name", Value.str nm tn), (Str.ofString "self", Value.ref x)]) := F0
  clear F0
  k_steps
  exact ret _ _ _ _ (by assumption) (by assumption) (by assumption)
end
section
example : True := by ((k_with "hold" => ((first | (with_reducible show wpAny _ _ (call (Value.ref 276) _ _) _ _ _) | (with_reducible show wpAny _ _ (call (Value.ref 213) _ _) _ _ _)); refine hold ?_)); trivial)
inductive PutNew (w : World) (R ex : Led) (mp : Addr) (kvs : List (Str × Value)) (nm : Str) (st' : List Int) (vs' : List Dat) : Value → Led → Prop
  | mk (om' D' : Obj) (r d : Addr) (own : Led) (e1 : om'.IsDictOf (PySem.strKind PP w) (stored kvs nm (.ref r))) (e2 : RMS (own ++ R) r d D' st' vs') (e3 : mp ≠ d) (e4 : ∀ p ∈ own, p.1 ≠ mp ∧ p.1 ≠ d) (e5 : ∀ p ∈ R ++ ex, p.1 ≠ d) (e6 : ∀ q ∈ own, ∀ p ∈ R ++ ex, p.1 ≠ q.1) : PutNew w R ex mp kvs nm st' vs' .none ((mp, om') :: (d, D') :: (own ++ (R ++ ex)))
theorem data_put_new_c (w : World) (R ex : Led) (x mp : Addr) (om : Obj) (kvs : List (Str × Value)) (nm : Str) (first last : Int) (tn tf tl : Tok) (v : Value) (dv : Dat) (low high : Nat)
    (hS : DS w R x mp) (hmp : ∀ p ∈ R ++ ex, p.1 ≠ mp) (lo : (mp == sysModules) = false) (hom : om.IsDictOf (PySem.strKind PP w) kvs) (hval : valueAt kvs nm = none) (hnm : nm = Str.ofString "nt" ∨ nm = Str.ofString "nv") (hkl : kvs.length < 100)
    (hdv : DatIn R v dv) (C : PutC [0] [.none] first last dv low high) :
    Spec w 262 [.ref x, .str nm tn, .int first tf, .int last tl, v] 7 ((mp, om) :: (R ++ ex)) (PutNew w R ex mp kvs nm ([0].take low ++ [first, last + 1] ++ [0].drop high) ([.none].take low ++ [dv, .none] ++ [.none].drop high)) := by
  obtain ⟨dx, dd, n, h1, h2, h3, h4, t1, t2, t3, t4, v3, v4, od, kd, a1, a2, a3, a4, a5, a6, a7⟩ := hS
  have hvd : (valueAt kd nm).getD .none = .none := by rcases hnm with rfl | rfl <;> assumption
  have b1 := List.mem_append_left ex a1
  have b2 := List.mem_append_left ex a2
  have b3 := List.mem_append_left ex a3
  intro mean mg mb dp un gd cn cs ad ccd cl0 outer A₀ base h₀ L m s Q E B F X N T hk hdp0 hun9 ret
  refine wpAny_call ?_
  k_dflt ktr_enter
  rename Fr _ _ _ _ => F0
  have F1 : Fr _ _ _ (fun y => List.lookup y [(Str.ofString "value", v), (Str.ofString "last", Value.int last tl), (Str.ofString "first", Value.int first tf), (Str.ofString "name", Value.str nm tn), (Str.ofString "self", Value.ref x)]) := F0
  clear F0
  k_steps
  unfold Hold
  k_dflt (refine' Spec.use ?B ?F ?X ?N ?T ?K (map_of_new_c w (R ++ ex) x dx dd mp n h1 h2 h3 h4 t1 t2 t3 t4 v3 v4 om od kvs kd nm tn b1 b2 hmp lo hom hval hkl b3 a4 a5 hvd) ?d ?u ?_)
  (case B => k_asm)
  (case F => k_asm)
  (case X => k_asm)
  (case N => k_asm)
  (case T => k_asm)
  (case K => first | exact rfl | assumption)
  (case d => ktr_room)
  (case u => ktr_units)
  k_whole
  rintro v9 nx9 h' tk' ⟨r, d, ls, lv, om', g1, g2, g3, q1, q2, q3, q4, hom', f1, f2, f3, f4, n1, n2, n3⟩ F' N'
  clear F1
  k_steps
  unfold Hold
  have G : ∀ p ∈ R ++ ex, p.1 ≠ d := fun p hp => Nat.ne_of_lt (f2 p (.tail _ hp))
  have Gr : ∀ p ∈ R ++ ex, p.1 ≠ r := fun p hp => Nat.ne_of_lt (f1 p (.tail _ hp))
  have Gs : ∀ p ∈ R ++ ex, p.1 ≠ ls := fun p hp => Nat.ne_of_lt (f3 p (.tail _ hp))
  have Gv : ∀ p ∈ R ++ ex, p.1 ≠ lv := fun p hp => Nat.ne_of_lt (f4 p (.tail _ hp))
  have md : mp ≠ d := Nat.ne_of_lt (f2 _ (.head _))
  have mr : mp ≠ r := Nat.ne_of_lt (f1 _ (.head _))
  have ms : mp ≠ ls := Nat.ne_of_lt (f3 _ (.head _))
  have mv : mp ≠ lv := Nat.ne_of_lt (f4 _ (.head _))
  rename News _ _ _ _ => nN
  k_dflt (refine' Spec.use ?B ?F ?X (cb_drop nN (perm_new (R := R) (ex := ex))) ?T ?K (rm_put_c w ([(r, instObj 230 d), (ls, listOf #[Value.int 0 q4] 0), (lv, listOf #[Value.none] 0)] ++ R) (ex ++ [(mp, om')]) r d (rmDict g1 g2 g3 q1 q2 q3 .none ls lv 3) [0] [.none] first last tf tl v dv low high ⟨g1, g2, g3, q1, q2, q3, .none, ls, lv, 3, 0, 0, [.int 0 q4], [.none], rfl, .head _, .tail _ (.head _), .cons 0 q4 .nil, .tail _ (.tail _ (.head _)), .cons .none .nil⟩ (hdv.mono (fun p hp => .tail _ (.tail _ (.tail _ hp)))) ?hd C) ?d ?u ?_)
  (case B => k_asm)
  (case F => k_asm)
  (case X => k_asm)
  (case T => k_asm)
  (case K => first | exact rfl | assumption)
  (case hd =>
    exact aA (aA (aC n1.symm (aC n2.symm (aC n3.symm (List.forall_mem_nil _)))) (oL G)) (aA (oR G) (aC md (List.forall_mem_nil _))))
  (case d => ktr_room)
  (case u => ktr_units)
  k_whole
  rintro v9 nx9 h'' tk'' ⟨D', own, e3, e4, e5⟩ F'' N''
  clear nN
  k_steps
  refine ret _ _ _ _ (.mk om' D' r d (own ++ [(r, instObj 230 d), (ls, listOf #[Value.int 0 q4] 0), (lv, listOf #[Value.none] 0)]) hom' ?_ md ?_ G ?_) (by assumption) (cb_drop (by assumption) perm_new2)
  · rw [List.append_assoc]; exact e3
  · exact aA (fun p hp => ⟨(oH (oR (oR (e5 p hp)))).symm, e4 p hp⟩) (aC ⟨mr.symm, n1.symm⟩ (aC ⟨ms.symm, n2.symm⟩ (aC ⟨mv.symm, n3.symm⟩ (List.forall_mem_nil _))))
  · exact aA (fun q hq => aA (oR (oL (e5 q hq))) (oL (oR (e5 q hq)))) (aC Gr (aC Gs (aC Gv (List.forall_mem_nil _))))
end
end
example : True := by
  w_top off
  trivial
--@nofill
/-! ## for loops with a ledger that grows: one turn for all -/
section
variable {prog : Program} {w : World} {A : Around} {E : Value → Shared → Prop} {s : Shared} {env : Env} {h₀ : Heap} {x : Str} {target : PySem.Expr} {body : List Stmt} {Q : Flow → Shared → Prop}
/-- what a turn leaves: the iterator as it is, a ledger off it with G, the names that the loop does not store as they stood -/
inductive FoEnd (h₀ : Heap) (L : Addr) (s₁ : Shared) (I : Addr) (oI : Obj) (stored : List Str) (m₀ : Str → Option Value) (G : Led → Prop) (s₂ : Shared) : Prop
  | mk (h' : Heap) (tk : Nat) (m' : Str → Option Value) (nx : Led) (z1 : s₂ = { s₁ with heap := h', toks := tk }) (z2 : Fr h₀ L h' m') (z3 : News h₀ L h' ((I, oI) :: nx)) (z4 : (∀ p ∈ nx, p.1 ≠ I)) (z5 : (∀ z, stored.contains z = false → m' z = m₀ z)) (z6 : G nx) : FoEnd h₀ L s₁ I oI stored m₀ G s₂
def FoPost (h₀ : Heap) (L : Addr) (s₁ : Shared) (I : Addr) (oI : Obj) (stored : List Str) (m₀ : Str → Option Value) (G : Led → Prop) (Q : Flow → Shared → Prop) (f : Flow) (s₂ : Shared) : Prop :=
  match f with
  | .ret v => Q (.ret v) s₂
  | .brk => Q .next s₂
  | _ => FoEnd h₀ L s₁ I oI stored m₀ G s₂
theorem foend {L : Addr} {s₁ : Shared} {I : Addr} {oI : Obj} {stored : List Str} {m₀ m' : Str → Option Value} {G : Led → Prop} {h' : Heap} {tk : Nat} (nx : Led) (F : Fr h₀ L h' m') (N : News h₀ L h' ((I, oI) :: nx)) (hI : ∀ p ∈ nx, p.1 ≠ I) (hm : ∀ z, stored.contains z = false → m' z = m₀ z) (g : G nx) :
    FoEnd h₀ L s₁ I oI stored m₀ G { s₁ with heap := h', toks := tk } := ⟨h', tk, m', nx, rfl, F, N, hI, hm, g⟩
theorem names_of {stored : List Str} {m m₀ : Str → Option Value} (h : ∀ z, stored.contains z = false → m z = m₀ z) : m = fun z => if stored.contains z then m z else m₀ z := by
  funext z
  cases hz : stored.contains z with
  | true => simp
  | false => simp [h z hz]
theorem range_inv {I : Addr} {a : Int} {n : Nat} {m₀ : Str → Option Value} (stored : List Str) (G : Nat → Led → Prop)
    (turn : ∀ (i : Nat) (t : Tok) (u : Str → Option Value) (h : Heap) (tk : Nat) (oI : Obj) (nx : Led), i < n → G i nx → (∀ p ∈ nx, p.1 ≠ I) → Fr h₀ env.locals h (fun y => if y = x then some (.int (a + (i : Int)) t) else if stored.contains y then u y else m₀ y) → News h₀ env.locals h ((I, oI) :: nx) →
      wpAny (model prog w) A (execs body env) (FoPost h₀ env.locals { s with heap := h, toks := tk } I oI (x :: stored) m₀ (G (i + 1)) Q) E { s with heap := h, toks := tk })
    (done : ∀ (u : Str → Option Value) (h : Heap) (tk : Nat) (nx : Led), G n nx → Fr h₀ env.locals h (fun y => if (x :: stored).contains y then u y else m₀ y) → News h₀ env.locals h nx → Q .next { s with heap := h, toks := tk }) :
    ∀ (k i : Nat) (m : Str → Option Value) (nx : Led), i + k = n → G i nx → (∀ p ∈ nx, p.1 ≠ I) → (∀ z, (x :: stored).contains z = false → m z = m₀ z) → RangeRest prog w A E h₀ env x body Q s I a n k i m nx := by
  intro k
  induction k with
  | zero =>
    intro i m nx hi g hI hm
    refine RangeRest.zero (fun h tk F N => ?_)
    have e : i = n := by k_extra "ar"
    subst e
    rw [names_of hm] at F
    exact done m h tk nx g F N
  | succ k ih =>
    intro i m nx hi g hI hm
    refine RangeRest.succ (fun t h tk F N => ?_)
    have e : (fun y => if y = x then some (Value.int (a + (i : Int)) t) else m y) = (fun y => if y = x then some (.int (a + (i : Int)) t) else if stored.contains y then m y else m₀ y) := by
      funext y
      by_cases hy : y = x
      · rw [if_pos hy, if_pos hy]
      · rw [if_neg hy, if_neg hy]
        cases hz : stored.contains y with
        | true => simp
        | false =>
          have : (x :: stored).contains y = false := by simp [List.contains_cons, hy, hz] ; exact by simpa using hz
          simp [hm y this]
    rw [e] at F
    refine wpAny_mono (turn i t m h tk _ nx (by k_extra "ar") g hI F N) (fun f s₂ q => ?_) fun _ _ e => e
    have key : ∀ oI, FoEnd h₀ env.locals { s with heap := h, toks := tk } I oI (x :: stored) m₀ (G (i + 1)) s₂ → UnrEnd h₀ env.locals { s with heap := h, toks := tk } I oI (RangeRest prog w A E h₀ env x body Q s I a n k (i + 1)) s₂ := by
      intro oI
      rintro ⟨h', tk', m', nx', e, F', N', hI', hm', g'⟩
      exact ⟨h', tk', m', nx', e, F', N', hI', ih (i + 1) m' nx' (by k_extra "ar") g' hI' hm'⟩
    cases f with
    | ret v => exact q
    | brk => exact q
    | next => exact key _ q
    | cont => exact key _ q
theorem items_inv {I : Addr} {cls : String} {keep : Led} {m₀ : Str → Option Value} (xs : List Itm) (stored : List Str) (G : Nat → Led → Prop) (hkeep : ∀ i nx, G i nx → SubL keep nx)
    (turn : ∀ (i : Nat) (a : Itm) (v : Value) (u : Str → Option Value) (h : Heap) (tk : Nat) (oI : Obj) (nx : Led), xs[i]? = some a → a.Is v h → G i nx → (∀ p ∈ nx, p.1 ≠ I) → Fr h₀ env.locals h (fun y => if stored.contains y then u y else m₀ y) → News h₀ env.locals h ((I, oI) :: nx) →
      wpAny (model prog w) A (assign target env v) (fun _ s₂ => wpAny (model prog w) A (execs body env) (FoPost h₀ env.locals { s with heap := h, toks := tk } I oI stored m₀ (G (i + 1)) Q) E s₂) E { s with heap := h, toks := tk })
    (done : ∀ (u : Str → Option Value) (h : Heap) (tk : Nat) (nx : Led), G xs.length nx → Fr h₀ env.locals h (fun y => if stored.contains y then u y else m₀ y) → News h₀ env.locals h nx → Q .next { s with heap := h, toks := tk }) :
    ∀ (ys : List Itm) (i : Nat) (m : Str → Option Value) (nx : Led), xs.drop i = ys → i + ys.length = xs.length → G i nx → (∀ p ∈ nx, p.1 ≠ I) → (∀ z, stored.contains z = false → m z = m₀ z) → ItemsRest prog w A E h₀ env target body Q s [(I, cls)] keep ys m nx := by
  intro ys
  induction ys with
  | nil =>
    intro i m nx hd hi g hI hm
    refine ItemsRest.zero (fun h tk F N => ?_)
    have e : i = xs.length := by simpa using hi
    subst e
    rw [names_of hm] at F
    exact done m h tk nx g F N
  | cons a ys ih =>
    intro i m nx hd hi g hI hm
    intro v h tk hav F oI hcls N
    have hlt : i < xs.length := by simp only [List.length_cons] at hi; k_extra "ar"
    have hd2 := List.drop_eq_getElem_cons hlt
    rw [hd] at hd2
    have ha : xs[i]? = some a := by rw [List.getElem?_eq_getElem hlt]; exact congrArg some (List.cons.inj hd2).1.symm
    rw [names_of hm] at F
    refine wpAny_mono (turn i a v m h tk oI nx ha hav g hI F N) (fun _ s₂ q => wpAny_mono q (fun f s₃ q => ?_) fun _ _ e => e) fun _ _ e => e
    have key : FoEnd h₀ env.locals { s with heap := h, toks := tk } I oI stored m₀ (G (i + 1)) s₃ → UnrEndW h₀ env.locals { s with heap := h, toks := tk } [(I, oI)] (fun m' n' => SubL keep n' ∧ ItemsRest prog w A E h₀ env target body Q s [(I, cls)] keep ys m' n') s₃ := by
      rintro ⟨h', tk', m', nx', e, F', N', hI', hm', g'⟩
      refine ⟨h', tk', m', nx', e, F', N', fun p hp q hq => by rw [List.mem_singleton.mp hq]; exact hI' p hp, hkeep _ _ g', ih (i + 1) m' nx' (List.cons.inj hd2).2.symm (by simp only [List.length_cons] at hi; k_extra "ar") g' hI' hm'⟩
    cases f with
    | ret v => exact q
    | brk => exact q
    | next => exact key q
    | cont => exact key q
end
--@M
example : True := by ((k_with "mine FoPost" => ((dsimp only [FoPost]))); trivial)
example : True := by ((k_with "mine FoEnd" => ((refine hold ?_))); trivial)
--@E
example : True := by
  w_top off
  trivial
/-! ## data_defaults -/
theorem va_map {kvs : List (Str × Value)} {k k' : Str} {v : Value} : valueAt (kvs.map (fun kv => if kv.1 = k then (kv.1, v) else kv)) k' = if k' = k then (valueAt kvs k').map (fun _ => v) else valueAt kvs k' := by
  induction kvs with
  | nil => simp [valueAt]
  | cons p r ih =>
    unfold valueAt at ih ⊢
    rw [List.map_cons, List.find?_cons, List.find?_cons]
    by_cases h1 : p.1 = k
    · by_cases h2 : p.1 = k'
      · simp [h1, h2, ← h2]
      · have h3 : ¬ k = k' := by rw [← h1]; exact h2
        simp only [h1, if_true, h3, decide_false, if_neg (Ne.symm h3)] at ih ⊢
        simpa [h1] using ih
    · by_cases h2 : p.1 = k'
      · have h3 : ¬ k' = k := by rw [← h2]; exact h1
        simp [h1, h2, h3]
      · simp only [if_neg h1, h2, decide_false] at ih ⊢
        exact ih
theorem va_stored {kvs : List (Str × Value)} {k k' : Str} {v : Value} : valueAt (stored kvs k v) k' = if k' = k then some v else valueAt kvs k' := by
  cases h : valueAt kvs k with
  | none =>
    rw [stored_absent h]
    by_cases e : k' = k
    · subst e; rw [if_pos rfl, ← stored_absent h]; exact va_new h
    · rw [if_neg e]
      unfold valueAt
      rw [List.find?_append]
      simp [Ne.symm e]
  | some u =>
    have ha : (kvs.any fun kv => kv.1 = k) = true := by rw [← valueAt_isSome_eq_any, h]; rfl
    unfold stored
    rw [if_pos ha, va_map]
    by_cases e : k' = k
    · subst e; rw [if_pos rfl, if_pos rfl, h]; rfl
    · rw [if_neg e, if_neg e]
theorem stored_len {kvs : List (Str × Value)} {k : Str} {v : Value} : (stored kvs k v).length ≤ kvs.length + 1 := by
  unfold stored; split <;> simp
def DefOk (kvs : List (Str × Value)) : Prop := (valueAt kvs (Str.ofString "nt")).getD .none = .none ∧ (valueAt kvs (Str.ofString "nv")).getD .none = .none
theorem DefOk.st {kvs : List (Str × Value)} {k : Str} {v : Value} (h : DefOk kvs) (hk : v = .none ∨ (k ≠ Str.ofString "nt" ∧ k ≠ Str.ofString "nv")) : DefOk (stored kvs k v) := by
  unfold DefOk
  rw [va_stored, va_stored]
  refine ⟨?_, ?_⟩
  · split
    · rename_i e
      rcases hk with rfl | ⟨h1, _⟩
      · rfl
      · exact absurd e.symm h1
    · exact h.1
  · split
    · rename_i e
      rcases hk with rfl | ⟨_, h2⟩
      · rfl
      · exact absurd e.symm h2
    · exact h.2
theorem DefOk_of {prog : Program} {w : World} {o : Obj} {kvs : List (Str × Value)} (h : o.IsDictOf (PySem.strKind prog w) kvs) (h1 : valueAt kvs (Str.ofString "nt") = none) (h2 : valueAt kvs (Str.ofString "nv") = none) : DefOk kvs := ⟨by rw [h1]; rfl, by rw [h2]; rfl⟩
theorem ne3 {T D I : Addr} {a b b' : Obj} {news : Led} (h : ∀ p ∈ (T, a) :: (D, b) :: news, p.1 ≠ I) : ∀ p ∈ (T, a) :: (D, b') :: news, p.1 ≠ I := by
  intro p hp
  rcases List.mem_cons.mp hp with rfl | hp
  · exact h (T, a) (.head _)
  rcases List.mem_cons.mp hp with rfl | hp
  · exact h (D, b) (.tail _ (.head _))
  · exact h p (.tail _ (.tail _ hp))
theorem keep1 {x : Str} {v : Option Value} {u m : Str → Option Value} : ∀ z, [x].contains z = false → (if z = x then v else if [x].contains z = true then u z else m z) = m z := by
  intro z hz
  have hx : z ≠ x := by intro e; subst e; simp at hz
  rw [if_neg hx, hz]; simp
def strOk (c : Bool) (a : Itm) : Prop := ∃ nm t, a = .val (.str nm t) ∧ (c = true ∨ (nm ≠ Str.ofString "nt" ∧ nm ≠ Str.ofString "nv"))
inductive StrAt (c : Bool) : Value → Prop
  | mk (nm : Str) (t : Tok) (h : c = true ∨ (nm ≠ Str.ofString "nt" ∧ nm ≠ Str.ofString "nv")) : StrAt c (.str nm t)
inductive DefInv (w : World) (p : Addr × Obj) (D : Addr) (news : Led) (b : Nat) : Led → Prop
  | mk (o : Obj) (kvs : List _) (d : Obj.IsDictOf (PySem.strKind PP w) o kvs) (ok : DefOk kvs) (len : kvs.length ≤ b) : DefInv w p D news b (p :: (D, o) :: news)
inductive DefOut (w : World) (news : Led) : Value → Led → Prop
  | mk (D : Addr) (o : Obj) (kvs : List _) (l : ∀ p ∈ news, p.1 < D) (lo : (D == sysModules) = false) (d : o.IsDictOf (PySem.strKind PP w) kvs) (ok : DefOk kvs) : DefOut w news (.ref D) ((D, o) :: news)
theorem hideO {h₀ h : Heap} {L a : Addr} {o : Obj} {R : Led} (N : News h₀ L h ((a, o) :: R)) : ∃ o', o' = o ∧ News h₀ L h ((a, o') :: R) := ⟨o, rfl, N⟩
theorem strOk_at {c : Bool} {xs : List Itm} (h : ∀ a ∈ xs, strOk c a) {i : Nat} {a : Itm} {v : Value} {g : Heap} (ha : xs[i]? = some a) (hav : a.Is v g) : StrAt c v := by
  obtain ⟨nm, t, rfl, h2⟩ := h a (List.mem_of_getElem? ha)
  have e : v = .str nm t := hav
  subst e
  exact ⟨nm, t, h2⟩
section
example : True := by ((k_with "all" => (exact fun p hp => Nat.ne_of_lt ((by assumption : ∀ p ∈ _, p.1 < _) p hp))); trivial)
local macro_rules | `(tactic| k_mem) => `(tactic| kcf_m)
local macro_rules | `(tactic| walk_at "exec For Name Tuple cons nil") => `(tactic| (k_here; (refine' For_turns ?FF ?_ ?hs ?hE); (case FF => k_asm); (case hs => (intro _; rfl)); (case hE => passes_own); k_whole))
local macro_rules | `(tactic| walk_at $s:str) => do
  let t := Lean.Syntax.mkStrLit ("sm61 " ++ s.getString)
  `(tactic| k_extra $t)
example : True := by ((k_with "sm61 pyIter ref" => ((refine hold ?_))); trivial)
example : True := by ((k_with "mine setItem ref str" => ((k_here; k_dflt (refine' kda_set (knd := PySem.strKind _ _) (by k_asm) (by k_asm) (by k_updF) (by k_asm) (strKind_is _ _ _ _) (by rw [sizeLine_eq]; k_extra "ar") ?_); walk_at "mine iB"))); trivial)
local macro_rules | `(tactic| walk_at "eval Dict cons cons") => `(tactic| (k_here; k_dflt (refine' kdn_str ?q ?F ?N ?b ?a ?l ?e ?n ?_; (case q => rfl); (case F => k_asm); (case N => k_asm); (case b => exact Top.nolimit (by k_asm)); (case a => rfl); (case l => rfl); (case e => exact List.cons_ne_nil _ _); (case n => exact Nat.le_of_ble_eq_true rfl)); intro d' h' o' F' N' l1 lo' hd'; (try k_lt l1)))
example : True := by ((k_with "mine newTuple" => ((k_here; k_dflt (refine' kup_newTuple (by k_asm) (by k_asm) ?_ (by (rw [sizeLine_eq]; exact Nat.le_of_ble_eq_true rfl))); walk_at "mine iA"))); trivial)
local macro_rules | `(tactic| walk_at "KdnMade") => `(tactic| (k_here; k_dflt ((refine' kdn_made_str ?F ?N ?U ?d ?k ?n ?_; (case F => k_asm); (case N => k_asm); (case U => k_updF); (case d => k_asm); (case k => rfl); (case n => exact of_decide_eq_true (by first | rfl | kernel_rfl!)); intro h' o' F' N' hd')); (try dsimp only at N')))
theorem defaults_c (w : World) (news : Led) :
    Spec w 241 [] 1 news (DefOut w news) := by
  intro mean mg mb dp un gd cn cs a ccd cl0 outer A₀ base h₀ L m s Q E B F X N T hk hdp0 hun9 ret
  refine wpAny_call ?_
  k_dflt ktr_enter
  rename Fr _ _ _ _ => F0
  have F1 : Fr _ _ _ (fun y => List.lookup y ([] : List (Str × Value))) := F0
  clear F0
  k_steps
  unfold Hold
  rename Obj.IsDictOf _ _ _ => hD
  rename News _ _ _ _ => nN
  rename Fr _ _ _ _ => nF
  have ok0 := DefOk_of (hD) rfl rfl
  obtain ⟨kvs1, hD1, ok1, len1⟩ : ∃ kvs, Obj.IsDictOf (PySem.strKind PP w) _ kvs ∧ DefOk kvs ∧ kvs.length ≤ 8 := ⟨_, hD, ok0, Nat.le_of_ble_eq_true rfl⟩
  clear hD ok0
  rename (_ == sysModules) = false => lo1
  rename _ ∧ AllLt _ news => l0
  obtain ⟨tO, hT, nT⟩ := hideO nN
  clear nN
  k_dflt (refine iter_tupTurns rfl nF nT (.head _) (congrArg Obj.cls hT) (congrArg Obj.data hT) (fun I hI => ?_))
  refine items_inv _ [Str.ofString "name"] (fun i nx => DefInv w (_, _) _ news (8 + i) nx) ?_ ?_ ?_ _ 0 _ _ rfl rfl ⟨_, _, hD1, ok1, len1⟩ (fun p hp => Nat.ne_of_lt (hI p hp)) (fun _ _ => rfl)
  · rintro i nx ⟨o, kvs, -, -, -⟩; exact ⟨.head _, trivial⟩
  · rintro i a9 v9 u h tk oI nx ha hav ⟨o2, kvs2, hd2, ok2, len2⟩ hI2 F2 N2
    clear nF nT hT hD1 ok1 len1
    obtain ⟨nm, tn, hcond⟩ := strOk_at (c := false) (by (repeat (refine List.forall_mem_cons.mpr ⟨⟨_, _, rfl, .inr ⟨by decide, by decide⟩⟩, ?_⟩)); exact List.forall_mem_nil _) ha hav
    have hi9 : i < 3 := (List.getElem?_eq_some_iff.mp ha).1
    have hI3 : @Ne Nat _ _ := hI2 _ (.head _)
    have hI4 : @Ne Nat _ _ := hI2 _ (.tail _ (.head _))
    dsimp only at hI3 hI4
    (try k_unmd); (try k_fold)
    k_steps
    unfold Hold
    rename Obj.IsDictOf _ _ (stored _ _ _) => hd9
    rename News _ _ _ _ => nN9
    refine foend _ (by assumption) nN9 (ne3 hI2) keep1 ⟨_, _, hd9, ok2.st (.inr (hcond.resolve_left (by decide))), Nat.le_trans stored_len (by k_extra "ar")⟩
  clear hD1 ok1 len1 nF nT hT l0
  rintro u h tk nx ⟨o, kvs1, hD1, ok1, len1⟩ F2 N2
  replace len1 : kvs1.length ≤ 11 := len1
  replace N2 := cb_drop N2 (fun p hp => List.Mem.tail _ hp)
  (try k_unmd); (try k_fold)
  k_steps
  unfold Hold
  rename News _ _ _ _ => nN
  rename Fr _ _ _ _ => nF
  rename _ ∧ AllLt _ news => l0
  obtain ⟨tO, hT, nT⟩ := hideO nN
  clear nN
  k_dflt (refine iter_tupTurns rfl nF nT (.head _) (congrArg Obj.cls hT) (congrArg Obj.data hT) (fun I hI => ?_))
  refine items_inv _ [Str.ofString "name"] (fun i nx => DefInv w (_, _) _ news (11 + i) nx) ?_ ?_ ?_ _ 0 _ _ rfl rfl ⟨_, _, hD1, ok1, len1⟩ (fun p hp => Nat.ne_of_lt (hI p hp)) (fun _ _ => rfl)
  · rintro i nx ⟨o, kvs, -, -, -⟩; exact ⟨.head _, trivial⟩
  · rintro i a9 v9 u h tk oI nx ha hav ⟨o2, kvs2, hd2, ok2, len2⟩ hI2 F2 N2
    clear nF nT hT hD1 ok1 len1
    obtain ⟨nm, tn, hcond⟩ := strOk_at (c := false) (by (repeat (refine List.forall_mem_cons.mpr ⟨⟨_, _, rfl, .inr ⟨by decide, by decide⟩⟩, ?_⟩)); exact List.forall_mem_nil _) ha hav
    have hi9 : i < 13 := (List.getElem?_eq_some_iff.mp ha).1
    have hI3 : @Ne Nat _ _ := hI2 _ (.head _)
    have hI4 : @Ne Nat _ _ := hI2 _ (.tail _ (.head _))
    dsimp only at hI3 hI4
    (try k_unmd); (try k_fold)
    k_steps
    unfold Hold
    rename Obj.IsDictOf _ _ (stored _ _ _) => hd9
    rename News _ _ _ _ => nN9
    refine foend _ (by assumption) nN9 (ne3 hI2) keep1 ⟨_, _, hd9, ok2.st (.inr (hcond.resolve_left (by decide))), Nat.le_trans stored_len (by k_extra "ar")⟩
  clear hD1 ok1 len1 nF nT hT l0
  rintro u h tk nx ⟨o, kvs1, hD1, ok1, len1⟩ F2 N2
  replace len1 : kvs1.length ≤ 24 := len1
  replace N2 := cb_drop N2 (fun p hp => List.Mem.tail _ hp)
  (try k_unmd); (try k_fold)
  k_steps
  unfold Hold
  rename News _ _ _ _ => nN
  rename Fr _ _ _ _ => nF
  rename _ ∧ AllLt _ news => l0
  obtain ⟨tO, hT, nT⟩ := hideO nN
  clear nN
  k_dflt (refine iter_tupTurns rfl nF nT (.head _) (congrArg Obj.cls hT) (congrArg Obj.data hT) (fun I hI => ?_))
  refine items_inv _ [Str.ofString "name"] (fun i nx => DefInv w (_, _) _ news (24 + i) nx) ?_ ?_ ?_ _ 0 _ _ rfl rfl ⟨_, _, hD1, ok1, len1⟩ (fun p hp => Nat.ne_of_lt (hI p hp)) (fun _ _ => rfl)
  · rintro i nx ⟨o, kvs, -, -, -⟩; exact ⟨.head _, trivial⟩
  · rintro i a9 v9 u h tk oI nx ha hav ⟨o2, kvs2, hd2, ok2, len2⟩ hI2 F2 N2
    clear nF nT hT hD1 ok1 len1
    obtain ⟨nm, tn, hcond⟩ := strOk_at (c := true) (by (repeat (refine List.forall_mem_cons.mpr ⟨⟨_, _, rfl, .inl rfl⟩, ?_⟩)); exact List.forall_mem_nil _) ha hav
    have hi9 : i < 13 := (List.getElem?_eq_some_iff.mp ha).1
    have hI3 : @Ne Nat _ _ := hI2 _ (.head _)
    have hI4 : @Ne Nat _ _ := hI2 _ (.tail _ (.head _))
    dsimp only at hI3 hI4
    (try k_unmd); (try k_fold)
    k_steps
    unfold Hold
    rename Obj.IsDictOf _ _ (stored _ _ _) => hd9
    rename News _ _ _ _ => nN9
    refine foend _ (by assumption) nN9 (ne3 hI2) keep1 ⟨_, _, hd9, ok2.st (.inl rfl), Nat.le_trans stored_len (by k_extra "ar")⟩
  clear hD1 ok1 len1 nF nT hT l0
  rintro u h tk nx ⟨o, kvs1, hD1, ok1, len1⟩ F2 N2
  replace len1 : kvs1.length ≤ 37 := len1
  replace N2 := cb_drop N2 (fun p hp => List.Mem.tail _ hp)
  (try k_unmd); (try k_fold)
  k_steps
  unfold Hold
  rename News _ _ _ _ => nN
  rename Fr _ _ _ _ => nF
  rename _ ∧ AllLt _ news => l0
  obtain ⟨tO, hT, nT⟩ := hideO nN
  clear nN
  k_dflt (refine iter_tupTurns rfl nF nT (.head _) (congrArg Obj.cls hT) (congrArg Obj.data hT) (fun I hI => ?_))
  refine items_inv _ [Str.ofString "name"] (fun i nx => DefInv w (_, _) _ news (37 + i) nx) ?_ ?_ ?_ _ 0 _ _ rfl rfl ⟨_, _, hD1, ok1, len1⟩ (fun p hp => Nat.ne_of_lt (hI p hp)) (fun _ _ => rfl)
  · rintro i nx ⟨o, kvs, -, -, -⟩; exact ⟨.head _, trivial⟩
  · rintro i a9 v9 u h tk oI nx ha hav ⟨o2, kvs2, hd2, ok2, len2⟩ hI2 F2 N2
    clear nF nT hT hD1 ok1 len1
    obtain ⟨nm, tn, hcond⟩ := strOk_at (c := false) (by (repeat (refine List.forall_mem_cons.mpr ⟨⟨_, _, rfl, .inr ⟨by decide, by decide⟩⟩, ?_⟩)); exact List.forall_mem_nil _) ha hav
    have hi9 : i < 4 := (List.getElem?_eq_some_iff.mp ha).1
    have hI3 : @Ne Nat _ _ := hI2 _ (.head _)
    have hI4 : @Ne Nat _ _ := hI2 _ (.tail _ (.head _))
    dsimp only at hI3 hI4
    (try k_unmd); (try k_fold)
    k_steps
    unfold Hold
    rename Obj.IsDictOf _ _ (stored _ _ _) => hd9
    rename News _ _ _ _ => nN9
    refine foend _ (by assumption) (cb_drop nN9 (fun p hp => List.Mem.tail _ hp)) (ne3 hI2) keep1 ⟨_, _, hd9, ok2.st (.inr (hcond.resolve_left (by decide))), Nat.le_trans stored_len (by k_extra "ar")⟩
  clear hD1 ok1 len1 nF nT hT l0
  rintro u h tk nx ⟨o, kvs1, hD1, ok1, len1⟩ F2 N2
  replace len1 : kvs1.length ≤ 41 := len1
  replace N2 := cb_drop N2 (fun p hp => List.Mem.tail _ hp)
  (try k_unmd); (try k_fold)
  k_steps
  rename Obj.IsDictOf _ _ (stored _ _ _) => hd9
  rename News _ _ _ _ => nN9
  rename ∀ p ∈ news, p.1 < _ => lt9
  exact ret _ _ _ _ ⟨_, _, _, lt9, lo1, hd9, ok1.st (.inr ⟨by decide, by decide⟩)⟩ (by assumption) (cb_drop nN9 (by kcf_all))
end
example : True := by first | walk1 | trivial
example : True := by
  w_top off
  trivial
--@nofill
/-! ## the database while it is built -/
def Apart (a b : Led) : Prop := ∀ p ∈ a, ∀ q ∈ b, p.1 ≠ q.1
abbrev kNt : Str := Str.ofString "nt"
abbrev kNv : Str := Str.ofString "nv"
inductive P0 (w : World) (x : Addr) (news nx : Led) : Prop
  | mk (mp : Addr) (om : Obj) (R : Led) (z1 : nx = (mp, om) :: (R ++ news)) (z2 : DS w R x mp) (z3 : (mp == sysModules) = false) (z4 : om.IsDictOf (PySem.strKind PP w) []) (z5 : (∀ p ∈ R ++ news, p.1 ≠ mp)) (z6 : Apart R news) : P0 w x news nx
inductive P1 (w : World) (x : Addr) (news : Led) (sa : List Int) (va : List Dat) (nx : Led) : Prop
  | mk (mp : Addr) (om : Obj) (r1 d1 : Addr) (D1 : Obj) (R : Led) (z1 : nx = (mp, om) :: (d1, D1) :: (R ++ news)) (z2 : DS w R x mp) (z3 : (mp == sysModules) = false) (z4 : om.IsDictOf (PySem.strKind PP w) [(kNt, .ref r1)]) (z5 : RMS R r1 d1 D1 sa va) (z6 : mp ≠ d1) (z7 : (∀ p ∈ R ++ news, p.1 ≠ mp ∧ p.1 ≠ d1)) (z8 : Apart R news) : P1 w x news sa va nx
inductive P2 (w : World) (x : Addr) (news : Led) (sa : List Int) (va : List Dat) (sb : List Int) (vb : List Dat) (nx : Led) : Prop
  | mk (mp : Addr) (om : Obj) (r1 d1 : Addr) (D1 : Obj) (r2 d2 : Addr) (D2 : Obj) (R : Led) (z1 : nx = (mp, om) :: (d1, D1) :: (d2, D2) :: (R ++ news)) (z2 : DS w R x mp) (z3 : (mp == sysModules) = false) (z4 : om.IsDictOf (PySem.strKind PP w) [(kNt, .ref r1), (kNv, .ref r2)]) (z5 : RMS R r1 d1 D1 sa va) (z6 : RMS R r2 d2 D2 sb vb) (z7 : mp ≠ d1) (z8 : mp ≠ d2) (z9 : d1 ≠ d2) (z10 : (∀ p ∈ R ++ news, p.1 ≠ mp ∧ p.1 ≠ d1 ∧ p.1 ≠ d2)) (z11 : Apart R news) : P2 w x news sa va sb vb nx
def putS (st : List Int) (first last : Int) (low high : Nat) : List Int := st.take low ++ [first, last + 1] ++ st.drop high
def putV (vs : List Dat) (dv : Dat) (low high : Nat) : List Dat := vs.take low ++ [dv, .none] ++ vs.drop high
theorem Spec.perm {w : World} {f : Addr} {vs : List Value} {r : Nat} {news news' : Led} {Out Out' : Value → Led → Prop} (S : Spec w f vs r news' Out) (hs : ∀ p ∈ news', p ∈ news) (h : ∀ v nx, Out v nx → ∃ nx', Out' v nx' ∧ ∀ p ∈ nx', p ∈ nx) : Spec w f vs r news Out' :=
  fun mean mg mb dp un gd cn cs a ccd cl outer A₀ base h₀ L m s Q E B F X N T hk hd hu ret =>
    S mean mg mb dp un gd cn cs a ccd cl outer A₀ base h₀ L m s Q E B F X (cb_drop N hs) T hk hd hu fun v nx h' tk' o F' N' =>
      let ⟨nx', o', hs'⟩ := h v nx o
      ret v nx' h' tk' o' F' (cb_drop N' hs')
theorem pH {a x : Addr} {ox : Obj} {l : Led} (h : ∀ q ∈ (x, ox) :: l, a ≠ q.1) : a ≠ x := h _ (.head _)
theorem three {a l : Led} {x y z : Addr} {ox oy oz : Obj} (h : Apart a ((x, ox) :: (y, oy) :: (z, oz) :: l)) : ∀ p ∈ a, p.1 ≠ x ∧ p.1 ≠ y ∧ p.1 ≠ z := fun p hp => ⟨pH (h p hp), pH (oT (h p hp)), pH (oT (oT (h p hp)))⟩
theorem p2_put_nt (w : World) (x : Addr) (news nx tv ex : Led) (sa : List Int) (va : List Dat) (sb : List Int) (vb : List Dat) (first last : Int) (tn tf tl : Tok) (v : Value) (dv : Dat) (low high : Nat)
    (hP : P2 w x news sa va sb vb nx) (hdv : DatIn tv v dv) (h1 : Apart tv nx) (h2 : Apart ex nx) (h3 : Apart ex tv) (C : PutC sa va first last dv low high) :
    Spec w 262 [.ref x, .str kNt tn, .int first tf, .int last tl, v] 7 (nx ++ (tv ++ ex)) (fun r y => r = .none ∧ ∃ nx', y = nx' ++ ex ∧ P2 w x news (putS sa first last low high) (putV va dv low high) sb vb nx' ∧ Apart ex nx') := by
  obtain ⟨mp, om, r1, d1, D1, r2, d2, D2, R, rfl, hS, lo, hom, hR1, hR2, n1, n2, n3, hA, hB⟩ := hP
  refine (data_put_old_c w (tv ++ R) ((mp, om) :: (d2, D2) :: (news ++ ex)) x mp r1 d1 om D1 _ kNt sa va first last tn tf tl v dv low high (hS.mono (sR fun _ h => h)) (List.mem_append_right _ (.head _)) lo hom rfl (hR1.mono (sR fun _ h => h)) (hdv.mono (sL fun _ h => h))
    (aA (aA (fun p hp => (three h1 p hp).2.1) (fun p hp => (hA p (List.mem_append_left _ hp)).2.1)) (aC n1 (aC n3.symm (aA (fun p hp => (hA p (List.mem_append_right _ hp)).2.1) (fun p hp => (three h2 p hp).2.1))))) C).perm (by k_extra "sub") ?_
  rintro v9 y ⟨D', own, e2, e3, e4⟩
  have o1 : ∀ p ∈ own, p.1 ≠ mp ∧ p.1 ≠ d1 ∧ p.1 ≠ d2 := fun p hp => have h := oR (e4 p hp); ⟨(oH h).symm, e3 p hp, (oH (oT h)).symm⟩
  refine ⟨_, ⟨rfl, (mp, om) :: (d1, D') :: (d2, D2) :: ((own ++ (tv ++ R)) ++ news), rfl, ⟨mp, om, r1, d1, D', r2, d2, D2, own ++ (tv ++ R), rfl, hS.mono (sR (sR fun _ h => h)), lo, hom, e2, hR2.mono (sR (sR fun _ h => h)), n1, n2, n3, aA (aA o1 (aA (three h1) (oL hA))) (oR hA), aA (fun p h q hq => (e4 p h q (List.mem_append_right _ (.tail _ (.tail _ (List.mem_append_left _ hq))))).symm) (aA (fun p h => oR (oT (oT (oT (h1 p h))))) hB)⟩, ?_⟩, (by k_extra "sub")⟩
  intro p hp
  have a1 := three h2 p hp
  have a2 := oT (oT (oT (h2 p hp)))
  exact aC a1.1 (aC a1.2.1 (aC a1.2.2 (aA (aA (fun q h => e4 q h p (List.mem_append_right _ (.tail _ (.tail _ (List.mem_append_right _ hp))))) (aA (h3 p hp) (oL a2))) (oR a2))))
theorem p2_put_nv (w : World) (x : Addr) (news nx tv ex : Led) (sa : List Int) (va : List Dat) (sb : List Int) (vb : List Dat) (first last : Int) (tn tf tl : Tok) (v : Value) (dv : Dat) (low high : Nat)
    (hP : P2 w x news sa va sb vb nx) (hdv : DatIn tv v dv) (h1 : Apart tv nx) (h2 : Apart ex nx) (h3 : Apart ex tv) (C : PutC sb vb first last dv low high) :
    Spec w 262 [.ref x, .str kNv tn, .int first tf, .int last tl, v] 7 (nx ++ (tv ++ ex)) (fun r y => r = .none ∧ ∃ nx', y = nx' ++ ex ∧ P2 w x news sa va (putS sb first last low high) (putV vb dv low high) nx' ∧ Apart ex nx') := by
  obtain ⟨mp, om, r1, d1, D1, r2, d2, D2, R, rfl, hS, lo, hom, hR1, hR2, n1, n2, n3, hA, hB⟩ := hP
  refine (data_put_old_c w (tv ++ R) ((mp, om) :: (d1, D1) :: (news ++ ex)) x mp r2 d2 om D2 _ kNv sb vb first last tn tf tl v dv low high (hS.mono (sR fun _ h => h)) (List.mem_append_right _ (.head _)) lo hom rfl (hR2.mono (sR fun _ h => h)) (hdv.mono (sL fun _ h => h))
    (aA (aA (fun p hp => (three h1 p hp).2.2) (fun p hp => (hA p (List.mem_append_left _ hp)).2.2)) (aC n2 (aC n3 (aA (fun p hp => (hA p (List.mem_append_right _ hp)).2.2) (fun p hp => (three h2 p hp).2.2))))) C).perm (by k_extra "sub") ?_
  rintro v9 y ⟨D', own, e2, e3, e4⟩
  have o1 : ∀ p ∈ own, p.1 ≠ mp ∧ p.1 ≠ d1 ∧ p.1 ≠ d2 := fun p hp => have h := oR (e4 p hp); ⟨(oH h).symm, (oH (oT h)).symm, e3 p hp⟩
  refine ⟨_, ⟨rfl, (mp, om) :: (d1, D1) :: (d2, D') :: ((own ++ (tv ++ R)) ++ news), rfl, ⟨mp, om, r1, d1, D1, r2, d2, D', own ++ (tv ++ R), rfl, hS.mono (sR (sR fun _ h => h)), lo, hom, hR1.mono (sR (sR fun _ h => h)), e2, n1, n2, n3, aA (aA o1 (aA (three h1) (oL hA))) (oR hA), aA (fun p h q hq => (e4 p h q (List.mem_append_right _ (.tail _ (.tail _ (List.mem_append_left _ hq))))).symm) (aA (fun p h => oR (oT (oT (oT (h1 p h))))) hB)⟩, ?_⟩, (by k_extra "sub")⟩
  intro p hp
  have a1 := three h2 p hp
  have a2 := oT (oT (oT (h2 p hp)))
  exact aC a1.1 (aC a1.2.1 (aC a1.2.2 (aA (aA (fun q h => e4 q h p (List.mem_append_right _ (.tail _ (.tail _ (List.mem_append_right _ hp))))) (aA (h3 p hp) (oL a2))) (oR a2))))
theorem p0_put_nt (w : World) (x : Addr) (news nx tv ex : Led) (first last : Int) (tn tf tl : Tok) (v : Value) (dv : Dat) (low high : Nat)
    (hP : P0 w x news nx) (hdv : DatIn tv v dv) (h1 : Apart tv nx) (h2 : Apart ex nx) (h3 : Apart ex tv) (C : PutC [0] [.none] first last dv low high) :
    Spec w 262 [.ref x, .str kNt tn, .int first tf, .int last tl, v] 7 (nx ++ (tv ++ ex)) (fun r y => r = .none ∧ ∃ nx', y = nx' ++ ex ∧ P1 w x news (putS [0] first last low high) (putV [.none] dv low high) nx' ∧ Apart ex nx') := by
  obtain ⟨mp, om, R, rfl, hS, lo, hom, hA, hB⟩ := hP
  refine (data_put_new_c w (tv ++ R) (news ++ ex) x mp om _ kNt first last tn tf tl v dv low high (hS.mono (sR fun _ h => h)) (aA (aA (fun p hp => pH (h1 p hp)) (oL hA)) (aA (oR hA) (fun p hp => pH (h2 p hp)))) lo hom rfl (.inl rfl) (by decide) (hdv.mono (sL fun _ h => h)) C).perm (by k_extra "sub") ?_
  rintro v9 y ⟨om', D', r, d, own, e1, e2, e3, e4, e5, e6⟩
  have e7 := oL (oL e5)
  have e8 := oR (oL e5)
  have e9 := oR e5
  refine ⟨_, ⟨rfl, (mp, om') :: (d, D') :: ((own ++ (tv ++ R)) ++ news), rfl, ⟨mp, om', r, d, D', own ++ (tv ++ R), rfl, hS.mono (sR (sR fun _ h => h)), lo, e1, e2, e3, aA (aA e4 (aA (fun p hp => ⟨pH (h1 p hp), e7 p hp⟩) (fun p hp => ⟨oL hA p hp, e8 p hp⟩))) (fun p hp => ⟨oR hA p hp, oL e9 p hp⟩), aA (fun p h q hq => (e6 p h q (List.mem_append_right _ (List.mem_append_left _ hq))).symm) (aA (fun p h => oR (oT (h1 p h))) hB)⟩, ?_⟩, (by k_extra "sub")⟩
  intro p hp
  have a2 := oT (h2 p hp)
  exact aC (pH (h2 p hp)) (aC (oR e9 p hp) (aA (aA (fun q h => e6 q h p (List.mem_append_right _ (List.mem_append_right _ hp))) (aA (h3 p hp) (oL a2))) (oR a2)))
theorem p1_put_nv (w : World) (x : Addr) (news nx tv ex : Led) (sa : List Int) (va : List Dat) (first last : Int) (tn tf tl : Tok) (v : Value) (dv : Dat) (low high : Nat)
    (hP : P1 w x news sa va nx) (hdv : DatIn tv v dv) (h1 : Apart tv nx) (h2 : Apart ex nx) (h3 : Apart ex tv) (C : PutC [0] [.none] first last dv low high) :
    Spec w 262 [.ref x, .str kNv tn, .int first tf, .int last tl, v] 7 (nx ++ (tv ++ ex)) (fun r y => r = .none ∧ ∃ nx', y = nx' ++ ex ∧ P2 w x news sa va (putS [0] first last low high) (putV [.none] dv low high) nx' ∧ Apart ex nx') := by
  obtain ⟨mp, om, r1, d1, D1, R, rfl, hS, lo, hom, hR1, n1, hA, hB⟩ := hP
  refine (data_put_new_c w (tv ++ R) ((d1, D1) :: (news ++ ex)) x mp om _ kNv first last tn tf tl v dv low high (hS.mono (sR fun _ h => h)) (aA (aA (fun p hp => pH (h1 p hp)) (fun p hp => (oL hA p hp).1)) (aC n1.symm (aA (fun p hp => (oR hA p hp).1) (fun p hp => pH (h2 p hp))))) lo hom rfl (.inr rfl) (by simp) (hdv.mono (sL fun _ h => h)) C).perm (by k_extra "sub") ?_
  rintro v9 y ⟨om', D', r, d, own, e1, e2, e3, e4, e5, e6⟩
  have e7 := oL (oL e5)
  have e8 := oR (oL e5)
  have n3 := oH (oR e5)
  have e9 := oT (oR e5)
  refine ⟨_, ⟨rfl, (mp, om') :: (d1, D1) :: (d, D') :: ((own ++ (tv ++ R)) ++ news), rfl, ⟨mp, om', r1, d1, D1, r, d, D', own ++ (tv ++ R), rfl, hS.mono (sR (sR fun _ h => h)), lo, e1, hR1.mono (sR (sR fun _ h => h)), e2, n1, e3, n3, aA (aA (fun p hp => ⟨(e4 p hp).1, (oH (oR (e6 p hp))).symm, (e4 p hp).2⟩) (aA (fun p hp => ⟨pH (h1 p hp), pH (oT (h1 p hp)), e7 p hp⟩) (fun p hp => ⟨(oL hA p hp).1, (oL hA p hp).2, e8 p hp⟩))) (fun p hp => ⟨(oR hA p hp).1, (oR hA p hp).2, oL e9 p hp⟩), aA (fun p h q hq => (e6 p h q (List.mem_append_right _ (.tail _ (List.mem_append_left _ hq)))).symm) (aA (fun p h => oR (oT (oT (h1 p h)))) hB)⟩, ?_⟩, (by k_extra "sub")⟩
  intro p hp
  have a2 := oT (oT (h2 p hp))
  exact aC (pH (h2 p hp)) (aC (pH (oT (h2 p hp))) (aC (oR e9 p hp) (aA (aA (fun q h => e6 q h p (List.mem_append_right _ (.tail _ (List.mem_append_right _ hp)))) (aA (h3 p hp) (oL a2))) (oR a2))))
theorem p2_isd {w : World} {x : Addr} {news nx : Led} {sa : List Int} {va : List Dat} {sb : List Int} {vb : List Dat} (h : P2 w x news sa va sb vb nx) : ∃ own, nx = own ++ news ∧ IsData w own x sa va sb vb ∧ Apart own news := by
  obtain ⟨mp, om, r1, d1, D1, r2, d2, D2, R, rfl, hS, lo, hom, hR1, hR2, n1, n2, n3, hA, hB⟩ := h
  obtain ⟨dx, dd, n, h1, h2, h3, h4, t1, t2, t3, t4, v3, v4, od, kd, a1, a2, a3, a4, a5, a6, a7⟩ := hS
  obtain ⟨g1, g2, g3, q1, q2, q3, v0, ls, lv, m1, kk, ks, ss, us, rfl, b1, b2, b3, b4, b5⟩ := hR1
  obtain ⟨g1', g2', g3', q1', q2', q3', v0', ls', lv', m1', kk', ks', ss', us', rfl, b1', b2', b3', b4', b5'⟩ := hR2
  have q : ∀ p ∈ R, p ∈ (mp, om) :: (d1, rmDict g1 g2 g3 q1 q2 q3 v0 ls lv m1) :: (d2, rmDict g1' g2' g3' q1' q2' q3' v0' ls' lv' m1') :: R := sT (sT (sT fun _ h => h))
  refine ⟨(mp, om) :: (d1, _) :: (d2, _) :: R, rfl, ⟨dx, mp, r1, r2, n, h1, h2, h3, h4, t1, t2, t3, t4, .ref dd, v3, v4, om, q _ a1, q _ a2, .head _, hom, lo, ?_, ?_⟩, aC (fun p hp => ((oR hA p hp).1).symm) (aC (fun p hp => ((oR hA p hp).2.1).symm) (aC (fun p hp => ((oR hA p hp).2.2).symm) hB))⟩
  · exact ⟨d1, ls, lv, m1, kk, g1, g2, g3, q1, q2, q3, v0, us, q _ b1, .tail _ (.head _), ⟨ss, ks, q _ b2, b3⟩, q _ b4, b5.mono q⟩
  · exact ⟨d2, ls', lv', m1', kk', g1', g2', g3', q1', q2', q3', v0', us', q _ b1', .tail _ (.tail _ (.head _)), ⟨ss', ks', q _ b2', b3'⟩, q _ b4', b5'.mono q⟩
example : True := by
  w_top off
  trivial
--@nofill
/-! ## the sequence of puts -/
def lawOrder (i : Nat) : Int := ([189, 8533, 3884, 8548, 178, 12295, 3891, 8542] : List Int).getD i 0
def ntF (a : Nat) : Int := if a = 0 then 48 else if a = 1 then 1632 else lawOrder (a - 2)
def ntL (a : Nat) : Int := if a = 0 then 57 else if a = 1 then 1641 else lawOrder (a - 2)
def ntD (a : Nat) : Dat := if a < 2 then sDe else sNu
def nvF (b : Nat) : Int := if b < 10 then 48 + (b : Int) else if b < 20 then 1632 + ((b : Int) - 10) else lawOrder (b - 20)
def nvD (b : Nat) : Dat := if b < 10 then dPair b 1 else if b < 20 then dPair ((b : Int) - 10) 1 else match sgn (lawOrder (b - 20)) with | some p => dPair p.1 p.2 | none => .none
def putAt (s : List Int × List Dat) (f l : Int) (dv : Dat) : List Int × List Dat := (putS s.1 f l (cntLE s.1 (f - 1)) (cntLE s.1 (l + 1)), putV s.2 dv (cntLE s.1 (f - 1)) (cntLE s.1 (l + 1)))
def ntB : Nat → List Int × List Dat
  | 0 => ([0], [.none])
  | a + 1 => putAt (ntB a) (ntF a) (ntL a) (ntD a)
def nvB : Nat → List Int × List Dat
  | 0 => ([0], [.none])
  | b + 1 => putAt (nvB b) (nvF b) (nvF b) (nvD b)
def isN : Dat → Bool
  | .none => true
  | _ => false
def isST : Dat → Bool
  | .str _ => true
  | .tuple _ => true
  | _ => false
def intD : Dat → Option Int
  | .int a => some a
  | _ => none
def oneI : List Dat → Option Int
  | [] => none
  | a :: r => match r with
    | [] => none
    | b :: q => match q with
      | [] => if intD b = some 1 then intD a else none
      | _ :: _ => none
def oneD : Dat → Option Int
  | .tuple ds => oneI ds
  | _ => none
def unlikeB (d e : Dat) : Bool := (isN d && isST e) || (match oneD d with
  | some a => match oneD e with
    | some b => decide (a ≠ b)
    | none => false
  | none => false)
theorem isN_of {d : Dat} (h : isN d = true) : d = .none := by cases d <;> first | rfl | cases h
theorem intD_of {d : Dat} {a : Int} (h : intD d = some a) : d = .int a := by
  cases d with
  | int x => cases h; rfl
  | _ => exact nomatch h
theorem oneI_of {ds : List Dat} {a : Int} (h : oneI ds = some a) : ds = [.int a, .int 1] := by
  match ds, h with
  | [x, y], h =>
    have h : (if intD y = some 1 then intD x else none) = some a := h
    by_cases hy : intD y = some 1
    · rw [if_pos hy] at h
      rw [intD_of h, intD_of hy]
    · rw [if_neg hy] at h; exact nomatch h
theorem oneD_of {d : Dat} {a : Int} (h : oneD d = some a) : d = .tuple [.int a, .int 1] := by
  cases d with
  | tuple ds => rw [oneI_of h]
  | _ => exact nomatch h
theorem unlike_st {e : Dat} (h : isST e = true) : UnlikeD .none e := by
  cases e with
  | str x => exact .ns x
  | tuple ds => exact .nt ds
  | _ => exact nomatch h
theorem unlike_of {d e : Dat} (h : unlikeB d e = true) : UnlikeD d e := by
  unfold unlikeB at h
  rcases Bool.or_eq_true_iff.mp h with h | h
  · have q := Bool.and_eq_true_iff.mp h
    rw [isN_of q.1]
    exact unlike_st q.2
  · split at h
    · rename_i a ha
      split at h
      · rename_i b hb
        rw [oneD_of ha, oneD_of hb]
        exact .tt (of_decide_eq_true h)
      · exact nomatch h
    · exact nomatch h
def okC (s : List Int × List Dat) (f l : Int) (dv : Dat) : Bool :=
  decide (s.1.length = s.2.length) && decide (s.1.length < 100) && decide (s.1.Pairwise (· < ·)) && decide (0 ≤ f) && decide (f ≤ l) && decide (l < 100000) &&
  decide (0 < cntLE s.1 (f - 1)) && decide (0 < cntLE s.1 (l + 1)) && decide (cntLE s.1 (l + 1) ≤ s.1.length) &&
  (match s.2[cntLE s.1 (l + 1) - 1]? with | some d => isN d | none => false) && (match s.2[cntLE s.1 (f - 1) - 1]? with | some d => unlikeB d dv | none => false) && unlikeB .none dv
theorem okC_of {s : List Int × List Dat} {f l : Int} {dv : Dat} (h : okC s f l dv = true) : PutC s.1 s.2 f l dv (cntLE s.1 (f - 1)) (cntLE s.1 (l + 1)) := by
  unfold okC at h
  simp only [Bool.and_eq_true, decide_eq_true_eq] at h
  obtain ⟨⟨⟨⟨⟨⟨⟨⟨⟨⟨⟨h1, h2⟩, h3⟩, h4⟩, h5⟩, h6⟩, h7⟩, h8⟩, h9⟩, h10⟩, h11⟩, h12⟩ := h
  refine ⟨h1, h2, h3, h4, h5, h6, rfl, rfl, h7, h8, h9, ?_, ?_, unlike_of h12⟩
  · split at h10
    · rename_i d hd; rw [hd, isN_of h10]
    · cases h10
  · split at h11
    · rename_i d hd; exact ⟨d, hd, unlike_of h11⟩
    · cases h11
theorem nt_ok : ∀ a : Fin 10, okC (ntB a) (ntF a) (ntL a) (ntD a) = true := by decide +kernel
theorem nv_ok : ∀ b : Fin 28, okC (nvB b) (nvF b) (nvF b) (nvD b) = true := by decide +kernel
theorem nt_end : ntB 10 = (ntS, ntV) := by rfl
theorem nv_end : nvB 28 = (nvS, nvV) := by rfl
def PS (w : World) (x : Addr) (news : Led) (a b : Nat) (nx : Led) : Prop :=
  (a = 0 ∧ b = 0 ∧ P0 w x news nx) ∨ (0 < a ∧ b = 0 ∧ P1 w x news (ntB a).1 (ntB a).2 nx) ∨ (0 < a ∧ 0 < b ∧ P2 w x news (ntB a).1 (ntB a).2 (nvB b).1 (nvB b).2 nx)
inductive PutOut (w : World) (x : Addr) (news : Led) (a b : Nat) (ex : Led) : Value → Led → Prop
  | mk (nx' : Led) (h : PS w x news a b nx') (z : Apart ex nx') : PutOut w x news a b ex .none (nx' ++ ex)
theorem ps_put_nt (w : World) (x : Addr) (news nx tv ex : Led) (a b : Nat) (first last : Int) (tn tf tl : Tok) (v : Value)
    (hP : PS w x news a b nx) (ha : a < 10) (hab : a = 0 ∨ 0 < b) (hf : first = ntF a) (hl : last = ntL a) (hdv : DatIn tv v (ntD a)) (h1 : Apart tv nx) (h2 : Apart ex nx) (h3 : Apart ex tv) :
    Spec w 262 [.ref x, .str kNt tn, .int first tf, .int last tl, v] 7 (nx ++ (tv ++ ex)) (PutOut w x news (a + 1) b ex) := by
  subst hf
  subst hl
  have C := okC_of (nt_ok ⟨a, ha⟩)
  rcases hP with ⟨rfl, rfl, hP⟩ | ⟨g1, rfl, hP⟩ | ⟨g1, g2, hP⟩
  · exact (p0_put_nt w x news nx tv ex _ _ tn tf tl v _ _ _ hP hdv h1 h2 h3 C).mono fun r y ⟨e, nx', e2, q, z⟩ => by subst e; subst e2; exact ⟨nx', .inr (.inl ⟨by k_extra "ar", rfl, q⟩), z⟩
  · k_extra "ar"
  · exact (p2_put_nt w x news nx tv ex _ _ _ _ _ _ tn tf tl v _ _ _ hP hdv h1 h2 h3 C).mono fun r y ⟨e, nx', e2, q, z⟩ => by subst e; subst e2; exact ⟨nx', .inr (.inr ⟨by k_extra "ar", g2, q⟩), z⟩
theorem ps_put_nv (w : World) (x : Addr) (news nx tv ex : Led) (a b : Nat) (first last : Int) (tn tf tl : Tok) (v : Value)
    (hP : PS w x news a b nx) (ha : 0 < a) (hb : b < 28) (hf : first = nvF b) (hl : last = nvF b) (hdv : DatIn tv v (nvD b)) (h1 : Apart tv nx) (h2 : Apart ex nx) (h3 : Apart ex tv) :
    Spec w 262 [.ref x, .str kNv tn, .int first tf, .int last tl, v] 7 (nx ++ (tv ++ ex)) (PutOut w x news a (b + 1) ex) := by
  subst hf
  subst hl
  have C := okC_of (nv_ok ⟨b, hb⟩)
  rcases hP with ⟨rfl, rfl, hP⟩ | ⟨g1, rfl, hP⟩ | ⟨g1, g2, hP⟩
  · k_extra "ar"
  · exact (p1_put_nv w x news nx tv ex _ _ _ _ tn tf tl v _ _ _ hP hdv h1 h2 h3 C).mono fun r y ⟨e, nx', e2, q, z⟩ => by subst e; subst e2; exact ⟨nx', .inr (.inr ⟨g1, by k_extra "ar", q⟩), z⟩
  · exact (p2_put_nv w x news nx tv ex _ _ _ _ _ _ tn tf tl v _ _ _ hP hdv h1 h2 h3 C).mono fun r y ⟨e, nx', e2, q, z⟩ => by subst e; subst e2; exact ⟨nx', .inr (.inr ⟨g1, by k_extra "ar", q⟩), z⟩
theorem ps_isd {w : World} {x : Addr} {news nx : Led} (h : PS w x news 10 28 nx) : ∃ own, nx = own ++ news ∧ IsD w own x ∧ Apart own news := by
  rcases h with ⟨e, _⟩ | ⟨_, e, _⟩ | ⟨_, _, h⟩
  · cases e
  · cases e
  · rw [nt_end, nv_end] at h
    exact p2_isd h
inductive PsObj (x : Addr) (nx : Led) : Prop
  | mk (mp dx dd : Addr) (n : Nat) (h1 h2 h3 h4 : Int) (t1 t2 t3 t4 : Tok) (v3 v4 : Value) (a : (x, instObj 279 dx) ∈ nx) (b : (dx, dataDict h1 h2 h3 h4 t1 t2 t3 t4 dd mp v3 v4 n) ∈ nx) : PsObj x nx
theorem ds_obj {w : World} {R nx : Led} {x mp : Addr} (h : DS w R x mp) (s : ∀ p ∈ R, p ∈ nx) : PsObj x nx := by
  obtain ⟨dx, dd, n, h1, h2, h3, h4, t1, t2, t3, t4, v3, v4, od, kd, a, b, -⟩ := h
  exact ⟨mp, dx, dd, n, h1, h2, h3, h4, t1, t2, t3, t4, v3, v4, s _ a, s _ b⟩
theorem ps_obj {w : World} {x : Addr} {news nx : Led} {a b : Nat} (h : PS w x news a b nx) : PsObj x nx := by
  rcases h with ⟨-, -, mp, om, R, rfl, hS, -⟩ | ⟨-, -, mp, om, r1, d1, D1, R, rfl, hS, -⟩ | ⟨-, -, mp, om, r1, d1, D1, r2, d2, D2, R, rfl, hS, -⟩
  · exact ds_obj hS (by grind)
  · exact ds_obj hS (by grind)
  · exact ds_obj hS (by grind)
example : True := by
  w_top off
  trivial
/-! ## _law_data -/
section
example : True := by ((k_with "all" => (exact fun p hp => Nat.ne_of_lt ((by assumption : ∀ p ∈ _, p.1 < _) p hp))); trivial)
local macro_rules | `(tactic| k_mem) => `(tactic| kcf_m)
example : True := by ((k_with "mine tD" => ((intro v' nx' h' tk' O'; (obtain ⟨D1, o1, kv1, l1, lo1, i1, ok1⟩ := O'); intro F' N'; (try k_lt l1)))); trivial)
example : True := by ((k_with "mine call ref" => ((k_here; (with_reducible show wpAny _ _ (call (Value.ref 241) _ _) _ _ _); k_dflt (refine' Spec.use (by k_asm) (by k_asm) (by k_asm) (by k_asm) (by k_asm) (by first | exact rfl | assumption) (defaults_c _ _) (by ktr_room) (by first | ktr_units | (simp only [units_deeper, units_under_make]; (try dsimp only [ktrTop]); k_extra "ar")) ?_; k_whole); walk_at "mine tD"; ((try k_sweep); (try dsimp only); (try k_fold))))); trivial)
local macro_rules | `(tactic| walk_at "exec For Name Name cons nil") => `(tactic| (k_here; (refine' For_turns ?FF ?_ ?hs ?hE); (case FF => k_asm); (case hs => (intro _; rfl)); (case hE => passes_own); k_whole))
local macro_rules | `(tactic| walk_at "exec For Name Call cons nil") => `(tactic| (k_here; (refine' For_invVF ?FF ?k1 ?k2 ?_ ?hs ?hE); (case FF => k_asm); (case k1 => exact rfl); (case k2 => exact rfl); (case hs => (intro _; rfl)); (case hE => passes_own); k_whole))
local macro_rules | `(tactic| walk_at $s:str) => do
  let t := Lean.Syntax.mkStrLit ("sm91 " ++ s.getString)
  `(tactic| k_extra $t)
example : True := by ((k_with "sm91 pyIter ref" => ((refine hold ?_))); trivial)
example : True := by ((k_with "hold" => ((with_reducible show wpAny _ _ (call (Value.ref 262) _ _) _ _ _); refine hold ?_)); trivial)
local macro_rules | `(tactic| walk_at "newTuple") => `(tactic| (k_here; k_dflt (refine' kup_newTuple ?F ?N ?_ ?z; (case F => k_asm); (case N => k_asm); (case z => (rw [sizeLine_eq]; exact Nat.le_of_ble_eq_true rfl))); intro D' h' F' N' l1; (try k_sweep)))
theorem nvF_at {i k : Nat} (hi : i < 2) (hk : k < 10) : ntF i + (0 + (k : Int)) = nvF (10 * i + k) := by
  rcases (by k_extra "ar" : i = 0 ∨ i = 1) with rfl | rfl
  · unfold nvF ntF; rw [if_pos rfl, if_pos (by k_extra "ar")]; k_extra "ar"
  · unfold nvF ntF; rw [if_neg (by k_extra "ar"), if_pos rfl, if_neg (by k_extra "ar"), if_pos (by k_extra "ar")]; k_extra "ar"
theorem nvD_at {i k : Nat} (hi : i < 2) (hk : k < 10) : nvD (10 * i + k) = dPair (k : Int) 1 := by
  rcases (by k_extra "ar" : i = 0 ∨ i = 1) with rfl | rfl
  · unfold nvD; rw [if_pos (by k_extra "ar")]; congr 3; k_extra "ar"
  · unfold nvD; rw [if_neg (by k_extra "ar"), if_pos (by k_extra "ar")]; congr 3; k_extra "ar"
theorem pair_dat {T : Addr} {a b c : Int} {t u : Tok} (h : a = c) : DatIn [(T, tup2 a t b u)] (.ref T) (dPair c b) := by
  subst h; exact .tuple (vs := [.int a t, .int b u]) (.head _) (.cons (.int _ _) (.cons (.int _ _) .nil))
theorem hd_split {h₀ h : Heap} {L T I2 I : Addr} {o oI2 oI : Obj} {nx3 : Led} {d : Dat} (N : News h₀ L h ((T, o) :: (I2, oI2) :: (nx3 ++ [(I, oI)]))) (lT : ∀ p ∈ (I2, oI2) :: (nx3 ++ [(I, oI)]), p.1 < T) (hd : DatIn [(T, o)] (.ref T) d) :
    ∃ tv : Led, DatIn tv (.ref T) d ∧ News h₀ L h (nx3 ++ (tv ++ [(I2, oI2), (I, oI)])) ∧ Apart tv nx3 ∧ Apart [(I2, oI2), (I, oI)] tv := by
  refine ⟨[(T, o)], hd, cb_drop N (by grind), ?_, ?_⟩
  · intro p hp q hq
    rw [List.mem_singleton.mp hp]
    exact Nat.ne_of_gt (lT q (by grind))
  · intro p hp q hq
    rw [List.mem_singleton.mp hq]
    exact Nat.ne_of_lt (lT p (by grind))
theorem de_in {i : Nat} {t : Tok} {R : Led} (h : i < 2) : DatIn R (.str (Str.ofString "de") t) (ntD i) := by unfold ntD; rw [if_pos h]; exact .str _ _
theorem apart1 {I : Addr} {oI : Obj} {nx : Led} (h : ∀ p ∈ nx, p.1 ≠ I) : Apart [(I, oI)] nx := by
  intro p hp q hq
  rw [List.mem_singleton.mp hp]
  exact (h q hq).symm
theorem apart2 {I I2 : Addr} {oI oI2 : Obj} {nx : Led} (h : ∀ p ∈ nx ++ [(I, oI)], p.1 ≠ I2) (h2 : Apart [(I, oI)] nx) : Apart [(I2, oI2), (I, oI)] nx := by
  intro p hp q hq
  rcases List.mem_cons.mp hp with rfl | hp
  · exact (h q (List.mem_append_left _ hq)).symm
  · exact h2 p hp q hq
theorem not_in2 {x y z : Str} (h : [x, y].contains z = false) : z ≠ x ∧ z ≠ y := by
  simp only [List.contains_cons, List.contains_nil, Bool.or_false, Bool.or_eq_false_iff, beq_eq_false_iff_ne] at h
  exact h
theorem keepR {x : Str} {v : Option Value} {u m : Str → Option Value} : ∀ z, [x].contains z = false → (if z = x then v else if ([] : List Str).contains z = true then u z else m z) = m z := by
  intro z hz
  have hx : z ≠ x := by intro e; subst e; simp at hz
  rw [if_neg hx, List.contains_nil, if_neg Bool.false_ne_true]
theorem keepO {x y : Str} {v : Option Value} {u u5 m : Str → Option Value} : ∀ z, [x, y].contains z = false → (if [y].contains z = true then u5 z else if z = x then v else if [x, y].contains z = true then u z else m z) = m z := by
  intro z hz
  obtain ⟨h1, h2⟩ := not_in2 hz
  have h3 : [y].contains z = false := by simp only [List.contains_cons, List.contains_nil, Bool.or_false, beq_eq_false_iff_ne]; exact h2
  rw [h3, if_neg Bool.false_ne_true, if_neg h1, hz, if_neg Bool.false_ne_true]
theorem off2 {I I2 : Addr} {oI oI2 : Obj} {nx nx3 : Led} (h : ∀ p ∈ nx3 ++ [(I, oI)], p.1 ≠ I2) (h2 : Apart [(I2, oI2), (I, oI)] nx) : ∀ p ∈ nx ++ [(I, oI)], p.1 ≠ I2 := by
  intro p hp
  rcases List.mem_append.mp hp with hp | hp
  · exact (h2 (I2, oI2) (.head _) p hp).symm
  · exact h p (List.mem_append_right _ hp)
theorem sg_split {h₀ h : Heap} {L T D J : Addr} {o oI : Obj} {tl nx2 : Led} {q : Int × Int} {u v : Tok} (N : News h₀ L h ((D, o) :: (tl ++ (nx2 ++ [(J, oI)])))) (lD : ∀ p ∈ nx2 ++ [(J, oI)], p.1 < D) (hm : (T, tup2 q.1 u q.2 v) ∈ (D, o) :: (tl ++ (nx2 ++ [(J, oI)]))) (g : @LT.lt Nat _ D T) :
    ∃ tv : Led, DatIn tv (.ref T) (dPair q.1 q.2) ∧ News h₀ L h (nx2 ++ (tv ++ [(J, oI)])) ∧ Apart tv nx2 ∧ Apart [(J, oI)] tv := by
  refine ⟨[(T, tup2 q.1 u q.2 v)], pair_dat rfl, cb_drop N ?_, ?_, ?_⟩
  · intro p hp
    rcases List.mem_append.mp hp with hp | hp
    · grind
    rcases List.mem_cons.mp hp with rfl | hp
    · exact hm
    · grind
  · intro p hp r hr
    rw [List.mem_singleton.mp hp]
    exact Nat.ne_of_gt (Nat.lt_trans (lD r (by grind)) g)
  · intro p hp r hr
    rw [List.mem_singleton.mp hr]
    exact Nat.ne_of_lt (Nat.lt_trans (lD p (by grind)) g)
theorem ntF_o {i : Nat} : lawOrder i = ntF (2 + i) := by
  unfold ntF; rw [if_neg (by k_extra "ar"), if_neg (by k_extra "ar"), Nat.add_sub_cancel_left]
theorem ntL_o {i : Nat} : lawOrder i = ntL (2 + i) := by
  unfold ntL; rw [if_neg (by k_extra "ar"), if_neg (by k_extra "ar"), Nat.add_sub_cancel_left]
theorem nvF_o {i : Nat} : lawOrder i = nvF (20 + i) := by
  unfold nvF; rw [if_neg (by k_extra "ar"), if_neg (by k_extra "ar"), Nat.add_sub_cancel_left]
theorem nvD_o {i : Nat} {p : Int × Int} (h : sgn (lawOrder i) = some p) : nvD (20 + i) = dPair p.1 p.2 := by
  unfold nvD; rw [if_neg (by k_extra "ar"), if_neg (by k_extra "ar"), Nat.add_sub_cancel_left, h]
theorem nu_in {i : Nat} {t : Tok} {R : Led} : DatIn R (.str (Str.ofString "nu") t) (ntD (2 + i)) := by unfold ntD; rw [if_neg (by k_extra "ar")]; exact .str _ _
theorem sgn_o {i : Nat} (h : i < 8) : (sgn (lawOrder i)).isSome = true := (by decide : ∀ i : Nat, i < 8 → (sgn (lawOrder i)).isSome = true) i h
inductive DataOut (w : World) (news : Led) : Value → Led → Prop
  | mk (x : Addr) (own : Led) (d : IsD w own x) (a : Apart own news) : DataOut w news (.ref x) (own ++ news)
section
example : True := by ((k_with "mine subscriptTail Call Name ref int" => ((k_here; k_dflt (refine' sg_item (by k_asm) (by walk_at "mine sg") (by assumption) ?_ (by with_unfolding_all rfl) (by intro _; with_unfolding_all rfl); k_whole); intro _ _ _ _ _ _ _))); trivial)
example : True := by ((k_with "mine subscriptTail Name Name ref int" => ((k_here; k_dflt (refine' sg_item (by k_asm) (by walk_at "mine sg") (by assumption) ?_ (by with_unfolding_all rfl) (by intro _; with_unfolding_all rfl); k_whole); intro _ _ _ _ _ _ _))); trivial)
theorem p0_start {w : World} {news : Led} {h₀ h : Heap} {L : Addr} {dW dP mp D1 x dx : Addr} {oW oP om od : Obj} {h1 h2 h3 h4 : Int} {t1 t2 t3 t4 : Tok} {v3 v4 : Value} {n : Nat} {kd : List (Str × Value)}
    (N : News h₀ L h ((dW, oW) :: (dP, oP) :: (mp, om) :: (D1, od) :: (x, instObj 279 dx) :: (dx, dataDict h1 h2 h3 h4 t1 t2 t3 t4 D1 mp v3 v4 n) :: news)) (i0 : om.IsDictOf (PySem.strKind PP w) []) (lo : (mp == sysModules) = false) (lod : (D1 == sysModules) = false) (i1 : od.IsDictOf (PySem.strKind PP w) kd) (ok : DefOk kd)
    (lX : ∀ p ∈ news, p.1 < dx) (l2 : @LT.lt Nat _ dx x) (lD : (@LT.lt Nat _ x D1) ∧ (@LT.lt Nat _ dx D1) ∧ AllLt D1 news) (lM : (@LT.lt Nat _ D1 mp) ∧ (@LT.lt Nat _ x mp) ∧ (@LT.lt Nat _ dx mp) ∧ AllLt mp news)
    (lP : (@LT.lt Nat _ mp dP) ∧ (@LT.lt Nat _ D1 dP) ∧ (@LT.lt Nat _ x dP) ∧ (@LT.lt Nat _ dx dP) ∧ AllLt dP news) (lW : (@LT.lt Nat _ dP dW) ∧ (@LT.lt Nat _ mp dW) ∧ (@LT.lt Nat _ D1 dW) ∧ (@LT.lt Nat _ x dW) ∧ (@LT.lt Nat _ dx dW) ∧ AllLt dW news) :
    ∃ nx, P0 w x news nx ∧ News h₀ L h nx := by
  have aD := ktn_ltOf lD.2.2
  have aM := ktn_ltOf lM.2.2.2
  have aP := ktn_ltOf lP.2.2.2.2
  have aW := ktn_ltOf lW.2.2.2.2.2
  refine ⟨(mp, om) :: ([(dW, oW), (dP, oP), (D1, od), (x, instObj 279 dx), (dx, dataDict h1 h2 h3 h4 t1 t2 t3 t4 D1 mp v3 v4 n)] ++ news), ⟨mp, om, _, rfl, ⟨dx, D1, n, h1, h2, h3, h4, t1, t2, t3, t4, v3, v4, od, kd, by simp, by simp, by simp, lod, i1, ok.1, ok.2⟩, lo, i0, ?_, ?_⟩, cb_drop N (by grind)⟩
  · intro p hp
    simp only [List.cons_append, List.nil_append, List.mem_cons] at hp
    rcases hp with rfl | rfl | rfl | rfl | rfl | hp
    · exact Nat.ne_of_gt lW.2.1
    · exact Nat.ne_of_gt lP.1
    · exact Nat.ne_of_lt lM.1
    · exact Nat.ne_of_lt lM.2.1
    · exact Nat.ne_of_lt lM.2.2.1
    · exact Nat.ne_of_lt (aM p hp)
  · intro p hp q hq
    simp only [List.mem_cons, List.not_mem_nil, or_false] at hp
    rcases hp with rfl | rfl | rfl | rfl | rfl
    · exact Nat.ne_of_gt (aW q hq)
    · exact Nat.ne_of_gt (aP q hq)
    · exact Nat.ne_of_gt (aD q hq)
    · exact Nat.ne_of_gt (Nat.lt_trans (lX q hq) l2)
    · exact Nat.ne_of_gt (lX q hq)
theorem law_data_c (w : World) (news : Led) :
    Spec w 306 [] 9 news (DataOut w news) := by
  intro mean mg mb dp un gd cn cs a ccd cl0 outer A₀ base h₀ L m s Q E B F X N T hk hdp0 hun9 ret
  refine wpAny_call ?_
  k_dflt ktr_enter
  rename Fr _ _ _ _ => F0
  have F1 : Fr _ _ _ (fun y => List.lookup y ([] : List (Str × Value))) := F0
  clear F0
  k_steps
  unfold Hold
  rename News _ _ _ _ => nN
  rename Fr _ _ _ _ => nF
  obtain ⟨nx0, hP0, nN0⟩ := p0_start nN (by assumption) (by assumption) (by assumption) (by assumption) (by assumption) (by assumption) (by assumption) (by assumption) (by assumption) (by assumption) (by assumption)
  clear nN
  k_dflt (refine' iter_tupK ?yh1 ?yF1 ?yN1 ?yX1 ?yk1 ?yc1 ?yd1 ?yz1 ?_)
  (case yh1 => with_unfolding_all rfl)
  (case yF1 => exact nF)
  (case yN1 => exact nN0)
  (case yX1 => k_asm)
  (case yk1 => k_is)
  (case yc1 => exact rfl)
  (case yd1 => exact rfl)
  (case yz1 => decide)
  k_whole
  intro I hI
  refine items_inv (keep := []) _ [Str.ofString "zero", Str.ofString "number"] (fun i nx => PS w _ news i (10 * i) nx) (fun _ _ _ => trivial) ?_ ?_ _ 0 _ _ rfl rfl (.inl ⟨rfl, rfl, hP0⟩) (fun p hp => Nat.ne_of_lt (hI p hp)) (fun _ _ => rfl)
  · rintro i a9 v9 u h tk oI nx ha hav hG hI2 F2 N2
    clear nF nN0 hP0 hI
    have hi9 : i < 2 := (List.getElem?_eq_some_iff.mp ha).1
    have hv : ∃ t, v9 = Value.int (ntF i) t := by
      rcases (by k_extra "ar" : i = 0 ∨ i = 1) with rfl | rfl
      · cases ha; exact ⟨_, hav⟩
      · cases ha; exact ⟨_, hav⟩
    obtain ⟨t9, rfl⟩ := hv
    obtain ⟨mp, dx, dd, n1, h1, h2, h3, h4, t1, t2, t3, t4, v3, v4, hx1, hx2⟩ := ps_obj hG
    (try k_unmd); (try k_fold)
    k_steps
    unfold Hold
    rename Fr _ _ _ _ => nF
    rename News _ _ _ _ => nN
    k_dflt (refine' Spec.use ?zB1 nF ?zX1 (cb_drop nN ?zp1) ?zT1 ?zK1 (ps_put_nt w _ news nx [] [(I, oI)] i (10 * i) _ _ _ _ _ _ hG (by k_extra "ar") (by k_extra "ar") rfl ?zl1 (de_in hi9) (fun _ h => nomatch h) (apart1 hI2) (fun _ _ _ h => nomatch h)) ?zd1 ?zu1 ?_)
    (case zB1 => k_asm)
    (case zX1 => k_asm)
    (case zp1 => grind)
    (case zT1 => k_asm)
    (case zK1 => first | exact rfl | assumption)
    (case zl1 => rcases (by k_extra "ar" : i = 0 ∨ i = 1) with rfl | rfl <;> rfl)
    (case zd1 => ktr_room)
    (case zu1 => ktr_units)
    k_whole
    rintro v9 y9 h9 tk9 ⟨nx2, hG2, hA2⟩ F3 N3
    clear nF nN
    k_steps
    unfold Hold
    rename Fr _ _ _ _ => nF
    rename News _ _ _ _ => nN
    k_dflt (refine iter_rangeUnr (n := 10) (by rfl) (by assumption) (by decide) (by decide) nF (cb_drop nN (news := nx2 ++ [(I, oI)]) (by grind)) (fun I2 hI5 => ?_))
    refine range_inv [] (fun k z => ∃ nx3, z = nx3 ++ [(I, oI)] ∧ PS w _ news (i + 1) (10 * i + k) nx3 ∧ Apart [(I, oI)] nx3) ?_ ?_ 10 0 _ _ rfl ⟨nx2, rfl, hG2, hA2⟩ (fun p hp => Nat.ne_of_lt (hI5 p hp)) (fun _ _ => rfl)
    · rintro k t2 u2 h10 tk10 oI2 z hk9 ⟨nx3, rfl, hG3, hA3⟩ hI3 F4 N4
      clear nF nN hI5 hG2 hA2 hx1 hx2
      obtain ⟨mp, dx, dd, n1, h1, h2, h3, h4, t1, t2, t3, t4, v3, v4, hx1, hx2⟩ := ps_obj hG3
      have hx3 := List.mem_append_left [(I, oI)] hx1
      have hx4 := List.mem_append_left [(I, oI)] hx2
      (try k_unmd); (try k_fold)
      k_steps
      unfold Hold
      rename Fr _ _ _ _ => nF
      rename News _ _ _ _ => nN
      rename ∀ p ∈ (_ : Led), p.1 < _ => lT
      obtain ⟨tv, hdv, N5, ap1, ap2⟩ := hd_split nN lT (d := nvD (10 * i + k)) (by rw [nvD_at hi9 hk9]; exact pair_dat (Int.zero_add _))
      k_dflt (refine' Spec.use ?zB2 nF ?zX2 N5 ?zT2 ?zK2 (ps_put_nv w _ news nx3 tv [(I2, oI2), (I, oI)] (i + 1) (10 * i + k) _ _ _ _ _ _ hG3 (by k_extra "ar") (by k_extra "ar") (nvF_at hi9 hk9) (nvF_at hi9 hk9) hdv ap1 (apart2 hI3 hA3) ap2) ?zd2 ?zu2 ?_)
      (case zB2 => k_asm)
      (case zX2 => k_asm)
      (case zT2 => k_asm)
      (case zK2 => first | exact rfl | assumption)
      (case zd2 => ktr_room)
      (case zu2 => ktr_units)
      k_whole
      rintro v8 y8 h8 tk8 ⟨nx4, hG4, hA4⟩ F5 N6
      clear nF nN N5
      k_steps
      unfold Hold
      exact foend (nx4 ++ [(I, oI)]) (by assumption) (cb_drop N6 (by grind)) (off2 hI3 hA4) keepR ⟨nx4, rfl, hG4, fun p hp q hq => hA4 p (.tail _ hp) q hq⟩
    · rintro u5 h5 tk5 z ⟨nx5, rfl, hG5, hA5⟩ F6 N6
      clear nF nN
      (try k_unmd); (try k_fold)
      k_steps
      unfold Hold
      refine foend nx5 (by assumption) (cb_drop N6 (by grind)) (fun p hp => (hA5 (I, oI) (.head _) p hp).symm) keepO hG5
  · rintro u h tk nx hG F2 N2
    replace hG : PS w _ news 2 20 nx := hG
    clear nF nN0 hP0 hI
    (try k_unmd); (try k_fold)
    k_steps
    unfold Hold
    rename News _ _ _ _ => nN
    rename Fr _ _ _ _ => nF
    k_dflt (refine' iter_tupK ?yh2 ?yF2 ?yN2 ?yX2 ?yk2 ?yc2 ?yd2 ?yz2 ?_)
    (case yh2 => with_unfolding_all rfl)
    (case yF2 => exact nF)
    (case yN2 => exact nN)
    (case yX2 => k_asm)
    (case yk2 => k_is)
    (case yc2 => exact rfl)
    (case yd2 => exact rfl)
    (case yz2 => decide)
    k_whole
    intro J hJ
    refine items_inv (keep := []) _ [Str.ofString "code"] (fun i nx => PS w _ news (2 + i) (20 + i) nx) (fun _ _ _ => trivial) ?_ ?_ _ 0 _ _ rfl rfl hG (fun p hp => Nat.ne_of_lt (hJ p hp)) (fun _ _ => rfl)
    · rintro i a9 v9 u7 h tk oI nx ha hav hG hI2 F2 N2
      clear nF nN hJ
      have hi9 : i < 8 := (List.getElem?_eq_some_iff.mp ha).1
      have hv : ∃ t, v9 = Value.int (lawOrder i) t := by
        rcases (by k_extra "ar" : i = 0 ∨ i = 1 ∨ i = 2 ∨ i = 3 ∨ i = 4 ∨ i = 5 ∨ i = 6 ∨ i = 7) with rfl | rfl | rfl | rfl | rfl | rfl | rfl | rfl
        all_goals (cases ha; exact ⟨_, hav⟩)
      obtain ⟨t9, rfl⟩ := hv
      have hsg := sgn_o hi9
      obtain ⟨mp, dx, dd, n1, h1, h2, h3, h4, t1, t2, t3, t4, v3, v4, hx1, hx2⟩ := ps_obj hG
      (try k_unmd); (try k_fold)
      k_steps
      unfold Hold
      rename Fr _ _ _ _ => nF
      rename News _ _ _ _ => nN
      k_dflt (refine' Spec.use ?zB3 nF ?zX3 (cb_drop nN ?zp3) ?zT3 ?zK3 (ps_put_nt w _ news nx [] [(J, oI)] (2 + i) (20 + i) _ _ _ _ _ _ hG (by k_extra "ar") (by k_extra "ar") ntF_o ntL_o nu_in (fun _ h => nomatch h) (apart1 hI2) (fun _ _ _ h => nomatch h)) ?zd3 ?zu3 ?_)
      (case zB3 => k_asm)
      (case zX3 => k_asm)
      (case zp3 => grind)
      (case zT3 => k_asm)
      (case zK3 => first | exact rfl | assumption)
      (case zd3 => ktr_room)
      (case zu3 => ktr_units)
      k_whole
      rintro v9 y9 h9 tk9 ⟨nx2, hG2, hA2⟩ F3 N3
      clear nF nN hx1 hx2
      obtain ⟨mp, dx, dd, n1, h1, h2, h3, h4, t1, t2, t3, t4, v3, v4, hx1, hx2⟩ := ps_obj hG2
      have hx3 := List.mem_append_left [(J, oI)] hx1
      have hx4 := List.mem_append_left [(J, oI)] hx2
      k_steps
      unfold Hold
      rename Fr _ _ _ _ => nF
      rename News _ _ _ (_ :: (_ ++ _)) => nN
      rename sgn _ = some _ => q1
      rename ∀ p ∈ nx2 ++ _, p.1 < _ => lD
      rename (_, tup2 _ _ _ _) ∈ _ => m1
      rename @LT.lt Nat _ _ _ => g1
      obtain ⟨tv, hdv, N5, ap1, ap2⟩ := sg_split nN lD m1 g1
      rw [← nvD_o q1] at hdv
      k_dflt (refine' Spec.use ?zB4 nF ?zX4 N5 ?zT4 ?zK4 (ps_put_nv w _ news nx2 tv [(J, oI)] (2 + i + 1) (20 + i) _ _ _ _ _ _ hG2 (by k_extra "ar") (by k_extra "ar") nvF_o nvF_o hdv ap1 hA2 ap2) ?zd4 ?zu4 ?_)
      (case zB4 => k_asm)
      (case zX4 => k_asm)
      (case zT4 => k_asm)
      (case zK4 => first | exact rfl | assumption)
      (case zd4 => ktr_room)
      (case zu4 => ktr_units)
      k_whole
      rintro v8 y8 h8 tk8 ⟨nx4, hG4, hA4⟩ F5 N6
      clear nF nN N5
      k_steps
      unfold Hold
      exact foend nx4 (by assumption) (cb_drop N6 (by grind)) (fun p hp => (hA4 (J, oI) (.head _) p hp).symm) keep1 hG4
    · rintro u7 h tk nx hG F2 N2
      clear nF nN hJ
      obtain ⟨own, rfl, hD, hap⟩ := ps_isd hG
      (try k_unmd); (try k_fold)
      k_steps
      exact ret _ _ _ _ ⟨_, own, hD, hap⟩ (by assumption) (by assumption)
end
end
example : True := by first | walk1 | trivial
--@M
example : True := by ((k_with "mine tE" => ((intro v' nx' h' tk' O'; (obtain ⟨x1, own1, d1, a1⟩ := O'); intro F' N'))); trivial)
example : True := by ((k_with "mine call ref" => ((k_here; (with_reducible show wpAny _ _ (call (Value.ref 306) _ _) _ _ _); k_dflt (refine' Spec.use (by k_asm) (by k_asm) (by k_asm) (by k_asm) (by k_asm) (by first | exact rfl | assumption) (law_data_c _ _) (by ktr_room) (by ktr_units) ?_; k_whole); walk_at "mine tE"; ((try k_sweep); (try dsimp only); (try k_fold))))); trivial)
--@E
example : True := by
  w_top off
  trivial
--@nofill
/-! ## a comprehension whose turns turn the ledger -/
section
variable {prog : Program} {w : World} {A : Around} {h₀ : Heap} {L : Addr} {m : Str → Option Value} {env : Env} {elt : PySem.Expr} {x : Str} {scope : Scope} {cl : List (Str × Addr)} {s : Shared} {S : Led → Prop} {Fin : List Value → Led → Prop} {P : Nat → Value → Prop}
theorem comp_state {n : Nat} {news : Led} (Inv : Nat → List Value → Led → Prop)
    (turn : ∀ i ys cur v I oI C oC D m₂ h tk (E' : Value → Shared → Prop), i < n → Inv i ys cur → P i v → LCg.NsObj oC m₂ → m₂ x = some v → Fr h₀ L h m → News h₀ L h ((I, oI) :: (C, oC) :: (D, LCg.lst ys) :: cur) → LCg.Off3 I C D cur → ((@Ne Nat I C) ∧ (@Ne Nat I D) ∧ (@Ne Nat C D)) →
      wpAny (model prog w) A (eval elt (compEnvC scope cl C env)) (LCg.CompEnd h₀ L m { s with heap := h, toks := tk } I oI C oC D (LCg.lst ys) S (fun y news' => Inv (i + 1) (ys ++ [y]) news')) E' { s with heap := h, toks := tk })
    (fin : ∀ ys cur, Inv n ys cur → Fin ys cur) (start : Inv 0 [] news) : LCg.CompRest prog w A h₀ L m env elt x scope cl s S P Fin n 0 [] news := by
  have key : ∀ (j i : Nat) (ys : List Value) (cur : Led), i + j = n → Inv i ys cur → LCg.CompRest prog w A h₀ L m env elt x scope cl s S P Fin j i ys cur := by
    intro j
    induction j with
    | zero =>
      intro i ys cur hi hv
      have e : i = n := by k_extra "ar"
      subst e
      exact LCg.CompRest.zero (fin ys cur hv)
    | succ j ih =>
      intro i ys cur hi hv
      refine LCg.CompRest.succ ?_
      intro v I oI C oC D m₂ h tk E' hP hC hx F N off ne
      refine wpAny_mono (turn i ys cur v I oI C oC D m₂ h tk E' (by k_extra "ar") hv hP hC hx F N off ne) (fun y s₂ hq => ?_) fun _ _ e => e
      obtain ⟨h', tk', nw, e, F', N', off', hS', hn⟩ := hq
      exact ⟨h', tk', nw, e, F', N', off', hS', ih (i + 1) _ _ (by k_extra "ar") hn⟩
  exact key n 0 [] news (by k_extra "ar") start
end
theorem off1_mem {D : Addr} : ∀ {l : Led}, LCg.Off1 D l → ∀ p ∈ l, @Ne Nat p.1 D
  | [], _, _, h => nomatch h
  | _ :: _, x, p, h => by
    rcases List.mem_cons.mp h with rfl | h
    · exact x.1
    · exact off1_mem x.2 p h
/-- the ledger of the law's body once the text is made: the cell of end, the rest -/
inductive LawPack (w : World) (h₀ h : Heap) (L tx wx c2 x : Addr) (o2 : Obj) (zs : List Int) : Prop
  | mk (R0 : Led) (N : News h₀ L h ((c2, o2) :: R0)) (t : TL R0 tx zs) (u : TL R0 wx zs) (D : IsD w R0 x) (c : ∀ p ∈ R0, p.1 ≠ c2) : LawPack w h₀ h L tx wx c2 x o2 zs
theorem law_pack {w : World} {h₀ h : Heap} {L wx tx rw D3 c2 c1 x : Addr} {orow oc o2 o1 : Obj} {us : List Value} {zs : List Int} {n1 n2 : Nat} {dL : Led}
    (N : News h₀ L h ((wx, listOf us.toArray n1) :: (tx, listOf us.toArray n2) :: (rw, orow) :: (D3, oc) :: (c2, o2) :: (c1, o1) :: dL)) (hz : IntsAre us zs) (hD : IsD w dL x)
    (off : @Ne Nat c2 tx) (lw : @LT.lt Nat _ c2 wx) (f3 : ∀ p ∈ dL, p.1 ≠ c2) :
    LawPack w h₀ h L tx wx c2 x o2 zs := by
  refine ⟨(wx, listOf us.toArray n1) :: (tx, listOf us.toArray n2) :: dL, cb_drop N (by grind), ⟨us, n2, by simp, hz⟩, ⟨us, n1, by simp, hz⟩, hD.mono (by grind), ?_⟩
  intro p hp
  rcases List.mem_cons.mp hp with rfl | hp
  · exact Nat.ne_of_gt lw
  rcases List.mem_cons.mp hp with rfl | hp
  · exact Ne.symm off
  · exact f3 p hp
def isSeqO (o : Obj) : Bool := match o.data with
  | .seq _ _ => true
  | _ => false
mutual
theorem din_seq {news news' : Led} (hs : ∀ p ∈ news, isSeqO p.2 = true → p ∈ news') : ∀ {v : Value} {d : Dat}, DatIn news v d → DatIn news' v d
  | _, _, .none => .none
  | _, _, .bool b => .bool b
  | _, _, .int i t => .int i t
  | _, _, .str x t => .str x t
  | _, _, .bytes b t => .bytes b t
  | _, _, .tuple h r => .tuple (hs _ h rfl) (dall_seq hs r)
  | _, _, .list h r => .list (hs _ h rfl) (dall_seq hs r)
theorem dall_seq {news news' : Led} (hs : ∀ p ∈ news, isSeqO p.2 = true → p ∈ news') : ∀ {vs : List Value} {ds : List Dat}, DatAll news vs ds → DatAll news' vs ds
  | _, _, .nil => .nil
  | _, _, .cons a r => .cons (din_seq hs a) (dall_seq hs r)
end
theorem led_pack {h₀ h : Heap} {L c2 : Addr} {w1 : Obj} {v : Option Value} {cur R0 : Led} (N : News h₀ L h cur) (hc : (c2, w1) ∈ cur) (hw : w1.data = .cell v) (hR : ∀ p ∈ R0, p ∈ cur) (hc0 : ∀ p ∈ R0, p.1 ≠ c2) :
    ∃ R1 : Led, News h₀ L h ((c2, w1) :: R1) ∧ (∀ p ∈ R0, p ∈ R1) ∧ (∀ p ∈ cur, isSeqO p.2 = true → p ∈ R1) ∧ ∀ p ∈ R1, p.1 ≠ c2 := by
  refine ⟨cur.filter (fun p => isSeqO p.2) ++ R0, ?_, fun p hp => List.mem_append_right _ hp, fun p hp hs => List.mem_append_left _ (List.mem_filter.mpr ⟨hp, hs⟩), ?_⟩
  · refine cb_drop N ?_
    intro p hp
    rcases List.mem_cons.mp hp with rfl | hp
    · exact hc
    rcases List.mem_append.mp hp with hp | hp
    · exact (List.mem_filter.mp hp).1
    · exact hR p hp
  · intro p hp e
    rcases List.mem_append.mp hp with hp | hp
    · obtain ⟨h1, h2⟩ := List.mem_filter.mp hp
      have a := (N p h1).1
      have b := (N _ hc).1
      rw [e] at a
      have := Option.some.inj (a.symm.trans b)
      rw [this] at h2
      unfold isSeqO at h2
      rw [hw] at h2
      cases h2
    · exact hc0 p hp e
inductive LedPack (h₀ h : Heap) (L c2 : Addr) (w1 : Obj) (R0 cur : Led) : Prop
  | mk (R1 : Led) (N : News h₀ L h ((c2, w1) :: R1)) (s : ∀ p ∈ R0, p ∈ R1) (q : ∀ p ∈ cur, isSeqO p.2 = true → p ∈ R1) (c : ∀ p ∈ R1, p.1 ≠ c2) : LedPack h₀ h L c2 w1 R0 cur
inductive CellSt (c2 : Addr) (R1 : Led) : Led → Prop
  | mk (o2 : Obj) (v2 : Option Value) (h : o2.data = .cell v2) : CellSt c2 R1 ((c2, o2) :: R1)
inductive CodeSt (rw cl : Addr) (rest : Led) (i : Nat) (ys : List Value) : Led → Prop
  | mk (zs : List Int) (k : Int) (tk : Tok) (n' : Nat) (z : IntsAre ys zs) (l : zs.length = i) (hA : ∀ c ∈ zs, c ∈ Alpha) (h0 : 0 ≤ k) (h1 : k ≤ 1 + 2 * (i : Int)) : CodeSt rw cl rest i ys ((rw, listOf #[Value.int k tk, Value.ref cl] n') :: rest)
theorem led_pack2 {h₀ h : Heap} {L c2 : Addr} {w1 : Obj} {v : Option Value} {t0 d a b : Addr × Obj} {own tl1 tl2 R0 : Led} (N : News h₀ L h (t0 :: d :: (own ++ (a :: (tl1 ++ (b :: (tl2 ++ (c2, w1) :: R0))))))) (hw : w1.data = .cell v) (hc0 : ∀ p ∈ R0, p.1 ≠ c2) :
    LedPack h₀ h L c2 w1 R0 (d :: (own ++ (a :: (tl1 ++ (b :: (tl2 ++ (c2, w1) :: R0)))))) := by
  obtain ⟨R1, a1, a2, a3, a4⟩ := led_pack N (by simp) hw (fun p hp => by simp [hp]) hc0
  exact ⟨R1, a1, a2, fun p hp hs => a3 p (.tail _ hp) hs, a4⟩
theorem items_dat {α : Type} {R : Led} {ys : List Value} {qs : List α} {f : α → Dat} (h : DatAll R ys (qs.map f)) {i : Nat} {a : Itm} {v : Value} {g : Heap} (ha : (ys.map Itm.val)[i]? = some a) (hav : a.Is v g) : ∃ q, qs[i]? = some q ∧ DatIn R v (f q) := by
  rw [List.getElem?_map, Option.map_eq_some_iff] at ha
  obtain ⟨v', h1, rfl⟩ := ha
  have e : v = v' := hav
  subst e
  have := (dat_rel h).2 i v (by simpa using h1)
  exact this
/-- what a number told says -/
def QOk (zs : List Int) (q : NumT) : Prop := 0 ≤ q.1 ∧ q.1 < q.2.1 ∧ q.2.1 ≤ (zs.length : Int) ∧ q.2.1 = q.1 + (numLen (zs.drop q.1.toNat) : Nat) ∧ q.2.2 = fracV ((zs.drop q.1.toNat).take (numLen (zs.drop q.1.toNat)))
theorem nums_ok_aux (zs : List Int) : ∀ (n : Nat) (k : Nat), (zs.drop k).length ≤ n → ∀ q ∈ nums (k : Int) (zs.drop k), QOk zs q := by
  intro n
  induction n with
  | zero =>
    intro k hk q hq
    rw [List.eq_nil_of_length_eq_zero (Nat.le_zero.mp hk), nums_nil] at hq; cases hq
  | succ n ih =>
    intro k hk q hq
    by_cases h0 : 0 < (zs.drop k).length
    · have hl := h0
      rw [List.length_drop] at hl
      by_cases hn : 0 < numLen (zs.drop k)
      · rw [nums_yes h0 hn] at hq
        have hp := runLen_pre (s := zs.drop k)
        rw [List.length_drop] at hp
        rcases List.mem_cons.mp hq with rfl | hq
        · refine ⟨Int.natCast_nonneg k, Int.lt_add_of_pos_right _ (Int.ofNat_lt.mpr hn), Int.ofNat_le.mpr (Nat.add_le_of_le_sub' (Nat.le_of_lt (Nat.lt_of_sub_pos hl)) hp), ?_, ?_⟩
          · dsimp only; rw [Int.toNat_natCast]
          · dsimp only; rw [Int.toNat_natCast]
        · rw [List.drop_drop, ← Int.natCast_add] at hq
          exact ih _ (by rw [List.length_drop] at hk ⊢; exact subK hk hn) q hq
      · rw [nums_no h0 (Nat.eq_zero_of_not_pos hn), List.drop_drop, ← Int.natCast_succ] at hq
        exact ih _ (by rw [List.length_drop] at hk ⊢; exact subS hk) q hq
    · rw [List.eq_nil_of_length_eq_zero (Nat.eq_zero_of_not_pos h0), nums_nil] at hq; cases hq
theorem nums_ok {zs : List Int} {i : Nat} {q : NumT} (h : (nums 0 zs)[i]? = some q) : QOk zs q := nums_ok_aux zs _ 0 (Nat.le_refl _) q (by simpa using List.mem_of_getElem? h)
abbrev pieceOf (zs : List Int) (b e : Int) : List Int := (zs.drop b.toNat).take (e.toNat - b.toNat)
theorem nums_one {P : List Int} (h0 : 0 < P.length) (h : numLen P = P.length) : nums 0 P = [(0, (P.length : Int), fracV P)] := by
  rw [nums_yes h0 (by k_extra "ar"), h, List.take_length, List.drop_length, nums_nil, Int.zero_add]
theorem piece_ok {zs : List Int} {b e : Int} {v : Int × Int} (h : QOk zs (b, e, v)) : v = fracV (pieceOf zs b e) ∧ 0 < (pieceOf zs b e).length ∧ numLen (pieceOf zs b e) = (pieceOf zs b e).length ∧ nums 0 (pieceOf zs b e) = [(0, e - b, fracV (pieceOf zs b e))] := by
  obtain ⟨h1, h2, h3, h4, h5⟩ := h
  dsimp only at h1 h2 h3 h4 h5
  have hk : e.toNat - b.toNat = numLen (zs.drop b.toNat) := by rw [h4]; exact sub_run h1
  have hp := runLen_pre (s := zs.drop b.toNat)
  have hl : (pieceOf zs b e).length = numLen (zs.drop b.toNat) := by
    unfold pieceOf; rw [hk, List.length_take]; exact Nat.min_eq_left hp
  have hn : numLen (pieceOf zs b e) = (pieceOf zs b e).length := by
    unfold pieceOf; rw [hk]; exact piece_len _
  have h0 : 0 < (pieceOf zs b e).length := by k_extra "ar"
  refine ⟨by unfold pieceOf; rw [hk]; exact h5, h0, hn, ?_⟩
  rw [nums_one h0 hn, hl]
  congr 3
  k_extra "ar"
theorem dat_ne {prog : Program} {w : World} {A : Around} {E : Value → Shared → Prop} {s : Shared} {h₀ : Heap} {L : Addr} {cur : Led} {x y : Value} {d : Dat} {Q : Value → Shared → Prop}
    (N : News h₀ L s.heap cur) (Dx : DatIn cur x d) (Dy : DatIn cur y d) (hd : kqdOk 8 d = true) (hu : A.units + 64 < cLine) (h : Q (.bool false) s) : wpAny (model prog w) A (compareOp .NotEq x y) Q E s := by
  obtain ⟨as, ra⟩ := kqd_in N 8 Dx hd
  obtain ⟨bs, rb⟩ := kqd_in N 8 Dy hd
  have l := kqd_lay 8 d hd
  have e : PyData.eqv (kqdP d) (kqdP d) = true := (kqd_eqv 8 d d 8 hd hd).mpr rfl
  refine ne_dataH ra rb ?_ ?_ hu (by rw [e]; exact h)
  · unfold SeqAt.shaped; rw [l.1, Bool.true_and]; exact decide_eq_true (Nat.le_trans l.2 (by decide))
  · unfold SeqAt.shaped; rw [l.1, Bool.true_and]; exact decide_eq_true (Nat.le_trans l.2 (by decide))
theorem num_ok (q : NumT) : kqdOk 8 (numD q) = true := rfl
theorem nums_dat_ok (qs : List NumT) : kqdOk 8 (.list (qs.map numD)) = true := by
  simp only [kqdOk, List.all_eq_true, List.mem_map]
  rintro d ⟨q, _, rfl⟩
  rfl
theorem alone_ne {prog : Program} {w : World} {A : Around} {E : Value → Shared → Prop} {s : Shared} {h₀ : Heap} {L l' D' D1 T2 : Addr} {e : Int} {v : Int × Int} {t0 t1 : Tok} {ys : List Value} {k : Nat} {rest R1 : Led} {Q : Value → Shared → Prop}
    (N : News h₀ L s.heap ((l', listOf #[Value.ref D'] 0) :: (D', { cls := .type "tuple", data := .seq #[Value.int 0 t0, Value.int e t1, Value.ref T2] }) :: (D1, listOf ys.toArray k) :: rest)) (hd1 : DatAll rest ys ([((0 : Int), e, v)].map numD)) (hT : DatIn R1 (.ref T2) (dPair v.1 v.2)) (hs : ∀ p ∈ R1, p ∈ rest)
    (hu : A.units + 64 < cLine) (h : Q (.bool false) s) : wpAny (model prog w) A (compareOp .NotEq (.ref D1) (.ref l')) Q E s := by
  refine dat_ne N (d := .list ([((0 : Int), e, v)].map numD)) (.list (.tail _ (.tail _ (.head _))) (hd1.mono fun p hp => .tail _ (.tail _ (.tail _ hp)))) (.list (vs := [Value.ref D']) (.head _) (.cons (.tuple (vs := [Value.int 0 t0, Value.int e t1, Value.ref T2]) (.tail _ (.head _)) (.cons (.int _ _) (.cons (.int _ _) (.cons (hT.mono fun p hp => .tail _ (.tail _ (.tail _ (hs p hp)))) .nil)))) .nil)) (nums_dat_ok _) hu h
theorem perm_d {α : Type} {a b c d x y z : α} {own tl R : List α} : ∀ p ∈ x :: y :: z :: R, p ∈ a :: b :: c :: (own ++ (d :: (tl ++ (x :: y :: z :: R)))) := by
  intro p hp; simp only [List.mem_cons, List.mem_append] at hp ⊢; rcases hp with h | h | h | h <;> simp [h]
theorem sub_d {α : Type} {d x y z : α} {own tl R : List α} : ∀ p ∈ R, p ∈ own ++ (d :: (tl ++ (x :: y :: z :: R))) := by
  intro p hp; simp [hp]
theorem sub_e {α : Type} {a b c d : α} {R : List α} : ∀ p ∈ R, p ∈ a :: b :: c :: d :: R := by
  intro p hp; simp [hp]
def shiftN (e : Int) (r : NumT) : NumT := (e + r.1, e + r.2.1, r.2.2)
section
variable {prog : Program} {w : World} {A : Around} {h₀ : Heap} {L : Addr} {m : Str → Option Value} {env : Env} {ct elt : PySem.Expr} {x : Str} {scope : Scope} {cl : List (Str × Addr)} {s : Shared} {S : Led → Prop} {Fin : List Value → Led → Prop}
theorem comp_filt {α : Type} {as : List α} {base : Led} {its : Array Value} (Rel : α → Value → Prop) (B : α → Bool) (f : α → Dat) (hsz : its.size = as.length) (hrel : ∀ (i : Nat) v, its[i]? = some v → ∃ a, as[i]? = some a ∧ Rel a v)
    (turn : ∀ a v ys I oI C oC D m₂ h tk (E' : Value → Shared → Prop), a ∈ as → Rel a v → LCg.NsObj oC m₂ → m₂ x = some v → Fr h₀ L h m → News h₀ L h ((I, oI) :: (C, oC) :: (D, LCg.lst ys) :: base) → LCg.Off3 I C D base → ((@Ne Nat I C) ∧ (@Ne Nat I D) ∧ (@Ne Nat C D)) →
      wpAny (model prog w) A (isTrue ct (compEnvC scope cl C env) (eval ct (compEnvC scope cl C env))) (fun ok s' => if ok = true then wpAny (model prog w) A (eval elt (compEnvC scope cl C env)) (LCg.CompEnd h₀ L m { s with heap := h, toks := tk } I oI C oC D (LCg.lst ys) S (fun y news' => news' = base ∧ B a = true ∧ DatIn base y (f a))) E' s'
        else LCg.CompEnd h₀ L m { s with heap := h, toks := tk } I oI C oC D (LCg.lst ys) S (fun _ news' => news' = base ∧ B a = false) Value.none s') E' { s with heap := h, toks := tk })
    (fin : ∀ ys, DatAll base ys ((as.filter B).map f) → Fin ys base) : LCt.CompRestT prog w A h₀ L m env ct elt x scope cl s S (fun i v => its[i]? = some v) Fin its.size 0 [] base := by
  have key : ∀ (j i : Nat) (ys : List Value), i + j = as.length → DatAll base ys (((as.take i).filter B).map f) → LCt.CompRestT prog w A h₀ L m env ct elt x scope cl s S (fun i v => its[i]? = some v) Fin j i ys base := by
    intro j
    induction j with
    | zero =>
      intro i ys hi hy
      rw [List.take_of_length_le (by k_extra "ar")] at hy
      exact LCt.CompRestT.zero (fin ys hy)
    | succ j ih =>
      intro i ys hi hy
      refine LCt.CompRestT.succ ?_
      intro v I oI C oC D m₂ h tk E' hv hC hx F N off ne
      obtain ⟨a, ha, hr⟩ := hrel i v hv
      have hs : as.take (i + 1) = as.take i ++ [a] := by rw [List.take_add_one, ha]; rfl
      refine wpAny_mono (turn a v ys I oI C oC D m₂ h tk E' (List.mem_of_getElem? ha) hr hC hx F N off ne) (fun b s₂ hq => ?_) fun _ _ e => e
      cases b with
      | true =>
        simp only [if_true] at hq ⊢
        refine wpAny_mono hq (fun y s₃ hr => ?_) fun _ _ e => e
        obtain ⟨h', tk', nw, e, F', N', off', hS, hn, hb, hd⟩ := hr
        subst hn
        refine ⟨h', tk', _, e, F', N', off', hS, ih (i + 1) _ (by k_extra "ar") ?_⟩
        rw [hs, List.filter_append, List.map_append, List.filter_cons, if_pos hb]
        exact hy.append (.one hd)
      | false =>
        simp only [Bool.false_eq_true, if_false] at hq ⊢
        obtain ⟨h', tk', nw, e, F', N', off', hS, hn, hb⟩ := hq
        subst hn
        refine ⟨h', tk', _, e, F', N', off', hS, ih (i + 1) _ (by k_extra "ar") ?_⟩
        rw [hs, List.filter_append, List.map_append, List.filter_cons, if_neg (by rw [hb]; decide)]
        simpa using hy
  rw [hsz]
  exact key as.length 0 [] (by k_extra "ar") .nil
end
theorem sub_f {α : Type} {d c x y z : α} {own tl R : List α} : ∀ p ∈ R, p ∈ d :: (own ++ (c :: (tl ++ (x :: y :: z :: R)))) := by
  intro p hp; simp [hp]
theorem sub_nN {h₀ h : Heap} {L : Addr} {d c x y z : Addr × Obj} {own tl R : Led} (_ : News h₀ L h (d :: (own ++ (c :: (tl ++ (x :: y :: z :: R)))))) : (∀ p ∈ R, p ∈ d :: (own ++ (c :: (tl ++ (x :: y :: z :: R))))) ∧ z ∈ d :: (own ++ (c :: (tl ++ (x :: y :: z :: R)))) :=
  ⟨fun p hp => by simp [hp], by simp⟩
theorem perm_g {α : Type} {a d c x y z : α} {own tl R : List α} : ∀ p ∈ y :: z :: R, p ∈ a :: d :: (own ++ (c :: (tl ++ (x :: y :: z :: R)))) := by
  intro p hp; simp only [List.mem_cons, List.mem_append] at hp ⊢; rcases hp with h | h | h <;> simp [h]
theorem nums_shift_aux (e : Int) : ∀ (n : Nat) (off : Int) (s : List Int), s.length ≤ n → nums (e + off) s = (nums off s).map (shiftN e) := by
  intro n
  induction n with
  | zero =>
    intro off s h
    have : s = [] := List.eq_nil_of_length_eq_zero (by k_extra "ar")
    subst this; rw [nums_nil, nums_nil]; rfl
  | succ n ih =>
    intro off s h
    by_cases h0 : 0 < s.length
    · by_cases hk : 0 < numLen s
      · rw [nums_yes h0 hk, nums_yes h0 hk, List.map_cons, Int.add_assoc, ih _ _ (by rw [List.length_drop]; k_extra "ar")]
        rfl
      · rw [nums_no h0 (by k_extra "ar"), nums_no h0 (by k_extra "ar"), Int.add_assoc, ih _ _ (by rw [List.length_drop]; k_extra "ar")]
    · have : s = [] := List.eq_nil_of_length_eq_zero (by k_extra "ar")
      subst this; rw [nums_nil, nums_nil]; rfl
theorem nums_ge_aux : ∀ (n : Nat) (off : Int) (s : List Int), s.length ≤ n → ∀ q ∈ nums off s, off ≤ q.1 := by
  intro n
  induction n with
  | zero =>
    intro off s h q hq
    have : s = [] := List.eq_nil_of_length_eq_zero (by k_extra "ar")
    subst this; rw [nums_nil] at hq; cases hq
  | succ n ih =>
    intro off s h q hq
    by_cases h0 : 0 < s.length
    · by_cases hk : 0 < numLen s
      · rw [nums_yes h0 hk] at hq
        rcases List.mem_cons.mp hq with rfl | hq
        · exact Int.le_refl _
        · have := ih _ _ (by rw [List.length_drop]; k_extra "ar") q hq
          k_extra "ar"
      · rw [nums_no h0 (by k_extra "ar")] at hq
        have := ih _ _ (by rw [List.length_drop]; k_extra "ar") q hq
        k_extra "ar"
    · have : s = [] := List.eq_nil_of_length_eq_zero (by k_extra "ar")
      subst this; rw [nums_nil] at hq; cases hq
theorem rest_aux (zs : List Int) : ∀ (n k : Nat), (zs.drop k).length ≤ n → ∀ q ∈ nums (k : Int) (zs.drop k), (nums (k : Int) (zs.drop k)).filter (fun r => decide (q.2.1 ≤ r.1)) = nums q.2.1 (zs.drop q.2.1.toNat) := by
  intro n
  induction n with
  | zero =>
    intro k hk q hq
    rw [List.eq_nil_of_length_eq_zero (Nat.le_zero.mp hk), nums_nil] at hq; cases hq
  | succ n ih =>
    intro k hk q hq
    by_cases h0 : 0 < (zs.drop k).length
    · have hq0 := nums_ok_aux zs _ k (Nat.le_refl _) q hq
      have hge := nums_ge_aux _ (k : Int) _ (Nat.le_refl _) q hq
      obtain ⟨q1, q2, q3, q4, q5⟩ := hq0
      by_cases hn : 0 < numLen (zs.drop k)
      · have hcast : (k : Int) + (numLen (zs.drop k) : Nat) = ((k + numLen (zs.drop k) : Nat) : Int) := (Int.natCast_add _ _).symm
        rw [nums_yes h0 hn] at hq ⊢
        rw [List.drop_drop, hcast] at hq ⊢
        rw [List.filter_cons, if_neg (by dsimp only; rw [decide_eq_true_eq]; k_extra "ar")]
        rcases List.mem_cons.mp hq with rfl | hq
        · dsimp only
          rw [Int.toNat_natCast]
          refine List.filter_eq_self.mpr (fun r hr => decide_eq_true ?_)
          exact nums_ge_aux _ _ _ (Nat.le_refl _) r hr
        · exact ih _ (by rw [List.length_drop] at hk ⊢; exact subK hk hn) q hq
      · have hcast : (k : Int) + 1 = ((k + 1 : Nat) : Int) := (Int.natCast_succ k).symm
        rw [nums_no h0 (Nat.eq_zero_of_not_pos hn), List.drop_drop, hcast] at hq ⊢
        exact ih _ (by rw [List.length_drop] at hk ⊢; exact subS hk) q hq
    · rw [List.eq_nil_of_length_eq_zero (Nat.eq_zero_of_not_pos h0), nums_nil] at hq; cases hq
theorem rest_law {zs : List Int} {i : Nat} {b e : Int} {v : Int × Int} (h : (nums 0 zs)[i]? = some (b, e, v)) : (nums 0 (zs.drop e.toNat)).map (shiftN e) = (nums 0 zs).filter (fun r => decide (e ≤ r.1)) := by
  have h1 := rest_aux zs _ 0 (Nat.le_refl _) (b, e, v) (by simpa using List.mem_of_getElem? h)
  have h2 := nums_shift_aux e _ 0 (zs.drop e.toNat) (Nat.le_refl _)
  rw [Int.add_zero] at h2
  rw [← h2]
  simpa using h1.symm
theorem rest_eq {zs : List Int} {i : Nat} {b e : Int} {v : Int × Int} (h : (nums 0 zs)[i]? = some (b, e, v)) : (nums 0 (zs.drop e.toNat)).map (fun r => numD (shiftN e r)) = ((nums 0 zs).filter (fun r => decide (e ≤ r.1))).map numD := by
  rw [← rest_law h, List.map_map]; rfl
theorem off_c {I c : Addr} {o o' : Obj} {R : Led} (h : ∀ p ∈ (c, o) :: R, p.1 ≠ I) : ∀ p ∈ (c, o') :: R, p.1 ≠ I := by
  intro p hp
  rcases List.mem_cons.mp hp with rfl | hp
  · exact h (c, o) (.head _)
  · exact h p (.tail _ hp)
theorem keep5 {a b c d e : Str} {v1 v2 v3 v4 v5 : Option Value} {u m : Str → Option Value} : ∀ z, [a, b, c, d, e].contains z = false → (if z = e then v1 else if z = d then v2 else if z = c then v3 else if z = b then v4 else if z = a then v5 else if [a, b, c, d, e].contains z = true then u z else m z) = m z := by
  intro z hz
  have hz' := hz
  simp only [List.contains_cons, List.contains_nil, Bool.or_false, Bool.or_eq_false_iff, beq_eq_false_iff_ne] at hz'
  obtain ⟨n1, n2, n3, n4, n5⟩ := hz'
  rw [if_neg n5, if_neg n4, if_neg n3, if_neg n2, if_neg n1, hz]
  simp
theorem nm_s {h₀ : Heap} {s : Shared} {h : Heap} {cur : Led} (_ : News h₀ s.heap.objs.size h cur) : ∃ s', s' = s := ⟨_, rfl⟩
theorem nm_d {h₀ h : Heap} {L dr : Addr} {o : Obj} {a b : Addr × Obj} {R : Led} (_ : News h₀ L h (a :: (dr, o) :: b :: R)) : ∃ d, d = dr := ⟨_, rfl⟩
theorem perm_h {α : Type} {a b c : α} {R : List α} : ∀ p ∈ c :: b :: R, p ∈ a :: b :: c :: R := by
  intro p hp; simp only [List.mem_cons] at hp ⊢; rcases hp with h | h | h <;> simp [h]
def pairD (q : Int × Int) : Dat := dPair q.1 q.2
structure WSt where
  at_ : Int
  ta : Tok
  us : List Value
  n : Nat
  tl : Led
  done : List (Int × Int)
  o : Obj
def WInv (zs : List Int) (R1 : Led) (dr c2 : Addr) (c : WSt) : Prop :=
  0 ≤ c.at_ ∧ c.at_ ≤ (zs.length : Int) ∧ DatAll (c.tl ++ R1) c.us (c.done.map pairD) ∧ (∀ p ∈ c.tl ++ R1, p.1 ≠ dr) ∧ (∀ p ∈ c.tl ++ R1, p.1 ≠ c2) ∧ c.done ++ runs c.at_ (zs.drop c.at_.toNat) = runs 0 zs ∧ (c.us.length : Int) ≤ c.at_ ∧ ∃ v, c.o.data = .cell v
theorem perm_i {α : Type} {a b c d : α} {tl R : List α} : ∀ p ∈ c :: d :: ((a :: tl) ++ R), p ∈ a :: b :: c :: d :: (tl ++ R) := by
  intro p hp; simp only [List.mem_cons, List.mem_append, List.cons_append] at hp ⊢; rcases hp with h | h | h | h | h <;> simp [h]
theorem dat_eq {prog : Program} {w : World} {A : Around} {E : Value → Shared → Prop} {s : Shared} {h₀ : Heap} {L : Addr} {cur : Led} {x y : Value} {d : Dat} {Q : Value → Shared → Prop}
    (N : News h₀ L s.heap cur) (Dx : DatIn cur x d) (Dy : DatIn cur y d) (hd : kqdOk 8 d = true) (hu : A.units + 64 < cLine) (h : Q (.bool true) s) : wpAny (model prog w) A (compareOp .Eq x y) Q E s := by
  obtain ⟨as, ra⟩ := kqd_in N 8 Dx hd
  obtain ⟨bs, rb⟩ := kqd_in N 8 Dy hd
  have l := kqd_lay 8 d hd
  have e : PyData.eqv (kqdP d) (kqdP d) = true := (kqd_eqv 8 d d 8 hd hd).mpr rfl
  refine eq_dataH ra rb ?_ ?_ hu (by rw [e]; exact h)
  · unfold SeqAt.shaped; rw [l.1, Bool.true_and]; exact decide_eq_true (Nat.le_trans l.2 (by decide))
  · unfold SeqAt.shaped; rw [l.1, Bool.true_and]; exact decide_eq_true (Nat.le_trans l.2 (by decide))
theorem pairs_ok (qs : List (Int × Int)) : kqdOk 8 (.list (qs.map pairD)) = true := by
  simp only [kqdOk, List.all_eq_true, List.mem_map]
  rintro d ⟨q, _, rfl⟩
  rfl
theorem run_rel {base : Led} : ∀ {us : List Value} {qs : List (Int × Int)}, RunAll base us qs → us.toArray.size = qs.length ∧ ∀ (i : Nat) v, us.toArray[i]? = some v → ∃ q, qs[i]? = some q ∧ RunIn base v q
  | _, _, .nil => ⟨rfl, fun i v h => by simp at h⟩
  | _, _, .cons a r => by
    obtain ⟨h1, h2⟩ := run_rel r
    refine ⟨by simpa using h1, fun i v h => ?_⟩
    cases i with
    | zero =>
      simp only [List.getElem?_toArray, List.getElem?_cons_zero, Option.some.injEq] at h
      subst h
      exact ⟨_, rfl, a⟩
    | succ i =>
      have := h2 i v (by simpa using h)
      simpa using this
theorem runs_len_aux : ∀ (n : Nat) (off : Int) (s : List Int), s.length ≤ n → (runs off s).length ≤ s.length := by
  intro n
  induction n with
  | zero =>
    intro off s h
    have : s = [] := List.eq_nil_of_length_eq_zero (by k_extra "ar")
    subst this; rw [runs_nil]; simp
  | succ n ih =>
    intro off s h
    by_cases h0 : 0 < s.length
    · by_cases hk : 0 < runLen s
      · rw [runs_yes h0 hk, List.length_cons]
        have h1 := ih (off + (runLen s : Nat)) (s.drop (runLen s)) (by rw [List.length_drop]; k_extra "ar")
        rw [List.length_drop] at h1
        have h2 := runLen_le s
        k_extra "ar"
      · rw [runs_no h0 (by k_extra "ar")]
        have h1 := ih (off + 1) (s.drop 1) (by rw [List.length_drop]; k_extra "ar")
        rw [List.length_drop] at h1
        k_extra "ar"
    · have : s = [] := List.eq_nil_of_length_eq_zero (by k_extra "ar")
      subst this; rw [runs_nil]; simp
theorem runs_len (s : List Int) : (runs 0 s).length ≤ s.length := runs_len_aux _ 0 s (Nat.le_refl _)
theorem fin_nN {h₀ h : Heap} {L : Addr} {d c x y : Addr × Obj} {own tl R : Led} (_ : News h₀ L h (d :: (own ++ (c :: (tl ++ (x :: y :: R)))))) : y ∈ d :: (own ++ (c :: (tl ++ (x :: y :: R)))) ∧ ∀ p ∈ R, p ∈ d :: (own ++ (c :: (tl ++ (x :: y :: R)))) :=
  ⟨by simp, fun p hp => by simp [hp]⟩
theorem met_frac {s : List Int} {p : Int × Int} (h : metVal s = some p) : p = fracV (s.take (numLen s)) := by
  unfold metVal at h
  split at h
  · cases h
  · split at h
    · cases h
    · exact (Option.some.inj h).symm
theorem told_aux : ∀ (n : Nat) (off : Int) (s : List Int), s.length ≤ n → Told (nums off s) (mets off s) := by
  intro n
  induction n with
  | zero =>
    intro off s h
    have : s = [] := List.eq_nil_of_length_eq_zero (by k_extra "ar")
    subst this; rw [nums_nil, mets_nil]; exact .nil
  | succ n ih =>
    intro off s h
    by_cases h0 : 0 < s.length
    · by_cases hk : 0 < numLen s
      · rw [nums_yes h0 hk, mets_yes h0 hk]
        exact .cons (fun p hp => met_frac hp) (ih _ _ (by rw [List.length_drop]; k_extra "ar"))
      · rw [nums_no h0 (by k_extra "ar"), mets_no h0 (by k_extra "ar")]
        exact ih _ _ (by rw [List.length_drop]; k_extra "ar")
    · have : s = [] := List.eq_nil_of_length_eq_zero (by k_extra "ar")
      subst this; rw [nums_nil, mets_nil]; exact .nil
theorem told_law (s : List Int) : Told (nums 0 s) (mets 0 s) := told_aux _ 0 s (Nat.le_refl _)
example : True := by
  w_top off
  trivial
--@nofill
/-! ## law -/
section
example : True := by ((k_with "all" => (exact fun p hp => Nat.ne_of_lt ((by assumption : ∀ p ∈ _, p.1 < _) p hp))); trivial)
local macro_rules | `(tactic| k_mem) => `(tactic| kcf_m)
local macro_rules | `(tactic| ktr_room) => `(tactic| exact of_decide_eq_true rfl)
local macro_rules | `(tactic| ktr_units) => `(tactic| exact of_decide_eq_true rfl)
local macro_rules | `(tactic| walk_at "exec For Name Call cons nil") => `(tactic| (k_here; (refine' For_invVF ?FF ?k1 ?k2 ?_ ?hs ?hE); (case FF => k_asm); (case k1 => exact rfl); (case k2 => exact rfl); (case hs => (intro _; rfl)); (case hE => passes_own); k_whole))
local macro_rules | `(tactic| walk_at "exec For Tuple Name cons nil") => `(tactic| (k_here; (refine' For_turns ?FF ?_ ?hs ?hE); (case FF => k_asm); (case hs => (intro _; rfl)); (case hE => passes_own); k_whole))
local macro_rules | `(tactic| walk_at $s:str) => do
  let t := Lean.Syntax.mkStrLit ("sn11 " ++ s.getString)
  `(tactic| k_extra $t)
example : True := by ((k_with "sn11 call type:range" => ((k_here; (rename Fr _ _ _ _ => F'); (rename News _ _ _ _ => N'); (with_unfolding_all refine range1_rows F' N' ?_); intro _ _ _ _ _ _ _ _ _))); trivial)
example : True := by ((k_with "sn11 pyIter ref" => ((refine hold ?_))); trivial)
example : True := by ((k_with "mine call builtin:list.append cons nil" => ((k_here; k_dflt (refine' append_K (by k_asm) (by k_asm) (by k_upd) ?_ (by (rw [List.size_toArray, sizeLine_eq]; k_extra "ar")); k_whole); intro _ _ _; (try k_sweep)))); trivial)
example : True := by ((k_with "sn11 compareOp Eq ref ref" => ((refine hold ?_))); trivial)
example : True := by ((k_with "sn11 compareOp NotEq ref ref" => ((refine hold ?_))); trivial)
example : True := by ((k_with "sn11 compareOp NotEq int int" => ((k_here; k_dflt (refine ne_no (by k_extra "ar") ?_)))); trivial)
example : True := by ((k_with "sn11 CompSrc" => ((refine hold ?_))); trivial)
example : True := by ((k_with "sn11 CompSrcT" => ((refine hold ?_))); trivial)
example : True := by ((k_with "sn11 CompEnd" => ((refine hold ?_))); trivial)
example : True := by ((k_with "sn11 call ref" => ((k_here; (with_reducible show wpAny _ _ (call (Value.ref 306) _ _) _ _ _); refine hold ?_))); trivial)
example : True := by ((k_with "hold" => ((first | (with_reducible show wpAny _ _ (call (Value.ref 351) _ _) _ _ _) | (with_reducible show wpAny _ _ (call (Value.ref 299) _ _) _ _ _) | (with_reducible show wpAny _ _ (call (Value.ref 313) _ _) _ _ _)); refine hold ?_)); trivial)
theorem ne_no {prog : Program} {w : World} {A : Around} {E : Value → Shared → Prop} {s : Shared} {a b : Int} {t u : Tok} {Q : Value → Shared → Prop} (e : a = b) (h : Q (.bool false) s) : wpAny (model prog w) A (compareOp .NotEq (.int a t) (.int b u)) Q E s :=
  PyProof.Rows.ne_int (by rw [show (a != b) = false by simp [e]]; exact h)
theorem nums_len_aux : ∀ (n : Nat) (off : Int) (s : List Int), s.length ≤ n → (nums off s).length ≤ s.length := by
  intro n
  induction n with
  | zero =>
    intro off s h
    have : s = [] := List.eq_nil_of_length_eq_zero (by k_extra "ar")
    subst this; rw [nums_nil]; simp
  | succ n ih =>
    intro off s h
    by_cases h0 : 0 < s.length
    · by_cases hk : 0 < numLen s
      · rw [nums_yes h0 hk, List.length_cons]
        have h1 := ih (off + (numLen s : Nat)) (s.drop (numLen s)) (by rw [List.length_drop]; k_extra "ar")
        rw [List.length_drop] at h1
        have h2 := runLen_pre (s := s)
        k_extra "ar"
      · rw [nums_no h0 (by k_extra "ar")]
        have h1 := ih (off + 1) (s.drop 1) (by rw [List.length_drop]; k_extra "ar")
        rw [List.length_drop] at h1
        k_extra "ar"
    · have : s = [] := List.eq_nil_of_length_eq_zero (by k_extra "ar")
      subst this; rw [nums_nil]; simp
theorem nums_len (s : List Int) : (nums 0 s).length ≤ s.length := nums_len_aux _ 0 s (Nat.le_refl _)
theorem ints_of_dat {news : Led} : ∀ {xs : List Int} {vs : List Value}, DatAll news vs (xs.map Dat.int) → IntsAre vs xs
  | [], _, h => by cases h; exact .nil
  | x :: xs, _, h => by
    cases h with
    | cons a r => cases a with
      | int _ t => exact .cons x t (ints_of_dat r)
theorem ints_rel {xs : List Int} {vs : List Value} (h : IntsAre vs xs) : vs.toArray.size = xs.length ∧ ∀ (i : Nat) v, vs.toArray[i]? = some v → ∃ a, xs[i]? = some a ∧ ∃ t, v = Value.int a t := by
  have hd := tl_dat (news := []) h
  obtain ⟨h1, h2⟩ := dat_rel (f := Dat.int) hd
  refine ⟨h1, fun i v hv => ?_⟩
  obtain ⟨a, ha, hb⟩ := h2 i v hv
  cases hb with
  | int _ t => exact ⟨a, ha, t, rfl⟩
theorem perm_a {α : Type} {a b c d e : α} {R : List α} : ∀ p ∈ [a, b, d, e], p ∈ a :: b :: (R ++ [c, d, e]) := by
  intro p hp; simp only [List.mem_cons, List.mem_append, List.not_mem_nil, or_false] at hp ⊢; rcases hp with h | h | h | h <;> simp [h]
theorem perm_b {α : Type} {a b d e : α} {R : List α} : ∀ p ∈ a :: b :: d :: e :: R, p ∈ R ++ [a, b, d, e] := by
  intro p hp; simp only [List.mem_cons, List.mem_append, List.not_mem_nil, or_false] at hp ⊢; rcases hp with h | h | h | h | h <;> simp [h]
theorem rows_off {h₀ h : Heap} {L l D c1 c2 : Addr} {o o1 o2 o3 : Obj} {dL : Led} (_ : News h₀ L h ((l, o) :: (D, o1) :: (c2, o2) :: (c1, o3) :: dL)) (g5 : @LT.lt Nat _ D l) (g1 : @LT.lt Nat _ c2 l) (g2 : @LT.lt Nat _ c1 l) (f1 : ∀ p ∈ dL, p.1 ≠ l) : ∀ p ∈ (D, o1) :: (c2, o2) :: (c1, o3) :: dL, p.1 ≠ l :=
  List.forall_mem_cons.mpr ⟨Nat.ne_of_lt g5, List.forall_mem_cons.mpr ⟨Nat.ne_of_lt g1, List.forall_mem_cons.mpr ⟨Nat.ne_of_lt g2, f1⟩⟩⟩
theorem code_off {I C D l : Addr} {oI oC oD o : Obj} {R : Led} (h : LCg.Off3 I C D ((l, o) :: R)) (h2 : ∀ p ∈ R, p.1 ≠ l) : ∀ p ∈ (I, oI) :: (C, oC) :: (D, oD) :: R, p.1 ≠ l :=
  List.forall_mem_cons.mpr ⟨Ne.symm h.1.1, List.forall_mem_cons.mpr ⟨Ne.symm h.1.2.1, List.forall_mem_cons.mpr ⟨Ne.symm h.1.2.2, h2⟩⟩⟩
theorem perm_c {α : Type} {a b c d : α} {R : List α} : ∀ p ∈ d :: a :: b :: c :: R, p ∈ a :: b :: c :: d :: R := by
  intro p hp; simp only [List.mem_cons] at hp ⊢; rcases hp with h | h | h | h | h <;> simp [h]
theorem perm_c2 {α : Type} {a b c d : α} {R : List α} : ∀ p ∈ a :: b :: c :: d :: R, p ∈ d :: a :: b :: c :: R := by
  intro p hp; simp only [List.mem_cons] at hp ⊢; rcases hp with h | h | h | h | h <;> simp [h]
theorem law_main : PySem.Challenge.rw_pq1302_01.Holds := by
  refine hd ?_
  k_go0
  all_goals (try k_fold)
  rename Fr _ _ _ _ => F0
  have F1 : Fr _ _ _ (fun y => if y = Str.ofString "script" then some (Value.ref _) else none) := F0
  clear F0
  k_steps
  unfold Hold
  rename News _ _ _ _ => nN
  rename Fr _ _ _ _ => nF
  rename IntsAre _ (List.take 40 _) => hc1
  rename List.length (List.take 40 _) = _ => hc2
  k_dflt (refine LCg.CompSrc.ledger rfl nF nN (.head _) (by rw [(ints_rel hc1).1, sizeLine_eq, hc2]; k_extra "ar") ?_)
  intro g
  refine comp_dat (fun q v => ∃ t, v = Value.int q t) Dat.int (fun e => .inr ⟨_, List.mem_append_right _ (.head _), rfl, _, rfl⟩) (ints_rel hc1).1 (ints_rel hc1).2 (fun q v cur ys I oI C oC D m₂ h tk E' hq hr hsub hS hC hx F N off ne => ?_) ?_
  · obtain ⟨t, rfl⟩ := hr
    clear nF nN
    k_steps
    unfold Hold
    exact LCg.CompEnd.intro (by assumption) (by assumption) _ (fun _ h => h) off (hS []) ⟨[], rfl, .int _ _⟩
  · intro ys own hd1
    clear nF nN
    have hy1 := ints_of_dat hd1
    k_steps
    unfold Hold
    rename Fr _ _ _ _ => nF
    rename News _ _ _ _ => nN
    have nN2 := cb_drop nN (perm_a (R := own))
    rename LCg.Off1 _ (own ++ _) => o1
    rename _ ∧ AllLt _ (own ++ _) => l9
    have g1 : @LT.lt Nat _ _ _ := ktn_ltOf l9.2 _ (List.mem_append_right _ (.tail _ (.head _)))
    have g2 : @LT.lt Nat _ _ _ := ktn_ltOf l9.2 _ (List.mem_append_right _ (.tail _ (.tail _ (.head _))))
    have g3 := off1_mem o1 _ (List.mem_append_right _ (.tail _ (.head _)))
    have g4 := off1_mem o1 _ (List.mem_append_right _ (.tail _ (.tail _ (.head _))))
    have g5 := l9.1
    dsimp only at g1 g2 g3 g4
    k_dflt (refine' Spec.use ?zB1 nF ?zX1 nN2 ?zT1 ?zK1 (law_data_c _ _) ?zd1 ?zu1 ?_)
    (case zB1 => k_asm)
    (case zX1 => k_asm)
    (case zT1 => k_asm)
    (case zK1 => first | exact rfl | assumption)
    (case zd1 => first | ktr_room | exact of_decide_eq_true rfl)
    (case zu1 => first | ktr_units | exact of_decide_eq_true rfl)
    k_whole
    rintro v9 nx9 h9 tk9 ⟨x, dL, hD, hap⟩ F2 N2
    clear nF nN nN2
    replace N2 := cb_drop N2 (perm_b (R := dL))
    have f1 := fun p hp => hap p hp _ (.head _)
    have f2 := fun p hp => hap p hp _ (.tail _ (.head _))
    have f3 := fun p hp => hap p hp _ (.tail _ (.tail _ (.head _)))
    have f4 := fun p hp => hap p hp _ (.tail _ (.tail _ (.tail _ (.head _))))
    dsimp only at f1 f2 f3 f4
    clear hap hd1 o1 l9
    k_steps
    unfold Hold
    rename Fr _ _ _ _ => nF
    rename News _ _ _ _ => nN
    k_dflt (refine' Spec.use ?zB2 nF ?zX2 (cb_drop nN (fun p hp => List.Mem.tail _ hp)) ?zT2 ?zK2 (law_next_c _ _ _ _ _ _ _ _ _ _ ?zr2 ⟨_, _, .head _, hy1⟩ ?zl2 ?za2 ?zb2 ?zc2 ?ze2) ?zd2 ?zu2 ?_)
    (case zB2 => k_asm)
    (case zX2 => k_asm)
    (case zT2 => k_asm)
    (case zK2 => first | exact rfl | assumption)
    (case zr2 => exact List.forall_mem_cons.mpr ⟨Nat.ne_of_lt g5, List.forall_mem_cons.mpr ⟨Nat.ne_of_lt g1, List.forall_mem_cons.mpr ⟨Nat.ne_of_lt g2, f1⟩⟩⟩)
    (case zl2 => exact Nat.lt_of_le_of_lt (List.length_take_le 40 _) (by decide))
    (case za2 => k_extra "ar")
    (case zb2 => k_extra "ar")
    (case zc2 => k_extra "ar")
    (case ze2 => k_extra "ar")
    (case zd2 => first | ktr_room | exact of_decide_eq_true rfl)
    (case zu2 => first | ktr_units | exact of_decide_eq_true rfl)
    k_whole
    rintro v9 nx9 h9 tk9 ⟨xn, t9, u9, n9, b1, b2⟩ F3 N3
    have hr1 := rows_off N3 g5 g1 g2 f1
    clear nF nN
    k_steps
    unfold Hold
    rename News _ _ _ _ => nN
    rename Fr _ _ _ _ => nF
    rename IsRange _ _ _ _ _ _ _ _ => hrg
    k_dflt (refine LCg.CompSrc.range (n := (xn - 0).toNat) rfl nF nN hrg (small_one (by k_extra "ar") (by k_extra "ar") (by k_extra "ar") (by k_extra "ar")) (rangeSize_nat _ _) (by rw [sizeLine_eq]; k_extra "ar") ?_)
    intro g
    refine comp_state (fun i ys cur => CodeSt _ _ _ i ys cur) ?_ ?_ ⟨[], 0 + 1, _, _, .nil, rfl, List.forall_mem_nil _, by k_extra "ar", by k_extra "ar"⟩
    · rintro i us cur v I oI C oC D m₂ h tk E' hi ⟨zs, k, tk2, n2, hz, hl, hA, hk0, hk1⟩ hP hC hx F N off ne
      clear nF nN
      k_steps
      unfold Hold
      rename News _ _ _ _ => nN
      rename Fr _ _ _ _ => nF
      k_dflt (refine' Spec.use ?zB3 nF ?zX3 (cb_drop nN perm_c) ?zT3 ?zK3 (law_code_c _ _ _ _ k _ _ _ (code_off off hr1) ⟨_, _, .tail _ (.tail _ (.tail _ (.head _))), hy1⟩ ?zl3 hk0 ?zc3) ?zd3 ?zu3 ?_)
      (case zB3 => k_asm)
      (case zX3 => k_asm)
      (case zT3 => k_asm)
      (case zK3 => first | exact rfl | assumption)
      (case zl3 => exact Nat.lt_of_le_of_lt (List.length_take_le 40 _) (by decide))
      (case zc3 => k_extra "ar")
      (case zd3 => first | ktr_room | exact of_decide_eq_true rfl)
      (case zu3 => first | ktr_units | exact of_decide_eq_true rfl)
      k_whole
      rintro v9 nx9 h9 tk9 ⟨c, k', t9, u9, n3, hcA, hk2, hk3⟩ F4 N4
      clear nF nN
      k_steps
      unfold Hold
      rename News _ _ _ _ => nN
      refine LCg.CompEnd.intro (by assumption) nN _ perm_c2 ⟨off.1, off.2⟩ trivial ⟨zs ++ [c], k', _, _, hz.append (.cons c _ .nil), by rw [List.length_append, hl]; rfl, fun d hd => (List.mem_append.mp hd).elim (hA d) (fun h => by rw [List.mem_singleton.mp h]; exact hcA), by k_extra "ar", by k_extra "ar"⟩
    · rintro us cur ⟨zs, k, tk2, n2, hz, hl, hA, hk0, hk1⟩
      clear nF nN
      k_steps
      unfold Hold
      rename News _ _ _ (_ :: _ :: _ :: _ :: _ :: _ :: dL) => nN
      rename _ ∧ _ ∧ _ ∧ _ ∧ LCg.Off1 _ dL => off
      rename _ ∧ _ ∧ _ ∧ _ ∧ _ ∧ AllLt _ dL => lw
      obtain ⟨R0, N0, ht, hw, hD0, hc0⟩ := law_pack nN hz hD off.2.2.1 lw.2.2.2.1 f3
      have hz10 : zs.length < 10 := by k_extra "ar"
      clear nN off lw hD hz f1 f2 f3 f4 g1 g2 g3 g4 g5 hr1 hy1
      k_steps
      unfold Hold
      rename Fr _ _ _ _ => nF
      rename IsRange _ _ _ _ _ _ _ _ => hrg
      rename News _ _ _ _ => nN
      k_dflt (refine iter_rangeUnr (n := ((zs.length : Int) - 0).toNat) (by rfl) hrg (small_one (by k_extra "ar") (by k_extra "ar") (by k_extra "ar") (by k_extra "ar")) (rangeSize_nat _ _) nF nN (fun I hI => ?_))
      refine range_inv [] (fun _ nx => nx = (_, _) :: R0) ?_ ?_ _ 0 _ _ (Nat.zero_add _) rfl (fun p hp => Nat.ne_of_lt (hI p hp)) (fun _ _ => rfl)
      · rintro i t u h tk oI nx hi rfl hI2 F2 N2
        clear nF nN
        (try k_unmd); (try k_fold)
        k_steps
        all_goals (unfold Hold; rename News _ _ _ _ => nN; exact foend (_ :: R0) (by assumption) (cb_drop nN (by kcf_all)) hI2 keepR rfl)
      · rintro u h tk nx rfl F2 N2
        clear nF nN
        (try k_unmd); (try k_fold)
        k_steps
        unfold Hold
        rename Fr _ _ _ _ => nF
        rename News _ _ _ _ => nN
        rename DatAll _ _ ((nums 0 zs).map numD) => dq
        rename DatAll _ _ ((mets 0 zs).map metD) => dm
        k_dflt (refine LCg.CompSrc.ledger rfl nF nN (.head _) (by rw [(dat_rel dq).1, sizeLine_eq]; have := nums_len zs; k_extra "ar") ?_)
        intro g
        refine comp_dat (fun q v => DatIn _ v (numD q)) numD (fun e => .inr ⟨_, List.mem_append_right _ (.head _), rfl, _, rfl⟩) (dat_rel dq).1 (dat_rel dq).2 (fun q v cur ys I oI C oC D m₂ h tk E' hq hr hsub hS hC hx F N off ne => ?_) ?_
        · obtain ⟨T, T2, t1, t2, u1, u2, n1, n2, hm, hm2⟩ := numD_in hr
          have hm3 := hsub _ (.tail _ hm)
          clear nF nN
          k_steps
          unfold Hold
          exact LCg.CompEnd.intro (by assumption) (by assumption) _ (fun _ h => h) off (hS []) ⟨[], rfl, hr.mono (fun p hp => hsub _ (.tail _ hp))⟩
        · intro ys own hd1
          clear nF nN
          k_steps
          unfold Hold
          rename News _ _ _ _ => nN
          rename Fr _ _ _ _ => nF
          obtain ⟨R1, N1, hR1, hq1, hc1⟩ := led_pack2 nN (by assumption) hc0
          have dq2 : DatAll R1 ys ((nums 0 zs).map numD) := dall_seq (fun p hp hs => hq1 p (.tail _ hp) hs) hd1
          have hm2 := hq1 _ (.head _) rfl
          have dm2 : DatAll R1 _ ((mets 0 zs).map metD) := dall_seq (fun p hp hs => hq1 p (.tail _ (List.mem_append_right _ (.tail _ (List.mem_append_right _ (.tail _ hp))))) hs) dm
          have hm3 := hq1 _ (.tail _ (List.mem_append_right _ (.tail _ (List.mem_append_right _ (.head _))))) rfl
          k_dflt (refine' Spec.use ?zB5 nF ?zX5 N1 ?zT5 ?zK5 (is_told_c _ _ _ _ _ _ _ _ (nums 0 zs) (mets 0 zs) (.tail _ hm2) (.tail _ hm3) (dq2.mono (fun p hp => .tail _ hp)) (dm2.mono (fun p hp => .tail _ hp)) (told_law zs) ?zl5) ?zd5 ?zu5 ?_)
          (case zB5 => k_asm)
          (case zX5 => k_asm)
          (case zT5 => k_asm)
          (case zK5 => first | exact rfl | assumption)
          (case zl5 => exact Nat.lt_of_le_of_lt (nums_len zs) hz10)
          (case zd5 => ktr_room)
          (case zu5 => ktr_units)
          k_whole
          rintro v9 nx9 h9 tk9 ⟨rfl, rfl⟩ F5 N5
          have ht1 := ht.mono hR1
          have hw1 := hw.mono hR1
          have hD1 := hD0.mono hR1
          clear nF nN N1 hR1 hq1 dm2 hm3 hd1 dq dm ht hw hD0 hc0
          k_steps
          unfold Hold
          rename News _ _ _ _ => nN
          rename Fr _ _ _ _ => nF
          k_dflt (refine' iter_listTurns ?yh6 ?yF6 ?yN6 (.tail _ hm2) ?yc6 ?yd6 ?_)
          (case yh6 => with_unfolding_all rfl)
          (case yF6 => exact nF)
          (case yN6 => exact nN)
          (case yc6 => exact rfl)
          (case yd6 => exact rfl)
          k_whole
          intro J hJ
          refine items_inv (keep := [(_, LCg.lst ys)]) _ [Str.ofString "begin", Str.ofString "value", Str.ofString "piece", Str.ofString "alone", Str.ofString "rest"] (fun _ nx => CellSt _ R1 nx) (fun _ nx g => by obtain ⟨o2, v2, -⟩ := g; exact ⟨.tail _ hm2, trivial⟩) ?_ ?_ _ 0 _ _ rfl (Nat.zero_add _) ⟨_, _, by assumption⟩ (fun p hp => Nat.ne_of_lt (hJ p hp)) (fun _ _ => rfl)
          · rintro i a9 v9 u h tk oI nx ha hav ⟨o2, v2, ho2⟩ hI2 F2 N2
            clear nF nN hJ
            obtain ⟨⟨qb, qe, qv⟩, hq, hdq⟩ := items_dat dq2 ha hav
            obtain ⟨hv, hP0, hP1, hP2⟩ := piece_ok (nums_ok hq)
            obtain ⟨q1, q2, q3, -, -⟩ := nums_ok hq
            dsimp only at q1 q2 q3
            subst hv
            obtain ⟨T, T2, t1, t2, u1, u2, n1, n2, hm4, hm5⟩ := numD_in hdq
            dsimp only at hm4 hm5
            have hI3 : @Ne Nat _ _ := hI2 _ (.head _)
            dsimp only at hI3
            (try k_unmd); (try k_fold)
            k_steps
            unfold Hold
            rename Fr _ _ _ _ => nF
            rename News _ _ _ _ => nN
            rename DatAll _ _ ((nums 0 (List.take _ _)).map numD) => dq
            rw [hP2] at dq
            k_dflt (refine LCg.CompSrc.ledger rfl nF nN (.head _) (by rw [(dat_rel dq).1, sizeLine_eq]; simp) ?_)
            intro g
            refine comp_dat (fun q v => DatIn _ v (numD q)) numD (fun e => .inr ⟨_, List.mem_append_right _ (.head _), rfl, _, rfl⟩) (dat_rel dq).1 (dat_rel dq).2 (fun q v cur ys I oI C oC D m₂ h tk E' hq hr hsub hS hC hx F N off ne => ?_) ?_
            · obtain ⟨T, T2, t1, t2, u1, u2, n1, n2, hm, hm2⟩ := numD_in hr
              have hm3 := hsub _ (.tail _ hm)
              clear nF nN
              k_steps
              unfold Hold
              exact LCg.CompEnd.intro (by assumption) (by assumption) _ (fun _ h => h) off (hS []) ⟨[], rfl, hr.mono (fun p hp => hsub _ (.tail _ hp))⟩
            · intro ys own hd1
              clear nF nN
              k_steps
              unfold Hold
              rename News _ _ _ _ => nN
              have hT2 : DatIn R1 (.ref T2) (dPair _ _) := .tuple (vs := [_, _]) hm5 (.cons (.int _ _) (.cons (.int _ _) .nil))
              k_dflt (refine alone_ne nN hd1 hT2 sub_d (by exact of_decide_eq_true rfl) ?_)
              replace nN := cb_drop nN perm_d
              clear hd1 dq
              k_steps
              unfold Hold
              rename News _ _ _ _ => nN
              k_dflt (refine dat_ne nN (d := dPair _ _) (.tuple (vs := [_, _]) (.head _) (.cons (.int _ _) (.cons (.int _ _) .nil))) (hT2.mono sub_e) rfl (by exact of_decide_eq_true rfl) ?_)
              replace nN := cb_drop nN (fun p hp => List.Mem.tail _ (List.Mem.tail _ hp))
              have hdl : (List.drop qe.toNat zs).length < 10 := by rw [List.length_drop]; k_extra "ar"
              have hdA : ∀ c ∈ List.drop qe.toNat zs, c ∈ Alpha := fun c hc => hA c (List.mem_of_mem_drop hc)
              k_steps
              unfold Hold
              rename Fr _ _ _ _ => nF
              rename News _ _ _ _ => nN
              rename DatAll _ _ ((nums 0 (List.drop _ _)).map numD) => dq
              k_dflt (refine LCg.CompSrc.ledger rfl nF nN (.head _) (by rw [(dat_rel dq).1, sizeLine_eq]; have := nums_len (List.drop qe.toNat zs); k_extra "ar") ?_)
              intro g
              refine comp_dat (fun q v => DatIn _ v (numD q)) (fun r => numD (shiftN qe r)) (fun e => .inr ⟨_, List.mem_append_right _ (.head _), rfl, _, rfl⟩) (dat_rel dq).1 (dat_rel dq).2 (fun q v cur ys I oI C oC D m₂ h tk E' hq hr hsub hS hC hx F N off ne => ?_) ?_
              · obtain ⟨T, T2, t1, t2, u1, u2, n1, n2, hm, hm2⟩ := numD_in hr
                have hm3 := hsub _ (.tail _ hm)
                have hm4 := hsub _ (.tail _ hm2)
                have hc5 := hsub _ (.tail _ (List.mem_append_right _ (.tail _ (.tail _ (.head _)))))
                clear nF nN
                k_steps
                unfold Hold
                exact comp_end1 (by assumption) (by assumption) off (by assumption) hS (.tuple (vs := [_, _, _]) (.head _) (.cons (.int _ _) (.cons (.int _ _) (.cons (.tuple (vs := [_, _]) (.tail _ hm4) (.cons (.int _ _) (.cons (.int _ _) .nil))) .nil))))
              · intro ys9 own hd1
                clear nF nN
                k_steps
                unfold Hold
                rename Fr _ _ _ _ => nF
                rename News _ _ _ _ => nN
                obtain ⟨hb9, hz9⟩ := sub_nN nN (R := R1)
                have hsr := hb9 _ hm2
                k_dflt (refine LCt.CompSrcT.ledger rfl nF nN hsr (by rw [(dat_rel dq2).1, sizeLine_eq]; have := nums_len zs; k_extra "ar") ?_)
                intro g
                refine comp_filt (fun q v => DatIn R1 v (numD q)) (fun r => decide (qe ≤ r.1)) numD (dat_rel dq2).1 (dat_rel dq2).2 (fun q v ys I oI C oC D m₂ h tk E' hq hr hC hx F N off ne => ?_) ?_
                · obtain ⟨T, T2, t1, t2, u1, u2, n1, n2, hm, hm2⟩ := numD_in hr
                  have hm3 := hb9 _ hm
                  clear nF nN
                  k_steps
                  all_goals (try unfold Hold)
                  · exact LCg.CompEnd.intro (by assumption) (by assumption) _ (fun _ h => h) off (.inr ⟨_, hsr, rfl, _, rfl⟩) ⟨rfl, decide_eq_true (by assumption), hr.mono hb9⟩
                  · exact LCg.CompEnd.intro (by assumption) (by assumption) _ (fun _ h => h) off (.inr ⟨_, hsr, rfl, _, rfl⟩) ⟨rfl, decide_eq_false (by assumption)⟩
                · intro ys8 hd8
                  clear nF nN
                  k_steps
                  unfold Hold
                  rename News _ _ _ _ => nN
                  rw [rest_eq hq] at hd1
                  k_dflt (refine dat_ne nN (d := .list (((nums 0 zs).filter (fun r => decide (qe ≤ r.1))).map numD)) (.list (.tail _ (.head _)) (hd1.mono fun p hp => .tail _ (.tail _ hp))) (.list (.head _) (hd8.mono fun p hp => .tail _ hp)) (nums_dat_ok _) (by exact of_decide_eq_true rfl) ?_)
                  replace nN := cb_drop nN perm_g
                  clear hd8 hd1 hb9 hz9 hsr
                  k_steps
                  unfold Hold
                  rename News _ _ _ _ => nN
                  exact foend (_ :: R1) (by assumption) nN (off_c hI2) keep5 ⟨_, _, by assumption⟩
          · rintro u h tk nx ⟨o2, v2, ho2⟩ F2 N2
            clear nF nN
            (try k_unmd); (try k_fold)
            k_steps
            unfold Hold
            rename Fr _ _ _ _ => lF'
            rename News _ _ _ (_ :: _ :: _ :: R1) => lN'
            obtain ⟨s9, hs9⟩ := nm_s lN'
            subst hs9
            obtain ⟨dr, hdr⟩ := nm_d lN'
            subst hdr
            rename _ ∧ AllLt dr R1 => l9
            have hdr := ktn_ltOf l9.2
            have hdc := l9.1
            k_dflt (refine ksw_while (σ := WSt) (fun c => (s9.heap.objs.size + 1 + 1, c.o) :: (dr, listOf c.us.toArray c.n) :: (c.tl ++ R1)) (fun c => [(Str.ofString "at", .int c.at_ c.ta)]) (fun _ => True) [] (WInv zs R1 dr (s9.heap.objs.size + 1 + 1)) (fun c => ((zs.length : Int) - c.at_).toNat) ⟨0, _, [], 0, [], [], o2⟩ lF' (cb_drop lN' perm_h) trivial (List.forall_mem_cons.mpr ⟨rfl, List.forall_mem_nil _⟩) ⟨Int.le_refl _, by dsimp only; k_extra "ar", .nil, fun p hp => Nat.ne_of_lt (hdr p hp), hc1, rfl, by dsimp only; simp, _, ho2⟩ ?_)
            rintro ⟨at_, ta, us9, n9, tl9, done9, o9⟩ u9 h9 tk9 - ⟨p1, p2, p3, p4, p5, p6, p7, v9, p8⟩ F3 N3
            dsimp only at p1 p2 p3 p4 p5 p6 p7 p8 F3 N3 ⊢
            simp only [kstB, List.contains_nil, Bool.false_eq_true, if_false] at F3
            clear lF' lN'
            have ht3 := ht1.mono (fun p hp => List.mem_append_right tl9 hp)
            (try k_unmd); (try k_fold)
            k_steps
            all_goals (try unfold Hold)
            · rename at_ < at_ + _ => ha9
              have k0 : 0 < runLen (zs.drop at_.toNat) := by k_extra "ar"
              have k1 : 0 < (zs.drop at_.toNat).length := by rw [List.length_drop]; k_extra "ar"
              have k2 := runLen_le (zs.drop at_.toNat)
              rw [List.length_drop] at k2
              rename News _ _ _ (_ :: _ :: _ :: _ :: (tl9 ++ R1)) => nN
              rename _ ∧ _ ∧ _ ∧ AllLt _ (tl9 ++ R1) => lD
              rw [List.push_toArray] at nN
              refine ksw_end ⟨at_ + (runLen (zs.drop at_.toNat) : Nat), _, us9 ++ [.ref _], n9 + 1, (_, _) :: tl9, done9 ++ [(at_, at_ + (runLen (zs.drop at_.toNat) : Nat))], _⟩ (by assumption) nN perm_i trivial (List.forall_mem_cons.mpr ⟨rfl, List.forall_mem_nil _⟩) (by (try dsimp +zetaDelta only); ksw_same) ?_ ?_
              · refine ⟨?_, ?_, ?_, List.forall_mem_cons.mpr ⟨Nat.ne_of_gt lD.2.2.1, p4⟩, List.forall_mem_cons.mpr ⟨Nat.ne_of_gt lD.2.1, p5⟩, ?_, ?_, _, by assumption⟩
                · dsimp only; k_extra "ar"
                · dsimp only; k_extra "ar"
                · dsimp only
                  rw [List.map_append]
                  exact .append (p3.mono (fun p hp => .tail _ hp)) (.one (.tuple (vs := [_, _]) (.head _) (.cons (.int _ _) (.cons (.int _ _) .nil))))
                · dsimp only
                  rw [List.append_assoc, ← p6, runs_yes k1 k0, List.drop_drop, show at_.toNat + runLen (zs.drop at_.toNat) = (at_ + (runLen (zs.drop at_.toNat) : Nat)).toNat by k_extra "ar"]; rfl
                · dsimp only
                  rw [List.length_append]; simp only [List.length_cons, List.length_nil]; k_extra "ar"
              · dsimp only; k_extra "ar"
            · have k0 : runLen (zs.drop at_.toNat) = 0 := by k_extra "ar"
              have k1 : 0 < (zs.drop at_.toNat).length := by rw [List.length_drop]; k_extra "ar"
              refine ksw_end ⟨at_ + 1, _, us9, n9, tl9, done9, _⟩ (by assumption) (by assumption) (fun p hp => List.mem_cons_of_mem _ hp) trivial (List.forall_mem_cons.mpr ⟨at_fix2 (a := at_ + 1) (e := at_ + (runLen (zs.drop at_.toNat) : Nat)) (by k_extra "ar"), List.forall_mem_nil _⟩) (by (try dsimp +zetaDelta only); ksw_same) ?_ ?_
              · refine ⟨?_, ?_, p3, p4, p5, ?_, ?_, _, by assumption⟩
                · dsimp only; k_extra "ar"
                · dsimp only; k_extra "ar"
                · dsimp only
                  rw [← p6, runs_no k1 k0, List.drop_drop, show at_.toNat + 1 = (at_ + 1).toNat by k_extra "ar"]
                · dsimp only; k_extra "ar"
              · dsimp only; k_extra "ar"
            · have k1 : zs.drop at_.toNat = [] := List.drop_eq_nil_of_le (by k_extra "ar")
              rw [k1, runs_nil, List.append_nil] at p6
              rename Fr _ _ _ _ => nF
              rename News _ _ _ _ => nN
              rename RunAll _ _ _ => dr9
              k_dflt (refine LCg.CompSrc.ledger rfl nF nN (.head _) (by rw [(run_rel dr9).1, sizeLine_eq]; have := runs_len zs; k_extra "ar") ?_)
              intro g
              refine comp_dat (fun q v => RunIn _ v q) pairD (fun e => .inr ⟨_, List.mem_append_right _ (.head _), rfl, _, rfl⟩) (run_rel dr9).1 (run_rel dr9).2 (fun q v cur ys I oI C oC D m₂ h tk E' hq hr hsub hS hC hx F N off ne => ?_) ?_
              · obtain ⟨pp, dd, nn, e1, e2, e3, t1, t2, t3, ta9, tb9, v39, rfl, hm, hm2⟩ := hr
                have hm3 := hsub _ (.tail _ hm)
                have hm4 := hsub _ (.tail _ hm2)
                clear nF nN
                k_steps
                unfold Hold
                exact comp_end1 (by assumption) (by assumption) off (by assumption) hS (.tuple (vs := [_, _]) (.head _) (.cons (.int _ _) (.cons (.int _ _) .nil)))
              · intro ys9 own hd1
                clear nF nN
                k_steps
                unfold Hold
                rename News _ _ _ _ => nN
                obtain ⟨m9, sb9⟩ := fin_nN (R := tl9 ++ R1) nN
                rw [p6] at p3
                k_dflt (refine dat_eq nN (d := .list ((runs 0 zs).map pairD)) (.list (.head _) (hd1.mono fun p hp => .tail _ hp)) (.list m9 (p3.mono sb9)) (pairs_ok _) (by exact of_decide_eq_true rfl) ?_)
                k_steps
                unfold Hold
                k_dflt (refine tl_eq nN (ht1.mono fun p hp => sb9 p (List.mem_append_right _ hp)) (hw1.mono fun p hp => sb9 p (List.mem_append_right _ hp)) (by exact of_decide_eq_true rfl) ?_)
                rw [decide_eq_true rfl]
                k_steps
end
example : True := by first | walk1 | trivial
end Mine
theorem PySem.Challenge.cw_pq1302_01_holds : PySem.Challenge.rw_pq1302_01.Holds := by
  exact Mine.law_main

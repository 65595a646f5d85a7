import PyProof.Rows.All
import Wide.All
import OpenK.AllK
import Wide.FinOn
import Lean
import PySem.Challenge.RW_on0292_01
open PySem PySem.W PyProof.Rows PySem.Calls PySem.Spec
set_option Elab.async false
set_option maxRecDepth 100000

-- part KD
section
set_option maxRecDepth 100000
namespace Mine
/-- the text's statements, out of the row's own term -/
def stmts : List Stmt := PySem.Challenge.pw_on0292_01.main.body
/-- the written values of a row, the first token given -/
def cellsOf : Nat → List PySem.Expr → List Value
  | _, [] => []
  | tk, e :: r => match e with
    | .Constant (.str x) _ _ => .str x tk :: cellsOf (tk + 1) r
    | .Constant (.int n) _ _ => .int n tk :: cellsOf (tk + 1) r
    | .UnaryOp .USub (.Constant (.int n) _ _) _ => .int (-n) (tk + 1) :: cellsOf (tk + 2) r
    | _ => []
/-- the written rows of the table that statement i binds -/
def tabE (i : Nat) : List PySem.Expr := match stmts[i]? with
  | some (.Assign _ (.Tuple es _ _) _) => es
  | _ => []
def tupO (vs : List Value) : Obj := ⟨.type "tuple", none, .seq vs.toArray 0, #[]⟩
def rowO (s i tk : Nat) : Obj := match (tabE s)[i]? with
  | some (.Tuple es _ _) => tupO (cellsOf tk es)
  | _ => default
def refsO (a n : Nat) : Obj := tupO ((List.range n).map fun i => .ref (a + i))
def fnK (i : Nat) (pm : Value) (c : Addr) : Obj := match stmts[i]? with
  | some (.FunctionDef n args body _ _ _ sc _ _ _) => ⟨.type "function", none, .func (fnOf n n args body sc .none .none .none pm none (.ref c) .none), #[]⟩
  | _ => default
def codeO (name : Str) (line argc first nv : Nat) (a0 a1 a2 a3 : Value) (a4 : Value) : Obj :=
  ⟨.type "code", none, .fields #[.str name first, .str name (first + 1), .str (Str.ofString "/claim/cut.py") (first + 2), .int line 0, .int argc 0, .int 0 0, .int 0 0, .int 3 0, a0, .bool true, .int 181 0, a1, .none, a2, a3, a4, .int (first + 3 + nv : Nat) 0, .int line 0, .str (Str.ofString "/claim/cut.py") (first + 4 + nv)], #[]⟩

def fn214 : Obj := by
  refine (fun (n q : Str) (args : Arguments) (body : List Stmt) (sc : Scope) (_ : fnK 3 (.str (Str.ofString "scheme.primnames") 187) 213 = ⟨.type "function", none, .func (fnOf n q args body sc .none .none .none (.str (Str.ofString "scheme.primnames") 187) none (.ref 213) .none), #[]⟩) =>
    (⟨.type "function", none, .func (fnOf n q args body sc .none .none .none (.str (Str.ofString "scheme.primnames") 187) none (.ref 213) .none), #[]⟩ : Obj)) ?n ?q ?args ?body ?sc ?h
  case h => exact rfl
def fn221 : Obj := by
  refine (fun (n q : Str) (args : Arguments) (body : List Stmt) (sc : Scope) (_ : fnK 4 (.str (Str.ofString "scheme.primnames") 187) 220 = ⟨.type "function", none, .func (fnOf n q args body sc .none .none .none (.str (Str.ofString "scheme.primnames") 187) none (.ref 220) .none), #[]⟩) =>
    (⟨.type "function", none, .func (fnOf n q args body sc .none .none .none (.str (Str.ofString "scheme.primnames") 187) none (.ref 220) .none), #[]⟩ : Obj)) ?n ?q ?args ?body ?sc ?h
  case h => exact rfl
def fn228 : Obj := by
  refine (fun (n q : Str) (args : Arguments) (body : List Stmt) (sc : Scope) (_ : fnK 5 (.str (Str.ofString "scheme.primnames") 187) 227 = ⟨.type "function", none, .func (fnOf n q args body sc .none .none .none (.str (Str.ofString "scheme.primnames") 187) none (.ref 227) .none), #[]⟩) =>
    (⟨.type "function", none, .func (fnOf n q args body sc .none .none .none (.str (Str.ofString "scheme.primnames") 187) none (.ref 227) .none), #[]⟩ : Obj)) ?n ?q ?args ?body ?sc ?h
  case h => exact rfl
def fn235 : Obj := by
  refine (fun (n q : Str) (args : Arguments) (body : List Stmt) (sc : Scope) (_ : fnK 6 (.str (Str.ofString "scheme.primnames") 187) 234 = ⟨.type "function", none, .func (fnOf n q args body sc .none .none .none (.str (Str.ofString "scheme.primnames") 187) none (.ref 234) .none), #[]⟩) =>
    (⟨.type "function", none, .func (fnOf n q args body sc .none .none .none (.str (Str.ofString "scheme.primnames") 187) none (.ref 234) .none), #[]⟩ : Obj)) ?n ?q ?args ?body ?sc ?h
  case h => exact rfl
def fn242 : Obj := by
  refine (fun (n q : Str) (args : Arguments) (body : List Stmt) (sc : Scope) (_ : fnK 7 (.str (Str.ofString "scheme.primnames") 187) 241 = ⟨.type "function", none, .func (fnOf n q args body sc .none .none .none (.str (Str.ofString "scheme.primnames") 187) none (.ref 241) .none), #[]⟩) =>
    (⟨.type "function", none, .func (fnOf n q args body sc .none .none .none (.str (Str.ofString "scheme.primnames") 187) none (.ref 241) .none), #[]⟩ : Obj)) ?n ?q ?args ?body ?sc ?h
  case h => exact rfl
def fn249 : Obj := by
  refine (fun (n q : Str) (args : Arguments) (body : List Stmt) (sc : Scope) (_ : fnK 8 (.str (Str.ofString "scheme.primnames") 187) 248 = ⟨.type "function", none, .func (fnOf n q args body sc .none .none .none (.str (Str.ofString "scheme.primnames") 187) none (.ref 248) .none), #[]⟩) =>
    (⟨.type "function", none, .func (fnOf n q args body sc .none .none .none (.str (Str.ofString "scheme.primnames") 187) none (.ref 248) .none), #[]⟩ : Obj)) ?n ?q ?args ?body ?sc ?h
  case h => exact rfl
def fn273 : Obj := by
  refine (fun (n q : Str) (args : Arguments) (body : List Stmt) (sc : Scope) (_ : fnK 11 (.str (Str.ofString "law_on0292_01") 1025) 272 = ⟨.type "function", none, .func (fnOf n q args body sc .none .none .none (.str (Str.ofString "law_on0292_01") 1025) none (.ref 272) .none), #[]⟩) =>
    (⟨.type "function", none, .func (fnOf n q args body sc .none .none .none (.str (Str.ofString "law_on0292_01") 1025) none (.ref 272) .none), #[]⟩ : Obj)) ?n ?q ?args ?body ?sc ?h
  case h => exact rfl
def fn280 : Obj := by
  refine (fun (n q : Str) (args : Arguments) (body : List Stmt) (sc : Scope) (_ : fnK 12 (.str (Str.ofString "law_on0292_01") 1025) 279 = ⟨.type "function", none, .func (fnOf n q args body sc .none .none .none (.str (Str.ofString "law_on0292_01") 1025) none (.ref 279) .none), #[]⟩) =>
    (⟨.type "function", none, .func (fnOf n q args body sc .none .none .none (.str (Str.ofString "law_on0292_01") 1025) none (.ref 279) .none), #[]⟩ : Obj)) ?n ?q ?args ?body ?sc ?h
  case h => exact rfl
def fn287 : Obj := by
  refine (fun (n q : Str) (args : Arguments) (body : List Stmt) (sc : Scope) (_ : fnK 13 (.str (Str.ofString "law_on0292_01") 1025) 286 = ⟨.type "function", none, .func (fnOf n q args body sc .none .none .none (.str (Str.ofString "law_on0292_01") 1025) none (.ref 286) .none), #[]⟩) =>
    (⟨.type "function", none, .func (fnOf n q args body sc .none .none .none (.str (Str.ofString "law_on0292_01") 1025) none (.ref 286) .none), #[]⟩ : Obj)) ?n ?q ?args ?body ?sc ?h
  case h => exact rfl
def fn292 : Obj := by
  refine (fun (n q : Str) (args : Arguments) (body : List Stmt) (sc : Scope) (_ : fnK 14 (.str (Str.ofString "law_on0292_01") 1025) 291 = ⟨.type "function", none, .func (fnOf n q args body sc .none .none .none (.str (Str.ofString "law_on0292_01") 1025) none (.ref 291) .none), #[]⟩) =>
    (⟨.type "function", none, .func (fnOf n q args body sc .none .none .none (.str (Str.ofString "law_on0292_01") 1025) none (.ref 291) .none), #[]⟩ : Obj)) ?n ?q ?args ?body ?sc ?h
  case h => exact rfl
def fn297 : Obj := by
  refine (fun (n q : Str) (args : Arguments) (body : List Stmt) (sc : Scope) (_ : fnK 15 (.str (Str.ofString "law_on0292_01") 1025) 296 = ⟨.type "function", none, .func (fnOf n q args body sc .none .none .none (.str (Str.ofString "law_on0292_01") 1025) none (.ref 296) .none), #[]⟩) =>
    (⟨.type "function", none, .func (fnOf n q args body sc .none .none .none (.str (Str.ofString "law_on0292_01") 1025) none (.ref 296) .none), #[]⟩ : Obj)) ?n ?q ?args ?body ?sc ?h
  case h => exact rfl
def mainO (P : Params) : Obj := ⟨.type "dict", none, .dict #[
  ⟨PyData.keyHash P (Str.ofString "__name__"), .str (Str.ofString "__name__") 165, .str (Str.ofString "law_on0292_01") 1025⟩,
  ⟨PyData.keyHash P (Str.ofString "__doc__"), .str (Str.ofString "__doc__") 166, .none⟩,
  ⟨PyData.keyHash P (Str.ofString "__package__"), .str (Str.ofString "__package__") 167, .none⟩,
  ⟨PyData.keyHash P (Str.ofString "__loader__"), .str (Str.ofString "__loader__") 168, .builtin "__main__.__loader__#opaque"⟩,
  ⟨PyData.keyHash P (Str.ofString "__spec__"), .str (Str.ofString "__spec__") 169, .none⟩,
  ⟨PyData.keyHash P (Str.ofString "__annotations__"), .str (Str.ofString "__annotations__") 170, .ref 6⟩,
  ⟨PyData.keyHash P (Str.ofString "__builtins__"), .str (Str.ofString "__builtins__") 171, .ref 4⟩,
  ⟨PyData.keyHash P (Str.ofString "__file__"), .str (Str.ofString "__file__") 173, .str (Str.ofString "/claim/cut.py") 172⟩,
  ⟨PyData.keyHash P (Str.ofString "__cached__"), .str (Str.ofString "__cached__") 174, .none⟩,
  ⟨PyData.keyHash P (Str.ofString "ANY"), .str (Str.ofString "ANY") 191, .int (-1) 190⟩,
  ⟨PyData.keyHash P (Str.ofString "PRIM_ROWS"), .str (Str.ofString "PRIM_ROWS") 980, .ref 207⟩,
  ⟨PyData.keyHash P (Str.ofString "how_many"), .str (Str.ofString "how_many") 986, .ref 214⟩,
  ⟨PyData.keyHash P (Str.ofString "op_of"), .str (Str.ofString "op_of") 995, .ref 221⟩,
  ⟨PyData.keyHash P (Str.ofString "name_of"), .str (Str.ofString "name_of") 1002, .ref 228⟩,
  ⟨PyData.keyHash P (Str.ofString "least_of"), .str (Str.ofString "least_of") 1009, .ref 235⟩,
  ⟨PyData.keyHash P (Str.ofString "most_of"), .str (Str.ofString "most_of") 1016, .ref 242⟩,
  ⟨PyData.keyHash P (Str.ofString "takes"), .str (Str.ofString "takes") 1024, .ref 249⟩,
  ⟨PyData.keyHash P (Str.ofString "_law_counts"), .str (Str.ofString "_law_counts") 1084, .ref 268⟩,
  ⟨PyData.keyHash P (Str.ofString "_law_deck"), .str (Str.ofString "_law_deck") 1090, .ref 273⟩,
  ⟨PyData.keyHash P (Str.ofString "_law_draw"), .str (Str.ofString "_law_draw") 1099, .ref 280⟩,
  ⟨PyData.keyHash P (Str.ofString "_law_is_let"), .str (Str.ofString "_law_is_let") 1108, .ref 287⟩,
  ⟨PyData.keyHash P (Str.ofString "_law_is_right"), .str (Str.ofString "_law_is_right") 1114, .ref 292⟩,
  ⟨PyData.keyHash P (Str.ofString "law"), .str (Str.ofString "law") 1120, .ref 297⟩] 23, #[]⟩
def tok2 : List Nat := [192, 196, 200, 204, 208, 212, 216, 220, 224, 228, 232, 236, 240, 244, 248, 252, 256, 260, 264, 268, 272, 276, 280, 284, 288, 292, 296, 300, 304, 308, 312, 316, 320, 324, 328, 332, 336, 340, 344, 348, 352, 356, 360, 364, 368, 372, 376, 381, 385, 390, 395, 399, 403, 407, 411, 415, 419, 423, 427, 431, 436, 440, 444, 448, 452, 456, 460, 464, 468, 472, 476, 480, 484, 488, 492, 497, 502, 507, 512, 517, 521, 525, 529, 533, 537, 542, 547, 552, 557, 562, 567, 571, 575, 579, 583, 588, 593, 597, 601, 605, 609, 613, 617, 621, 625, 629, 633, 637, 641, 645, 649, 653, 657, 661, 665, 669, 673, 677, 681, 685, 689, 693, 697, 701, 705, 709, 713, 717, 721, 725, 729, 733, 737, 741, 745, 749, 753, 757, 761, 765, 769, 773, 777, 782, 786, 790, 794, 798, 802, 806, 810, 814, 818, 822, 826, 830, 834, 838, 843, 847, 851, 855, 859, 863, 867, 871, 875, 879, 883, 887, 891, 895, 899, 903, 907, 911, 915, 919, 923, 927, 931, 935, 939, 943, 947, 951, 956, 960, 964, 968, 972, 976]
def tok10 : List Nat := [1027, 1030, 1033, 1036, 1039, 1042, 1045, 1048, 1051, 1054, 1057, 1060, 1063, 1067, 1071, 1075, 1078, 1081]
def KK : Params → Frag := fun P =>
  (nat_lit 2, ⟨.none, none, .dict #[] 0, #[]⟩) ::
  (nat_lit 3, mainO P) ::
  (nat_lit 15, rowO 2 0 192) ::
  (nat_lit 16, rowO 2 1 196) ::
  (nat_lit 17, rowO 2 2 200) ::
  (nat_lit 18, rowO 2 3 204) ::
  (nat_lit 19, rowO 2 4 208) ::
  (nat_lit 20, rowO 2 5 212) ::
  (nat_lit 21, rowO 2 6 216) ::
  (nat_lit 22, rowO 2 7 220) ::
  (nat_lit 23, rowO 2 8 224) ::
  (nat_lit 24, rowO 2 9 228) ::
  (nat_lit 25, rowO 2 10 232) ::
  (nat_lit 26, rowO 2 11 236) ::
  (nat_lit 27, rowO 2 12 240) ::
  (nat_lit 28, rowO 2 13 244) ::
  (nat_lit 29, rowO 2 14 248) ::
  (nat_lit 30, rowO 2 15 252) ::
  (nat_lit 31, rowO 2 16 256) ::
  (nat_lit 32, rowO 2 17 260) ::
  (nat_lit 33, rowO 2 18 264) ::
  (nat_lit 34, rowO 2 19 268) ::
  (nat_lit 35, rowO 2 20 272) ::
  (nat_lit 36, rowO 2 21 276) ::
  (nat_lit 37, rowO 2 22 280) ::
  (nat_lit 38, rowO 2 23 284) ::
  (nat_lit 39, rowO 2 24 288) ::
  (nat_lit 40, rowO 2 25 292) ::
  (nat_lit 41, rowO 2 26 296) ::
  (nat_lit 42, rowO 2 27 300) ::
  (nat_lit 43, rowO 2 28 304) ::
  (nat_lit 44, rowO 2 29 308) ::
  (nat_lit 45, rowO 2 30 312) ::
  (nat_lit 46, rowO 2 31 316) ::
  (nat_lit 47, rowO 2 32 320) ::
  (nat_lit 48, rowO 2 33 324) ::
  (nat_lit 49, rowO 2 34 328) ::
  (nat_lit 50, rowO 2 35 332) ::
  (nat_lit 51, rowO 2 36 336) ::
  (nat_lit 52, rowO 2 37 340) ::
  (nat_lit 53, rowO 2 38 344) ::
  (nat_lit 54, rowO 2 39 348) ::
  (nat_lit 55, rowO 2 40 352) ::
  (nat_lit 56, rowO 2 41 356) ::
  (nat_lit 57, rowO 2 42 360) ::
  (nat_lit 58, rowO 2 43 364) ::
  (nat_lit 59, rowO 2 44 368) ::
  (nat_lit 60, rowO 2 45 372) ::
  (nat_lit 61, rowO 2 46 376) ::
  (nat_lit 62, rowO 2 47 381) ::
  (nat_lit 63, rowO 2 48 385) ::
  (nat_lit 64, rowO 2 49 390) ::
  (nat_lit 65, rowO 2 50 395) ::
  (nat_lit 66, rowO 2 51 399) ::
  (nat_lit 67, rowO 2 52 403) ::
  (nat_lit 68, rowO 2 53 407) ::
  (nat_lit 69, rowO 2 54 411) ::
  (nat_lit 70, rowO 2 55 415) ::
  (nat_lit 71, rowO 2 56 419) ::
  (nat_lit 72, rowO 2 57 423) ::
  (nat_lit 73, rowO 2 58 427) ::
  (nat_lit 74, rowO 2 59 431) ::
  (nat_lit 75, rowO 2 60 436) ::
  (nat_lit 76, rowO 2 61 440) ::
  (nat_lit 77, rowO 2 62 444) ::
  (nat_lit 78, rowO 2 63 448) ::
  (nat_lit 79, rowO 2 64 452) ::
  (nat_lit 80, rowO 2 65 456) ::
  (nat_lit 81, rowO 2 66 460) ::
  (nat_lit 82, rowO 2 67 464) ::
  (nat_lit 83, rowO 2 68 468) ::
  (nat_lit 84, rowO 2 69 472) ::
  (nat_lit 85, rowO 2 70 476) ::
  (nat_lit 86, rowO 2 71 480) ::
  (nat_lit 87, rowO 2 72 484) ::
  (nat_lit 88, rowO 2 73 488) ::
  (nat_lit 89, rowO 2 74 492) ::
  (nat_lit 90, rowO 2 75 497) ::
  (nat_lit 91, rowO 2 76 502) ::
  (nat_lit 92, rowO 2 77 507) ::
  (nat_lit 93, rowO 2 78 512) ::
  (nat_lit 94, rowO 2 79 517) ::
  (nat_lit 95, rowO 2 80 521) ::
  (nat_lit 96, rowO 2 81 525) ::
  (nat_lit 97, rowO 2 82 529) ::
  (nat_lit 98, rowO 2 83 533) ::
  (nat_lit 99, rowO 2 84 537) ::
  (nat_lit 100, rowO 2 85 542) ::
  (nat_lit 101, rowO 2 86 547) ::
  (nat_lit 102, rowO 2 87 552) ::
  (nat_lit 103, rowO 2 88 557) ::
  (nat_lit 104, rowO 2 89 562) ::
  (nat_lit 105, rowO 2 90 567) ::
  (nat_lit 106, rowO 2 91 571) ::
  (nat_lit 107, rowO 2 92 575) ::
  (nat_lit 108, rowO 2 93 579) ::
  (nat_lit 109, rowO 2 94 583) ::
  (nat_lit 110, rowO 2 95 588) ::
  (nat_lit 111, rowO 2 96 593) ::
  (nat_lit 112, rowO 2 97 597) ::
  (nat_lit 113, rowO 2 98 601) ::
  (nat_lit 114, rowO 2 99 605) ::
  (nat_lit 115, rowO 2 100 609) ::
  (nat_lit 116, rowO 2 101 613) ::
  (nat_lit 117, rowO 2 102 617) ::
  (nat_lit 118, rowO 2 103 621) ::
  (nat_lit 119, rowO 2 104 625) ::
  (nat_lit 120, rowO 2 105 629) ::
  (nat_lit 121, rowO 2 106 633) ::
  (nat_lit 122, rowO 2 107 637) ::
  (nat_lit 123, rowO 2 108 641) ::
  (nat_lit 124, rowO 2 109 645) ::
  (nat_lit 125, rowO 2 110 649) ::
  (nat_lit 126, rowO 2 111 653) ::
  (nat_lit 127, rowO 2 112 657) ::
  (nat_lit 128, rowO 2 113 661) ::
  (nat_lit 129, rowO 2 114 665) ::
  (nat_lit 130, rowO 2 115 669) ::
  (nat_lit 131, rowO 2 116 673) ::
  (nat_lit 132, rowO 2 117 677) ::
  (nat_lit 133, rowO 2 118 681) ::
  (nat_lit 134, rowO 2 119 685) ::
  (nat_lit 135, rowO 2 120 689) ::
  (nat_lit 136, rowO 2 121 693) ::
  (nat_lit 137, rowO 2 122 697) ::
  (nat_lit 138, rowO 2 123 701) ::
  (nat_lit 139, rowO 2 124 705) ::
  (nat_lit 140, rowO 2 125 709) ::
  (nat_lit 141, rowO 2 126 713) ::
  (nat_lit 142, rowO 2 127 717) ::
  (nat_lit 143, rowO 2 128 721) ::
  (nat_lit 144, rowO 2 129 725) ::
  (nat_lit 145, rowO 2 130 729) ::
  (nat_lit 146, rowO 2 131 733) ::
  (nat_lit 147, rowO 2 132 737) ::
  (nat_lit 148, rowO 2 133 741) ::
  (nat_lit 149, rowO 2 134 745) ::
  (nat_lit 150, rowO 2 135 749) ::
  (nat_lit 151, rowO 2 136 753) ::
  (nat_lit 152, rowO 2 137 757) ::
  (nat_lit 153, rowO 2 138 761) ::
  (nat_lit 154, rowO 2 139 765) ::
  (nat_lit 155, rowO 2 140 769) ::
  (nat_lit 156, rowO 2 141 773) ::
  (nat_lit 157, rowO 2 142 777) ::
  (nat_lit 158, rowO 2 143 782) ::
  (nat_lit 159, rowO 2 144 786) ::
  (nat_lit 160, rowO 2 145 790) ::
  (nat_lit 161, rowO 2 146 794) ::
  (nat_lit 162, rowO 2 147 798) ::
  (nat_lit 163, rowO 2 148 802) ::
  (nat_lit 164, rowO 2 149 806) ::
  (nat_lit 165, rowO 2 150 810) ::
  (nat_lit 166, rowO 2 151 814) ::
  (nat_lit 167, rowO 2 152 818) ::
  (nat_lit 168, rowO 2 153 822) ::
  (nat_lit 169, rowO 2 154 826) ::
  (nat_lit 170, rowO 2 155 830) ::
  (nat_lit 171, rowO 2 156 834) ::
  (nat_lit 172, rowO 2 157 838) ::
  (nat_lit 173, rowO 2 158 843) ::
  (nat_lit 174, rowO 2 159 847) ::
  (nat_lit 175, rowO 2 160 851) ::
  (nat_lit 176, rowO 2 161 855) ::
  (nat_lit 177, rowO 2 162 859) ::
  (nat_lit 178, rowO 2 163 863) ::
  (nat_lit 179, rowO 2 164 867) ::
  (nat_lit 180, rowO 2 165 871) ::
  (nat_lit 181, rowO 2 166 875) ::
  (nat_lit 182, rowO 2 167 879) ::
  (nat_lit 183, rowO 2 168 883) ::
  (nat_lit 184, rowO 2 169 887) ::
  (nat_lit 185, rowO 2 170 891) ::
  (nat_lit 186, rowO 2 171 895) ::
  (nat_lit 187, rowO 2 172 899) ::
  (nat_lit 188, rowO 2 173 903) ::
  (nat_lit 189, rowO 2 174 907) ::
  (nat_lit 190, rowO 2 175 911) ::
  (nat_lit 191, rowO 2 176 915) ::
  (nat_lit 192, rowO 2 177 919) ::
  (nat_lit 193, rowO 2 178 923) ::
  (nat_lit 194, rowO 2 179 927) ::
  (nat_lit 195, rowO 2 180 931) ::
  (nat_lit 196, rowO 2 181 935) ::
  (nat_lit 197, rowO 2 182 939) ::
  (nat_lit 198, rowO 2 183 943) ::
  (nat_lit 199, rowO 2 184 947) ::
  (nat_lit 200, rowO 2 185 951) ::
  (nat_lit 201, rowO 2 186 956) ::
  (nat_lit 202, rowO 2 187 960) ::
  (nat_lit 203, rowO 2 188 964) ::
  (nat_lit 204, rowO 2 189 968) ::
  (nat_lit 205, rowO 2 190 972) ::
  (nat_lit 206, rowO 2 191 976) ::
  (nat_lit 207, refsO 15 192) ::
  (nat_lit 213, codeO (Str.ofString "how_many") 4 0 981 0 (.ref 208) (.ref 209) (.ref 210) (.ref 211) (.ref 212)) ::
  (nat_lit 214, fn214) ::
  (nat_lit 220, codeO (Str.ofString "op_of") 6 1 987 3 (.ref 215) (.ref 216) (.ref 217) (.ref 218) (.ref 219)) ::
  (nat_lit 221, fn221) ::
  (nat_lit 227, codeO (Str.ofString "name_of") 11 1 996 1 (.ref 222) (.ref 223) (.ref 224) (.ref 225) (.ref 226)) ::
  (nat_lit 228, fn228) ::
  (nat_lit 234, codeO (Str.ofString "least_of") 13 1 1003 1 (.ref 229) (.ref 230) (.ref 231) (.ref 232) (.ref 233)) ::
  (nat_lit 235, fn235) ::
  (nat_lit 241, codeO (Str.ofString "most_of") 15 1 1010 1 (.ref 236) (.ref 237) (.ref 238) (.ref 239) (.ref 240)) ::
  (nat_lit 242, fn242) ::
  (nat_lit 248, codeO (Str.ofString "takes") 17 2 1017 2 (.ref 243) (.ref 244) (.ref 245) (.ref 246) (.ref 247)) ::
  (nat_lit 249, fn249) ::
  (nat_lit 250, rowO 10 0 1027) ::
  (nat_lit 251, rowO 10 1 1030) ::
  (nat_lit 252, rowO 10 2 1033) ::
  (nat_lit 253, rowO 10 3 1036) ::
  (nat_lit 254, rowO 10 4 1039) ::
  (nat_lit 255, rowO 10 5 1042) ::
  (nat_lit 256, rowO 10 6 1045) ::
  (nat_lit 257, rowO 10 7 1048) ::
  (nat_lit 258, rowO 10 8 1051) ::
  (nat_lit 259, rowO 10 9 1054) ::
  (nat_lit 260, rowO 10 10 1057) ::
  (nat_lit 261, rowO 10 11 1060) ::
  (nat_lit 262, rowO 10 12 1063) ::
  (nat_lit 263, rowO 10 13 1067) ::
  (nat_lit 264, rowO 10 14 1071) ::
  (nat_lit 265, rowO 10 15 1075) ::
  (nat_lit 266, rowO 10 16 1078) ::
  (nat_lit 267, rowO 10 17 1081) ::
  (nat_lit 268, refsO 250 18) ::
  (nat_lit 272, codeO (Str.ofString "_law_deck") 21 1 1085 0 (.ref 269) (.ref 270) .none .none (.ref 271)) ::
  (nat_lit 273, fn273) ::
  (nat_lit 279, codeO (Str.ofString "_law_draw") 23 2 1091 3 (.ref 274) (.ref 275) (.ref 276) (.ref 277) (.ref 278)) ::
  (nat_lit 280, fn280) ::
  (nat_lit 286, codeO (Str.ofString "_law_is_let") 29 3 1100 3 (.ref 281) (.ref 282) (.ref 283) (.ref 284) (.ref 285)) ::
  (nat_lit 287, fn287) ::
  (nat_lit 291, codeO (Str.ofString "_law_is_right") 31 4 1109 0 (.ref 288) (.ref 289) .none .none (.ref 290)) ::
  (nat_lit 292, fn292) ::
  (nat_lit 296, codeO (Str.ofString "law") 36 1 1115 0 (.ref 293) (.ref 294) .none .none (.ref 295)) ::
  (nat_lit 297, fn297) ::
  []
def addrs : List Addr := [2, 3, 15, 16, 17, 18, 19, 20, 21, 22, 23, 24, 25, 26, 27, 28, 29, 30, 31, 32, 33, 34, 35, 36, 37, 38, 39, 40, 41, 42, 43, 44, 45, 46, 47, 48, 49, 50, 51, 52, 53, 54, 55, 56, 57, 58, 59, 60, 61, 62, 63, 64, 65, 66, 67, 68, 69, 70, 71, 72, 73, 74, 75, 76, 77, 78, 79, 80, 81, 82, 83, 84, 85, 86, 87, 88, 89, 90, 91, 92, 93, 94, 95, 96, 97, 98, 99, 100, 101, 102, 103, 104, 105, 106, 107, 108, 109, 110, 111, 112, 113, 114, 115, 116, 117, 118, 119, 120, 121, 122, 123, 124, 125, 126, 127, 128, 129, 130, 131, 132, 133, 134, 135, 136, 137, 138, 139, 140, 141, 142, 143, 144, 145, 146, 147, 148, 149, 150, 151, 152, 153, 154, 155, 156, 157, 158, 159, 160, 161, 162, 163, 164, 165, 166, 167, 168, 169, 170, 171, 172, 173, 174, 175, 176, 177, 178, 179, 180, 181, 182, 183, 184, 185, 186, 187, 188, 189, 190, 191, 192, 193, 194, 195, 196, 197, 198, 199, 200, 201, 202, 203, 204, 205, 206, 207, 213, 214, 220, 221, 227, 228, 234, 235, 241, 242, 248, 249, 250, 251, 252, 253, 254, 255, 256, 257, 258, 259, 260, 261, 262, 263, 264, 265, 266, 267, 268, 272, 273, 279, 280, 286, 287, 291, 292, 296, 297]
theorem addrs_ok : ∀ P, addrs = (KK P).map (·.1) := fun _ => by kernel_rfl
end Mine
end

-- part E1
section
set_option maxRecDepth 100000
namespace Mine
section
variable {prog : Program} {w : World} {A : Around} {E : Value → Shared → Prop}
open AutoSeq1 (wpAny_loadPart')

/-- the text of a tuple iterator's next, walked once for both its ends -/
theorem turn_text {hp : Heap} {g : Array GenState} {d : Drawn} {tk : Nat} {os : OsState} {it t : Addr} {i n : Nat} {xs : Array Value} {d1 d2 : Option Addr} {s1 s2 : Array (Option Value)} {Q : PySem.Fin → Shared → Prop} (hh : A.handled = none)
    (hi : hp.get? it = some { cls := .type "tuple_iterator", dict := d1, data := .fields #[.ref t, .int i 0], slots := s1 }) (ht : hp.get? t = some { cls := .type "tuple", dict := d2, data := .seq xs n, slots := s2 })
    (item : ∀ x, xs[i]? = some x → Q (.done (.ret x)) ⟨hp.update it (Obj.mapFields fun f => f.setIfInBounds 1 (rawInt (i + 1))), g, d, tk, os⟩)
    (stop : ∀ h' e, xs[i]? = none → Heap.ExtBut it hp h' → (∃ o, h'.get? e = some o ∧ o.cls = .type "StopIteration") → E (.ref e) ⟨h', g, d, tk, os⟩) :
    wpAny (model prog w) A (Builtin.«tuple_iterator.__next__» ⟨[.ref it], []⟩) Q E ⟨hp, g, d, tk, os⟩ := by
  wp_walk using wpAny_loadPart' hi, wpAny_loadPart' ht
  rw [Int.toNat_natCast]
  cases hx : xs[i]? with
  | some x =>
    dsimp only
    wp_walk using wpAny_updatePart' hi
    exact item x hx
  | none =>
    dsimp only
    wp_walk using wpAny_updatePart' hi
    unfold raiseNew
    wp_walk
    refine stop _ _ hx (fun b o hb e => ?_) ⟨_, Heap.get?_push_size _ rfl, rfl⟩
    exact Heap.get?_push_of_some _ (Heap.get?_push_of_some _ (Heap.get?_update_of_ne _ (Ne.symm hb) e))

theorem tuple_turn {s : Shared} {it t : Addr} {i : Nat} {xs : Array Value} {Q : Value → Shared → Prop} (hh : A.handled = none) (hit : s.heap.IsTupleIter it t i) (ht : s.heap.IsTuple t xs)
    (item : ∀ x h', xs[i]? = some x → h'.IsTupleIter it t (i + 1) → Heap.SameBut it s.heap h' → Q x { s with heap := h' })
    (stop : ∀ h' e, xs[i]? = none → Heap.ExtBut it s.heap h' → (∃ o, h'.get? e = some o ∧ o.cls = .type "StopIteration") → E (.ref e) { s with heap := h' }) :
    wpAny (model prog w) A (Builtin.SmallTypes.nextOf (.ref it)) Q E s := by
  have isIt := hit.typeIs
  rcases hit with ⟨⟨c, d1, f, s1⟩, hi, hc, hf⟩
  rcases ht with ⟨⟨c2, d2, f2, s2⟩, ht, hc2, n, hf2⟩
  dsimp only at hc hf hc2 hf2
  subst hc hf hc2 hf2
  have slot := F.slot_tuple_iterator_next
  have text : wpAny (model prog w) A.in1 (Builtin.«tuple_iterator.__next__» ⟨[.ref it], []⟩) (fun f s' => ∃ v, f = .done (.ret v) ∧ Q v s') E s :=
    turn_text (A := A.in1) hh hi ht (fun x hx => ⟨x, rfl, item x _ hx ⟨_, Heap.get?_update_self _ hi rfl, rfl, by simp [Obj.mapFields, rawInt]⟩ (Heap.SameBut.update ..)⟩) stop
  exact wpAny_bind (wpAny_callSpecial?_slot isIt slot (wpAny_call_entry slot isIt F.entry_tuple_iterator_next (wpAny_mono text (fun _ _ ⟨v, e, q⟩ => ⟨v, e, wpAny_pure q⟩) fun _ _ e => e) (F.args_tuple_iterator_next_1 _)))

/-- drawing from a tuple, item by item -/
theorem tupleDraws (hh : A.handled = none) {it t : Addr} (ne : t ≠ it) (xs : Array Value) : Draws prog w A it [it, t] xs.size (fun i v => xs[i]? = some v) (fun i h => h.IsTupleIter it t i ∧ h.IsTuple t xs) where
  live | _, _, ⟨⟨o, e, _⟩, _⟩ => ⟨o, e⟩
  frame | _, _, _, ⟨⟨o, e, q⟩, ⟨o', e', q'⟩⟩, up => ⟨⟨o, up _ (.head _) _ e, q⟩, ⟨o', up _ (.tail _ (.head _)) _ e', q'⟩⟩
  item i s Q E hlt st k := tuple_turn hh st.1 st.2 (fun x h' hx hi hs => k x h' _ hx ⟨hi, st.2.extBut hs.extBut ne⟩ hs) fun h' e hx => absurd hx (by simp [hlt])
  done s Q E st k := tuple_turn hh st.1 st.2 (fun x h' hx => absurd hx (by simp)) fun h' e _ => k h' e
end

/-- what enumerate over a tuple lays: the tuple's iterator, behind it the enumerate -/
abbrev tupIt (t : Addr) : Obj := { cls := .type "tuple_iterator", data := .fields #[.ref t, .int 0 0] }
abbrev enumOn (it : Addr) : Obj := { cls := .type "enumerate", data := .fields #[.none, .bool false, .ref it, rawInt 0, .none, .none] }
abbrev enumHeap (h : Heap) (t : Addr) : Heap := (h.push (tupIt t)).push (enumOn h.objs.size)
theorem enumHeap_facts (h : Heap) (t : Addr) : (enumHeap h t).get? h.objs.size = some (tupIt t) ∧ (enumHeap h t).get? (h.objs.size + 1) = some (enumOn h.objs.size) ∧ ∀ b o, h.get? b = some o → (enumHeap h t).get? b = some o := by
  refine ⟨Heap.get?_push_of_some _ (Heap.get?_push_size _ rfl), ?_, fun b o e => Heap.get?_push_of_some _ (Heap.get?_push_of_some _ e)⟩
  rw [← Heap.size_push h (tupIt t)]
  exact Heap.get?_push_size _ rfl

theorem enum_text {t : Addr} {xs : Array Value} {o : Obj} {n : Nat} (hc : o.cls = .type "tuple") (hd : o.data = .seq xs n) :
    Meets (Builtin.«enumerate.__new__» ⟨[.type "enumerate", .ref t], []⟩) fun _ R s => s.heap.get? t = some o ∧ R (.ok (.ret (.ref (s.heap.objs.size + 1)))) { s with heap := enumHeap s.heap t } := by
  refine .of_wp fun prog w A R s ⟨ho, k⟩ => ?_
  rw [← Heap.size_push s.heap (tupIt t)] at k
  obtain ⟨hp, g, d, tk, os⟩ := s
  obtain ⟨c, di, da, sl⟩ := o
  dsimp only at hc hd
  subst hc hd
  have isEnum := sub_enumerate
  have isTup : (Shared.mk hp g d tk os).heap.IsTuple t xs := ⟨_, ho, rfl, n, rfl⟩
  wp_walk using AutoSeq1.wpAny_loadPart' ho
  -- whichever frame stands beneath: the text does the same
  refine wpAny_stack_any fun fs => wpAny_pure ?_
  have tail {short : Bool} : short = true ∨ short = false := by cases short <;> simp
  split
  case' h_1 c _ _ _ _ _ => rcases @tail (c == Value.type "enumerate") with e | e <;> rw [e]
  all_goals
    wp_walk using AutoSeq1.wpAny_loadPart' ho, wpAny_pyIter_tuple isTup
    exact ⟨_, rfl, k⟩

section
variable {prog : Program} {w : World} {A : Around} {E : Value → Shared → Prop} {s : Shared} {h₀ : Heap} {L : Addr} {m : Str → Option Value} {news : List (Addr × Obj)}
theorem enum_call {t : Addr} {xs : Array Value} {Q : Value → Shared → Prop} (hT : s.heap.IsTuple t xs) (k : Q (.ref (s.heap.objs.size + 1)) { s with heap := enumHeap s.heap t }) : wpAny (model prog w) A (call (.type "enumerate") [.ref t]) Q E s :=
  let ⟨_, ho, hc, _, hd⟩ := hT
  callType_new F.called_enumerate (by decide) (F.typeCall_enumerate_1 _) (F.newCall_enumerate_1 _) (fun _ => F.args_object_init_2 _ _) F.entry_enumerate_new (enum_text hc hd) ⟨ho, ⟨_, (enumHeap_facts _ _).2.1, rfl⟩, k⟩

theorem of_pair {a b c : Nat} (h : a ∈ [b, c]) : a = b ∨ a = c := by simpa using h
/-- enumerate over a tuple that stood before the frame: a source of pairs -/
theorem enumT {α : Type} {K : ItemKind α} {as : List α} {t : Addr} {vs : List Value} {Q : Value → Shared → Prop} (hh : A.handled = none) (ht : h₀.IsTuple t vs.toArray) (hi : AreOf K vs as) (F : Fr h₀ L s.heap m) (N : News h₀ L s.heap news)
    (k : ∀ h' e, Fr h₀ L h' m → News h₀ L h' news → PairSrcL prog w A E h₀ L K as (.ref e) { s with heap := h' } m news → Q (.ref e) { s with heap := h' }) :
    wpAny (model prog w) A (call (.type "enumerate") [.ref t]) Q E s := by
  obtain ⟨o, ho, q⟩ := ht
  obtain ⟨at1, at2, up⟩ := enumHeap_facts s.heap t
  have a1 : @LT.lt Nat _ t h₀.objs.size := Heap.lt_size ho
  have a2 : @LE.le Nat _ h₀.objs.size L := F.above
  have a3 : @LT.lt Nat _ L s.heap.objs.size := F.ns.lt
  have fresh : ∀ b : Addr, @LT.lt Nat _ L b → h₀.get? b = none := fun b hb => Heap.get?_none_of_le (Nat.le_of_lt (Nat.lt_of_le_of_lt a2 hb))
  refine enum_call ⟨o, F.keep _ _ ho, q⟩ (k _ _ (F.keeps up) (N.grown up) ?_)
  rintro env rfl
  refine enumSrc (tupleDraws (A := A.in1) hh (it := s.heap.objs.size) (t := t) (Nat.ne_of_lt (by omega)) vs.toArray) at2 ⟨⟨_, at1, rfl, rfl⟩, o, up _ _ (F.keep _ _ ho), q⟩ (Nat.succ_ne_self _) ?_ (.head _) ?_
    (fresh _ (by omega)) (fresh _ a3) ?_ (by simp [hi.length]) (fun i x hx => hi.get i x (by simpa using hx)) (F.keeps up) (N.grown up)
  · intro hm
    rcases of_pair hm with e | e <;> omega
  · intro hm
    rcases List.mem_cons.mp hm with e | hm
    · have e' : @Eq Nat _ _ := e
      omega
    · rcases of_pair hm with e | e <;> omega
  · intro b hb p hp e
    subst e
    have b1 : @LT.lt Nat _ p.1 s.heap.objs.size := Heap.lt_size (N p hp).1
    rcases List.mem_cons.mp hb with e | hb
    · have e' : @Eq Nat _ _ := e
      omega
    · rcases of_pair hb with e | e
      · omega
      · exact absurd (N p hp).2.2 (by rw [show p.1 = t from e, ho]; simp)
end
end Mine
end

-- part C0
section
set_option maxRecDepth 100000
namespace Mine

/-- a row of the table: name, least, most, kind -/
def rowE (i : Nat) : Option (Str × Int × Int × Int) := match (tabE 2)[i]? with
  | some (.Tuple [.Constant (.str x) _ _, .Constant (.int a) _ _, .Constant (.int b) _ _, .Constant (.int k) _ _] _ _) => some (x, a, b, k)
  | some (.Tuple [.Constant (.str x) _ _, .Constant (.int a) _ _, .UnaryOp .USub (.Constant (.int b) _ _) _, .Constant (.int k) _ _] _ _) => some (x, a, -b, k)
  | _ => none
def rowD (i : Nat) : Str × Int × Int × Int := (rowE i).getD (⟨#[]⟩, 0, 0, 0)
def nm (i : Nat) : Str := (rowD i).1
def lo (i : Nat) : Int := (rowD i).2.1
def hi (i : Nat) : Int := (rowD i).2.2.1

theorem rowO_of {i tk : Nat} {x : Str} {a b k : Int} (h : rowE i = some (x, a, b, k)) : ∃ t1 t2 t3 t4, rowO 2 i tk = tupO [.str x t1, .int a t2, .int b t3, .int k t4] := by
  unfold rowE at h
  unfold rowO
  split at h
  · rename_i e
    cases h
    rw [e]
    exact ⟨_, _, _, _, rfl⟩
  · rename_i e
    cases h
    rw [e]
    exact ⟨_, _, _, _, rfl⟩
  · cases h
theorem rowE_some : ∀ i < 192, (rowE i).isSome = true := by
  have h : (List.range 192).all (fun i => (rowE i).isSome) = true := by kernel_rfl
  intro i hi
  exact List.all_eq_true.mp h i (List.mem_range.mpr hi)
theorem rowD_of {i : Nat} (h : i < 192) : rowE i = some (nm i, lo i, hi i, (rowD i).2.2.2) := by
  obtain ⟨r, e⟩ := Option.isSome_iff_exists.mp (rowE_some i h)
  unfold nm lo Mine.hi rowD
  rw [e]; rfl

theorem row_in (P : Params) {i : Nat} (h : i < 192) : ∃ t1 t2 t3 t4, (KK P).lookup (15 + i) = some (tupO [.str (nm i) t1, .int (lo i) t2, .int (hi i) t3, .int (rowD i).2.2.2 t4]) := by
  have e : (List.range 192).map (fun i => (KK P).lookup (15 + i)) = (List.range 192).map (fun i => some (rowO 2 i (tok2.getD i 0))) := by kernel_rfl
  have e1 := List.map_inj_left.mp e i (List.mem_range.mpr h)
  obtain ⟨t1, t2, t3, t4, e2⟩ := rowO_of (tk := tok2.getD i 0) (rowD_of h)
  exact ⟨t1, t2, t3, t4, by rw [e1, e2]⟩
theorem rows_in (P : Params) : (KK P).lookup 207 = some (tupO ((List.range 192).map fun i => .ref (15 + i))) := by kernel_rfl

/-- the place of a name, -1 of none -/
def opOf (x : Str) : Int := match (List.range 192).zipIdx.find? (fun p => nm p.1 == x) with
  | some (_, i) => (i : Int)
  | none => -1

/-- what a call of a def without effects hands back -/
abbrev Pure (d : Nat) (w : World) (f : Addr) (vs : List Value) (R : Tok → Value) : Prop :=
  ∀ (dp un : Nat) (gd : Option (List Code)) (cn : Str) (cs : Scope) (a : Addr) (ccd : Value) (cl : List (Str × Addr)) (outer : List Env) (A₀ : Around) (base h₀ : Heap) (L : Addr) (m : Str → Option Value)
    (p : Program) (loose : List Str) (mean : ExcName → Option Value) (mg mb : Str → Option Value) (news : List (Addr × Obj)) (s : Shared) (Q E : Value → Shared → Prop),
    Below A₀ base outer h₀ → Fr h₀ L s.heap m → (KK w.params).In h₀ → News h₀ L s.heap news → Top p loose mean mg mb h₀ → cs.kind = .function → dp + d < recursionLimit → un + 20 * d < cLine →
    CbRet h₀ L m news s Q R → wpAny (model PySem.Challenge.rw_on0292_01.row.prog w) (ktrTop dp un gd cn cs L a ccd cl outer) (call (.ref f) vs) Q E s

theorem Pure.use {d : Nat} {w : World} {f : Addr} {vs : List Value} {R : Tok → Value} {dp un : Nat} {gd : Option (List Code)} {cn : Str} {cs : Scope} {a : Addr} {ccd : Value} {cl : List (Str × Addr)} {outer : List Env} {A₀ : Around} {base h₀ : Heap} {L : Addr} {m : Str → Option Value}
    {p : Program} {loose : List Str} {mean : ExcName → Option Value} {mg mb : Str → Option Value} {news : List (Addr × Obj)} {s : Shared} {Q E : Value → Shared → Prop} (C : Pure d w f vs R)
    (B : Below A₀ base outer h₀) (F : Fr h₀ L s.heap m) (X : (KK w.params).In h₀) (N : News h₀ L s.heap news) (T : Top p loose mean mg mb h₀) (hk : cs.kind = .function) (hd : dp + d < recursionLimit) (hu : un + 20 * d < cLine)
    (ret : CbRet h₀ L m news s Q R) : wpAny (model PySem.Challenge.rw_on0292_01.row.prog w) (ktrTop dp un gd cn cs L a ccd cl outer) (call (.ref f) vs) Q E s :=
  C dp un gd cn cs a ccd cl outer A₀ base h₀ L m p loose mean mg mb news s Q E B F X N T hk hd hu ret
section
variable {prog : Program} {w : World} {A : Around} {E : Value → Shared → Prop} {s : Shared} {h₀ : Heap} {L : Addr} {m : Str → Option Value}
theorem sub_rows {value slice : PySem.Expr} {k : Int} {u : Tok} {Q : Value → Shared → Prop} (F : Fr h₀ L s.heap m) (X₀ : (KK w.params).In h₀) (h0 : 0 ≤ k) (h1 : k < 192) (h : Q (.ref (15 + k.toNat)) s)
    (hs : subscripted slice false (.ref 207) (.int k u) = operate [.ref 207, .int k u] (getItem (.ref 207) (.int k u)) := by with_unfolding_all rfl) :
    wpAny (model prog w) A (subscriptTail value slice (.ref 207) (.int k u)) Q E s := by
  obtain ⟨j, rfl⟩ : ∃ j : Nat, k = j := ⟨k.toNat, (Int.toNat_of_nonneg h0).symm⟩
  have hj : j < 192 := by omega
  refine topTup_K F X₀ (rows_in w.params) (by omega) (by omega) (j := j) ?_ ?_ h hs
  · have hn : ¬ ((j : Int) < 0) := by omega
    simp [seqIndex?, hn]; omega
  · simp [hj]
theorem sub_row0 {value slice : PySem.Expr} {i : Nat} {u : Tok} {Q : Value → Shared → Prop} (F : Fr h₀ L s.heap m) (X₀ : (KK w.params).In h₀) (hi : i < 192) (h : ∀ t, Q (.str (nm i) t) s)
    (hs : subscripted slice false (.ref (15 + i)) (.int 0 u) = operate [.ref (15 + i), .int 0 u] (getItem (.ref (15 + i)) (.int 0 u)) := by with_unfolding_all rfl) :
    wpAny (model prog w) A (subscriptTail value slice (.ref (15 + i)) (.int 0 u)) Q E s := by
  obtain ⟨t1, t2, t3, t4, e⟩ := row_in w.params hi
  exact topTup_K F X₀ e (by omega) (by omega) (j := 0) rfl rfl (h t1) hs
theorem sub_row1 {value slice : PySem.Expr} {i : Nat} {u : Tok} {Q : Value → Shared → Prop} (F : Fr h₀ L s.heap m) (X₀ : (KK w.params).In h₀) (hi : i < 192) (h : ∀ t, Q (.int (lo i) t) s)
    (hs : subscripted slice false (.ref (15 + i)) (.int 1 u) = operate [.ref (15 + i), .int 1 u] (getItem (.ref (15 + i)) (.int 1 u)) := by with_unfolding_all rfl) :
    wpAny (model prog w) A (subscriptTail value slice (.ref (15 + i)) (.int 1 u)) Q E s := by
  obtain ⟨t1, t2, t3, t4, e⟩ := row_in w.params hi
  exact topTup_K F X₀ e (by omega) (by omega) (j := 1) rfl rfl (h t2) hs
theorem sub_row2 {value slice : PySem.Expr} {i : Nat} {u : Tok} {Q : Value → Shared → Prop} (F : Fr h₀ L s.heap m) (X₀ : (KK w.params).In h₀) (hi : i < 192) (h : ∀ t, Q (.int (Mine.hi i) t) s)
    (hs : subscripted slice false (.ref (15 + i)) (.int 2 u) = operate [.ref (15 + i), .int 2 u] (getItem (.ref (15 + i)) (.int 2 u)) := by with_unfolding_all rfl) :
    wpAny (model prog w) A (subscriptTail value slice (.ref (15 + i)) (.int 2 u)) Q E s := by
  obtain ⟨t1, t2, t3, t4, e⟩ := row_in w.params hi
  exact topTup_K F X₀ e (by omega) (by omega) (j := 2) rfl rfl (h t3) hs
end
end Mine
end

-- part C1
section
set_option maxRecDepth 100000
set_option maxHeartbeats 4000000
namespace Mine
local macro_rules | `(tactic| walk_at "subscriptTail") => `(tactic| (k_here; (with_reducible show wpAny _ _ (subscriptTail _ _ (Value.ref 207) (Value.int _ _)) _ _ _); (with_unfolding_all refine' sub_rows ?k1 ?k2 ?k3 ?k4 ?_ ?k6; (case k1 => k_asm); (case k2 => k_asm); (case k3 => assumption); (case k4 => assumption); (case k6 => with_unfolding_all rfl); k_whole)))
local macro_rules | `(tactic| walk_at "subscriptTail") => `(tactic| (k_here; (with_reducible show wpAny _ _ (subscriptTail _ _ (Value.ref (15 + _)) (Value.int 0 _)) _ _ _); (with_unfolding_all refine' sub_row0 ?k1 ?k2 ?k3 ?_ ?k6; (case k1 => k_asm); (case k2 => k_asm); (case k3 => omega); (case k6 => with_unfolding_all rfl); k_whole; intro t')))
local macro_rules | `(tactic| walk_at "subscriptTail") => `(tactic| (k_here; (with_reducible show wpAny _ _ (subscriptTail _ _ (Value.ref (15 + _)) (Value.int 1 _)) _ _ _); (with_unfolding_all refine' sub_row1 ?k1 ?k2 ?k3 ?_ ?k6; (case k1 => k_asm); (case k2 => k_asm); (case k3 => omega); (case k6 => with_unfolding_all rfl); k_whole; intro t')))
local macro_rules | `(tactic| walk_at "subscriptTail") => `(tactic| (k_here; (with_reducible show wpAny _ _ (subscriptTail _ _ (Value.ref (15 + _)) (Value.int 2 _)) _ _ _); (with_unfolding_all refine' sub_row2 ?k1 ?k2 ?k3 ?_ ?k6; (case k1 => k_asm); (case k2 => k_asm); (case k3 => omega); (case k6 => with_unfolding_all rfl); k_whole; intro t')))

theorem how_many (w : World) : Pure 1 w 214 [] (fun t => .int 192 t) := by
  unfold Pure; k_fill
  intro dp un gd cn cs a ccd cl outer A₀ base h₀ L m p loose mean mg mb news s Q E hB hF hK hN hT hk hdp hun hret
  refine wpAny_call ?_
  k_dflt cell_enter
  k_steps
  exact hret _ _ _ (by k_asm) (by k_asm)
theorem name_of (w : World) {k : Int} {u : Tok} (h0 : 0 ≤ k) (h1 : k < 192) : Pure 1 w 228 [.int k u] (fun t => .str (nm k.toNat) t) := by
  unfold Pure; k_fill
  intro dp un gd cn cs a ccd cl outer A₀ base h₀ L m p loose mean mg mb news s Q E hB hF hK hN hT hk hdp hun hret
  refine wpAny_call ?_
  k_dflt cell_enter
  k_steps
  exact hret _ _ _ (by k_asm) (by k_asm)
theorem least_of (w : World) {k : Int} {u : Tok} (h0 : 0 ≤ k) (h1 : k < 192) : Pure 1 w 235 [.int k u] (fun t => .int (lo k.toNat) t) := by
  unfold Pure; k_fill
  intro dp un gd cn cs a ccd cl outer A₀ base h₀ L m p loose mean mg mb news s Q E hB hF hK hN hT hk hdp hun hret
  refine wpAny_call ?_
  k_dflt cell_enter
  k_steps
  exact hret _ _ _ (by k_asm) (by k_asm)
theorem most_of (w : World) {k : Int} {u : Tok} (h0 : 0 ≤ k) (h1 : k < 192) : Pure 1 w 242 [.int k u] (fun t => .int (hi k.toNat) t) := by
  unfold Pure; k_fill
  intro dp un gd cn cs a ccd cl outer A₀ base h₀ L m p loose mean mg mb news s Q E hB hF hK hN hT hk hdp hun hret
  refine wpAny_call ?_
  k_dflt cell_enter
  k_steps
  exact hret _ _ _ (by k_asm) (by k_asm)
end Mine
end

-- part C2
section
set_option maxRecDepth 100000
set_option maxHeartbeats 4000000
namespace Mine
/-- the table's rows, as the enumerate hands them on -/
def rowK : ItemKind Nat := ⟨fun i v => v = .ref (15 + i) ∧ i < 192, fun v => match v with | .ref a => some (a - 15) | _ => none, fun i v h => by obtain ⟨rfl, _⟩ := h; simp⟩
theorem rows_areOf : AreOf rowK ((List.range 192).map fun i => Value.ref (15 + i)) (List.range 192) := by
  have h : ∀ l : List Nat, (∀ i ∈ l, i < 192) → AreOf rowK (l.map fun i => Value.ref (15 + i)) l := by
    intro l
    induction l with
    | nil => intro _; exact .nil
    | cons i r ih => intro hl; exact .cons ⟨rfl, hl i (.head _)⟩ (ih fun j hj => hl j (.tail _ hj))
  exact h _ fun i hi => List.mem_range.mp hi
theorem rows_tup {w : World} {h : Heap} (X : (KK w.params).In h) : h.IsTuple 207 ((List.range 192).map fun i => Value.ref (15 + i)).toArray := ⟨_, X _ _ (rows_in w.params), rfl, 0, rfl⟩

local macro_rules | `(tactic| walk_at "subscriptTail") => `(tactic| (k_here; (with_reducible show wpAny _ _ (subscriptTail _ _ (Value.ref (15 + _)) (Value.int 0 _)) _ _ _); (with_unfolding_all refine' sub_row0 ?k1 ?k2 ?k3 ?_ ?k6; (case k1 => k_asm); (case k2 => k_asm); (case k3 => omega); (case k6 => with_unfolding_all rfl); k_whole; intro t')))
local macro_rules | `(tactic| walk_at "call type:enumerate") => `(tactic| (k_here; (with_reducible show wpAny _ _ (call (Value.type _) [Value.ref 207]) _ _ _); (with_unfolding_all refine enumT (by rfl) (rows_tup (by k_asm)) rows_areOf (by k_asm) (by k_asm) ?_); intro h' e' F' N' S'))

theorem op_of (w : World) (x : Str) (u : Tok) : Pure 1 w 221 [.str x u] (fun t => .int (opOf x) t) := by
  unfold Pure; k_fill
  intro dp un gd cn cs a ccd cl outer A₀ base h₀ L m p loose mean mg mb news s Q E hB hF hK hN hT hk hdp hun hret
  refine wpAny_call ?_
  k_dflt cell_enter
  k_steps
  rename_i h' e' F' N' S'
  refine Pair_leave (pz := fun i _ => nm i == x) (PairSrcL.at S' _ rfl) (by rfl) ?g1 ?g2 ?g3
  case g1 =>
    intro i b t v s₁ own hb hv F₁ N₁
    obtain ⟨rfl, hi⟩ := hv
    clear F' N' S'
    k_steps
    exact ⟨s₁.heap, _, rfl, fun _ _ e => e⟩
  case g2 =>
    intro i b t v own h₄ tk₄ hb hp hfind hv F₁ N₁
    obtain ⟨rfl, hi⟩ := hv
    clear F' N' S'
    k_steps
    rename News h₀ L _ (own ++ news) => kN
    refine cb_retI hret ?_ (by k_asm) (cb_drop kN fun q hq => List.mem_append_right _ hq)
    unfold opOf; rw [hfind]
  case g3 =>
    intro h₁ tk vi vl F₁ N₁ hnone
    clear F' N' S'
    k_steps
    refine cb_retI hret ?_ (by k_asm) (by k_asm)
    have hn : (List.range 192).zipIdx.find? (fun p => nm p.1 == x) = none := List.find?_eq_none.mpr fun p hp => by rw [hnone p hp]; exact Bool.false_ne_true
    unfold opOf; rw [hn]
end Mine
end

-- part C3
section
set_option maxRecDepth 100000
set_option maxHeartbeats 4000000
namespace Mine
local macro_rules | `(tactic| walk_at "call ref") => `(tactic| (k_here; (with_reducible show wpAny _ _ (call (Value.ref 235) _) _ _ _); (with_unfolding_all refine' Pure.use (least_of _ ?h0 ?h1) ?k1 ?k2 ?k3 ?k4 ?k5 ?kK ?kd ?ku ?_; (case k1 => k_asm); (case k2 => k_asm); (case k3 => k_asm); (case k4 => k_asm); (case k5 => k_asm); (case kK => first | exact rfl | assumption); (case kd => ktr_room); (case ku => ktr_units); (case h0 => assumption); (case h1 => assumption); k_whole); intro t9 h9 tk9 F9 N9; (try dsimp only); (try k_fold)))
local macro_rules | `(tactic| walk_at "call ref") => `(tactic| (k_here; (with_reducible show wpAny _ _ (call (Value.ref 242) _) _ _ _); (with_unfolding_all refine' Pure.use (most_of _ ?h0 ?h1) ?k1 ?k2 ?k3 ?k4 ?k5 ?kK ?kd ?ku ?_; (case k1 => k_asm); (case k2 => k_asm); (case k3 => k_asm); (case k4 => k_asm); (case k5 => k_asm); (case kK => first | exact rfl | assumption); (case kd => ktr_room); (case ku => ktr_units); (case h0 => assumption); (case h1 => assumption); k_whole); intro t9 h9 tk9 F9 N9; (try dsimp only); (try k_fold)))

/-- what «takes» answers -/
def takesV (k n : Int) : Bool := decide (lo k.toNat ≤ n) && (decide (hi k.toNat = -1) || decide (n ≤ hi k.toNat))
theorem takes_1 {k n : Int} (h1 : lo k.toNat ≤ n) (h2 : hi k.toNat = -1) : (hi k.toNat == -1) = takesV k n := by unfold takesV; simp [h1, h2]
theorem takes_2 {k n : Int} (h1 : lo k.toNat ≤ n) (h2 : hi k.toNat ≠ -1) : decide (n ≤ hi k.toNat) = takesV k n := by unfold takesV; simp [h1, h2]
theorem takes_3 {k n : Int} (h1 : ¬ lo k.toNat ≤ n) : decide (lo k.toNat ≤ n) = takesV k n := by unfold takesV; simp [h1]
theorem takes (w : World) {k n : Int} {u v : Tok} (h0 : 0 ≤ k) (h1 : k < 192) : Pure 2 w 249 [.int k u, .int n v] (fun _ => .bool (takesV k n)) := by
  unfold Pure; k_fill
  intro dp un gd cn cs a ccd cl outer A₀ base h₀ L m p loose mean mg mb news s Q E hB hF hK hN hT hk hdp hun hret
  refine wpAny_call ?_
  k_dflt cell_enter
  k_steps
  · exact cb_retB hret (takes_1 (by assumption) (by assumption)) (by k_asm) (by k_asm)
  · exact cb_retB hret (takes_2 (by assumption) (by assumption)) (by k_asm) (by k_asm)
  · exact cb_retB hret (takes_3 (by assumption)) (by k_asm) (by k_asm)
/-- what «_law_is_let» answers -/
def letV (a b n : Int) : Bool := decide (a ≤ n) && (decide (b < 0) || decide (n ≤ b))
theorem let_1 {a b n : Int} (h1 : a ≤ n) (h2 : b < 0) : decide (b < 0) = letV a b n := by unfold letV; simp [h1, h2]
theorem let_2 {a b n : Int} (h1 : a ≤ n) (h2 : ¬ b < 0) : decide (n ≤ b) = letV a b n := by unfold letV; simp [h1, h2]
theorem let_3 {a b n : Int} (h1 : ¬ a ≤ n) : decide (a ≤ n) = letV a b n := by unfold letV; simp [h1]
theorem is_let (w : World) {a b n : Int} {u v x : Tok} : Pure 1 w 287 [.int a u, .int b v, .int n x] (fun _ => .bool (letV a b n)) := by
  unfold Pure; k_fill
  intro dp un gd cn cs ad ccd cl outer A₀ base h₀ L m p loose mean mg mb news s Q E hB hF hK hN hT hk hdp hun hret
  refine wpAny_call ?_
  k_dflt cell_enter
  k_steps
  · exact cb_retB hret (let_1 (by assumption) (by assumption)) (by k_asm) (by k_asm)
  · exact cb_retB hret (let_2 (by assumption) (by assumption)) (by k_asm) (by k_asm)
  · exact cb_retB hret (let_3 (by assumption)) (by k_asm) (by k_asm)
end Mine
end

-- part C4
section
set_option maxRecDepth 100000
set_option maxHeartbeats 4000000
namespace Mine
theorem updF_upd {d : Addr} {o o' : Obj} : ∀ {l : List (Addr × Obj)} {g : Obj → List (Addr × Obj)}, UpdF d o l g → Upd d o o' l (g o')
  | _, _, .head h => .head h
  | _, _, .tail h r => .tail h (updF_upd r)
theorem updF_mem {d : Addr} {o o' : Obj} : ∀ {l : List (Addr × Obj)} {g : Obj → List (Addr × Obj)}, UpdF d o l g → (d, o') ∈ g o'
  | _, _, .head _ => .head _
  | _, _, .tail _ r => .tail _ (updF_mem r)
theorem updF_old {d : Addr} {o : Obj} : ∀ {l : List (Addr × Obj)} {g : Obj → List (Addr × Obj)}, UpdF d o l g → (d, o) ∈ l
  | _, _, .head _ => .head _
  | _, _, .tail _ r => .tail _ (updF_old r)
theorem updF_keep {d b : Addr} {o o' ob : Obj} {l : List (Addr × Obj)} {g : Obj → List (Addr × Obj)} (hb : b ≠ d) (U : UpdF d o l g) (hm : (b, ob) ∈ l) : (b, ob) ∈ g o' := by
  induction U with
  | head h =>
    rcases List.mem_cons.mp hm with q | q
    · exact absurd (congrArg Prod.fst q) hb
    · exact List.mem_cons_of_mem _ q
  | tail h r ih =>
    rcases List.mem_cons.mp hm with q | q
    · exact q ▸ List.mem_cons_self ..
    · exact List.mem_cons_of_mem _ (ih q)

abbrev deckO (b : Addr) (k : Int) (t : Tok) (e : Nat) : Obj := listOf [Value.ref b, Value.int k t].toArray e

section
variable {prog : Program} {w : World} {A : Around} {E : Value → Shared → Prop} {s : Shared} {h₀ : Heap} {L : Addr} {m : Str → Option Value} {news : List (Addr × Obj)}
theorem deck_set {d b : Addr} {k k' : Int} {t t' tk : Tok} {e : Nat} {g : Obj → List (Addr × Obj)} {ob : Obj} {Q : Unit → Shared → Prop} (F : Fr h₀ L s.heap m) (N : News h₀ L s.heap news) (U : UpdF d (deckO b k t e) news g) (hb : (b, ob) ∈ news) (hbd : b ≠ d)
    (h : ∀ h', Fr h₀ L h' m → News h₀ L h' (g (deckO b k' t' e)) → (d, deckO b k' t' e) ∈ g (deckO b k' t' e) → (b, ob) ∈ g (deckO b k' t' e) → Q () { s with heap := h' }) :
    wpAny (model prog w) A (setItem (.ref d) (.int 1 tk) (.int k' t')) Q E s :=
  ki_set F N (by decide) (by decide) (q := [.ref b, .int k' t']) rfl (updF_upd U) fun h' F' N' => h h' F' N' (updF_mem U) (updF_keep hbd U hb)
theorem mem_item {value slice : PySem.Expr} {D : Addr} {its : Array Value} {n : Nat} {k : Int} {u : Tok} {v : Value} {Q : Value → Shared → Prop} (N : News h₀ L s.heap news) (hm : (D, listOf its n) ∈ news)
    (h0 : 0 ≤ k) (hhi : k < 2 ^ 63) (hx : its[k.toNat]? = some v) (h : Q v s)
    (hs : subscripted slice false (.ref D) (.int k u) = operate [.ref D, .int k u] (getItem (.ref D) (.int k u)) := by with_unfolding_all rfl) :
    wpAny (model prog w) A (subscriptTail value slice (.ref D) (.int k u)) Q E s :=
  have hL : s.heap.IsList D its := PySem.IsL.isList (n := n) (N _ hm).1
  tail_any hL.typeIs slot_list_getitem.lookup (wpAny_getItem_list hL h0 hhi hx h) hs
theorem mem_lenI {D : Addr} {vs : List Value} {ns : List Int} {n : Nat} {Q : Value → Shared → Prop} (N : News h₀ L s.heap news) (hm : (D, listOf vs.toArray n) ∈ news) (hi : IntsAre vs ns) (hl : ns.length ≤ 41)
    (h : Q (.int (ns.length : Nat) (s.toks + 1)) { s with toks := s.toks + 1 + 1 }) : wpAny (model prog w) A (call (.builtin "len") [.ref D]) Q E s := by
  have hL : s.heap.IsList D vs.toArray := PySem.IsL.isList (n := n) (N _ hm).1
  have e : vs.toArray.size = ns.length := by simp [hi.length]
  refine Calls.call_len_list hL (by omega) ?_
  rw [e]; exact h
theorem mem_int {value slice : PySem.Expr} {D : Addr} {vs : List Value} {ns : List Int} {n : Nat} {k : Int} {u : Tok} {Q : Value → Shared → Prop} (N : News h₀ L s.heap news) (hm : (D, listOf vs.toArray n) ∈ news) (hi : IntsAre vs ns)
    (hns : ∀ n ∈ ns, 0 ≤ n ∧ n < 1000003) (hl : ns.length ≤ 41) (h0 : 0 ≤ k) (h1 : k < ns.length) (h : ∀ r t, 0 ≤ r → r < 1000003 → Q (.int r t) s)
    (hs : subscripted slice false (.ref D) (.int k u) = operate [.ref D, .int k u] (getItem (.ref D) (.int k u)) := by with_unfolding_all rfl) :
    wpAny (model prog w) A (subscriptTail value slice (.ref D) (.int k u)) Q E s := by
  have hk : k.toNat < ns.length := by omega
  obtain ⟨t, ht⟩ := hi.get k.toNat ns[k.toNat] (by simp [hk])
  have hb := hns _ (List.getElem_mem hk)
  exact mem_item N hm h0 (by omega) (by simpa using ht) (h _ t hb.1 hb.2) hs
theorem mod_gen {a b : Int} {t u : Tok} {Q : Value → Shared → Prop} (hb : 0 < b) (h : ∀ r t', 0 ≤ r → r < b → Q (.int r t') { s with toks := s.toks + 1 }) : wpAny (model prog w) A (binaryOp .Mod (.int a t) (.int b u)) Q E s :=
  mod_int' (by omega) (h _ _ (fmod_lo a hb) (fmod_hi a hb))
theorem mul_gen {a b : Int} {t u : Tok} {Q : Value → Shared → Prop} (h1 : -(2 ^ 64) < b) (h2 : b < 2 ^ 64) (h : ∀ r t', Q (.int r t') { s with toks := s.toks + 1 }) : wpAny (model prog w) A (binaryOp .Mult (.int a t) (.int b u)) Q E s :=
  PyProof.Rows.mul_int (h _ _) (IntMulOk.of_right (intBits_le_64 h1 h2))
theorem div_gen {a : Int} {t u : Tok} {Q : Value → Shared → Prop} (h : ∀ r t', Q (.int r t') { s with toks := s.toks + 1 }) : wpAny (model prog w) A (binaryOp .FloorDiv (.int a t) (.int 128 u)) Q E s :=
  floordiv_int (by decide) (h _ _) (Or.inl (PyProof.noPylong_small (by decide)))
end
local macro_rules | `(tactic| walk_at "binaryOp Mod int int") => `(tactic| (refine mod_gen (by omega) ?_; intro r9 t9 hr9 hs9; (try dsimp only)))
local macro_rules | `(tactic| walk_at "binaryOp Mult int int") => `(tactic| (refine mul_gen (by omega) (by omega) ?_; intro r9 t9; (try dsimp only)))
local macro_rules | `(tactic| walk_at "binaryOp FloorDiv int int") => `(tactic| (refine div_gen ?_; intro r9 t9; (try dsimp only)))
local macro_rules | `(tactic| walk_at "subscriptTail") => `(tactic| (k_here; (with_reducible show wpAny _ _ (subscriptTail _ _ (Value.ref _) (Value.int _ _)) _ _ _); (with_unfolding_all refine' mem_int ?k1 ?k2 ?k3 ?k4 ?k5 ?k6 ?k7 ?_ ?k8; (case k1 => k_asm); (case k2 => with_reducible assumption); (case k3 => assumption); (case k4 => assumption); (case k5 => assumption); (case k6 => omega); (case k7 => omega); (case k8 => with_unfolding_all rfl); k_whole); intro r9 t9 hr9 hs9; (try dsimp only)))
local macro_rules | `(tactic| walk_at "call builtin:len") => `(tactic| (k_here; (with_reducible show wpAny _ _ (call (Value.builtin "len") [Value.ref _]) _ _ _); (with_unfolding_all refine' mem_lenI ?k1 ?k2 ?k3 ?k4 ?_; (case k1 => k_asm); (case k2 => with_reducible assumption); (case k3 => assumption); (case k4 => assumption); k_whole)))
local macro_rules | `(tactic| walk_at "subscriptTail") => `(tactic| (k_here; (with_reducible show wpAny _ _ (subscriptTail _ _ (Value.ref _) (Value.int 1 _)) _ _ _); (with_unfolding_all refine' mem_item (v := Value.int _ _) ?k1 ?k2 ?k3 ?k4 ?k5 ?_ ?k6; (case k1 => k_asm); (case k2 => with_reducible assumption); (case k3 => decide); (case k4 => decide); (case k5 => exact rfl); (case k6 => with_unfolding_all rfl); k_whole)))
local macro_rules | `(tactic| walk_at "subscriptTail") => `(tactic| (k_here; (with_reducible show wpAny _ _ (subscriptTail _ _ (Value.ref _) (Value.int 0 _)) _ _ _); (with_unfolding_all refine' mem_item (v := Value.ref _) ?k1 ?k2 ?k3 ?k4 ?k5 ?_ ?k6; (case k1 => k_asm); (case k2 => with_reducible assumption); (case k3 => decide); (case k4 => decide); (case k5 => exact rfl); (case k6 => with_unfolding_all rfl); k_whole)))
local macro_rules | `(tactic| walk_at "setItem ref int") => `(tactic| (k_here; (with_reducible show wpAny _ _ (setItem (Value.ref _) (Value.int 1 _) (Value.int _ _)) _ _ _); (with_unfolding_all refine' deck_set ?k1 ?k2 ?k3 ?k4 ?k5 ?_; (case k1 => k_asm); (case k2 => k_asm); (case k3 => assumption); (case k4 => assumption); (case k5 => assumption); k_whole); intro h' F' N' M1 M2; (try k_sweep)))

abbrev DrawC (w : World) : Prop :=
  ∀ (dp un : Nat) (gd : Option (List Code)) (cn : Str) (cs : Scope) (a : Addr) (ccd : Value) (cl : List (Str × Addr)) (outer : List Env) (A₀ : Around) (base h₀ : Heap) (L : Addr) (m : Str → Option Value)
    (p : Program) (loose : List Str) (mean : ExcName → Option Value) (mg mb : Str → Option Value) (news : List (Addr × Obj)) (s : Shared) (Q E : Value → Shared → Prop)
    (d b : Addr) (k many : Int) (t u : Tok) (e eb : Nat) (vs : List Value) (ns : List Int) (g : Obj → List (Addr × Obj)),
    Below A₀ base outer h₀ → Fr h₀ L s.heap m → (KK w.params).In h₀ → News h₀ L s.heap news → Top p loose mean mg mb h₀ → cs.kind = .function → dp + 1 < recursionLimit → un + 20 < cLine →
    UpdF d (deckO b k t e) news g → (b, listOf vs.toArray eb) ∈ news → b ≠ d → IntsAre vs ns → 1 ≤ ns.length → ns.length ≤ 41 → (∀ n ∈ ns, 0 ≤ n ∧ n < 1000003) → 0 ≤ k → k < 100 → 0 < many → many < 1000 →
    (∀ v tv h' tk' t', 0 ≤ v → v < many → Fr h₀ L h' m → News h₀ L h' (g (deckO b (k + 1) t' e)) → Q (.int v tv) { s with heap := h', toks := tk' }) →
    wpAny (model PySem.Challenge.rw_on0292_01.row.prog w) (ktrTop dp un gd cn cs L a ccd cl outer) (call (.ref 280) [.ref d, .int many u]) Q E s

theorem draw (w : World) : DrawC w := by
  unfold DrawC; k_fill
  intro dp un gd cn cs a ccd cl outer A₀ base h₀ L m p loose mean mg mb news s Q E d b k many t u e eb vs ns g hB hF hK hN hT hk hdp hun hU hb hbd hi hl1 hl2 hns hk0 hk1 hm0 hm1 hret
  have hd := updF_old hU
  refine wpAny_call ?_
  k_dflt cell_enter
  k_steps
  all_goals exact hret _ _ _ _ _ (by assumption) (by assumption) (by k_asm) (by k_asm)
theorem DrawC.use {w : World} {dp un : Nat} {gd : Option (List Code)} {cn : Str} {cs : Scope} {a : Addr} {ccd : Value} {cl : List (Str × Addr)} {outer : List Env} {A₀ : Around} {base h₀ : Heap} {L : Addr} {m : Str → Option Value}
    {p : Program} {loose : List Str} {mean : ExcName → Option Value} {mg mb : Str → Option Value} {news : List (Addr × Obj)} {s : Shared} {Q E : Value → Shared → Prop}
    {d b : Addr} {k many : Int} {t u : Tok} {e eb : Nat} {vs : List Value} {ns : List Int} {g : Obj → List (Addr × Obj)}
    (B : Below A₀ base outer h₀) (F : Fr h₀ L s.heap m) (X : (KK w.params).In h₀) (N : News h₀ L s.heap news) (T : Top p loose mean mg mb h₀) (hk : cs.kind = .function) (hd : dp + 1 < recursionLimit) (hu : un + 20 < cLine)
    (U : UpdF d (deckO b k t e) news g) (hb : (b, listOf vs.toArray eb) ∈ news) (hbd : b ≠ d) (hi : IntsAre vs ns) (h1 : 1 ≤ ns.length) (h2 : ns.length ≤ 41) (hns : ∀ n ∈ ns, 0 ≤ n ∧ n < 1000003) (k0 : 0 ≤ k) (k1 : k < 100) (m0 : 0 < many) (m1 : many < 1000)
    (ret : ∀ v tv h' tk' t', 0 ≤ v → v < many → Fr h₀ L h' m → News h₀ L h' (g (deckO b (k + 1) t' e)) → Q (.int v tv) { s with heap := h', toks := tk' }) :
    wpAny (model PySem.Challenge.rw_on0292_01.row.prog w) (ktrTop dp un gd cn cs L a ccd cl outer) (call (.ref 280) [.ref d, .int many u]) Q E s :=
  draw w dp un gd cn cs a ccd cl outer A₀ base h₀ L m p loose mean mg mb news s Q E d b k many t u e eb vs ns g B F X N T hk hd hu U hb hbd hi h1 h2 hns k0 k1 m0 m1 ret
end Mine
end

-- part C5
section
set_option maxRecDepth 100000
set_option maxHeartbeats 4000000
namespace Mine
theorem op_of' (w : World) {x : Str} {k : Int} {u : Tok} (h : opOf x = k) : Pure 1 w 221 [.str x u] (fun t => .int k t) := h ▸ op_of w x u
theorem name_of' (w : World) {k : Int} {x : Str} {u : Tok} (h0 : 0 ≤ k) (h1 : k < 192) (h : nm k.toNat = x) : Pure 1 w 228 [.int k u] (fun t => .str x t) := h ▸ name_of w h0 h1
theorem least_of' (w : World) {k a : Int} {u : Tok} (h0 : 0 ≤ k) (h1 : k < 192) (h : lo k.toNat = a) : Pure 1 w 235 [.int k u] (fun t => .int a t) := h ▸ least_of w h0 h1
theorem most_of' (w : World) {k a : Int} {u : Tok} (h0 : 0 ≤ k) (h1 : k < 192) (h : hi k.toNat = a) : Pure 1 w 242 [.int k u] (fun t => .int a t) := h ▸ most_of w h0 h1
theorem same_let {k a b n : Int} (ha : lo k.toNat = a) (hb : hi k.toNat = b) (h : -1 ≤ b) : takesV k n = letV a b n := by
  unfold takesV letV
  rw [ha, hb]
  have e : (decide (b = -1)) = decide (b < 0) := by
    by_cases q : b = -1
    · simp [q]
    · have : ¬ b < 0 := by omega
      simp [q, this]
  rw [e]
theorem takes' (w : World) {k a b n : Int} {u v : Tok} (h0 : 0 ≤ k) (h1 : k < 192) (ha : lo k.toNat = a) (hb : hi k.toNat = b) (h : -1 ≤ b) : Pure 2 w 249 [.int k u, .int n v] (fun _ => .bool (letV a b n)) := same_let ha hb h ▸ takes w h0 h1

local macro_rules | `(tactic| walk_at "call ref") => `(tactic| (k_here; (with_reducible show wpAny _ _ (call (Value.ref 221) _) _ _ _); (with_unfolding_all refine' Pure.use (op_of' _ ?h0) ?k1 ?k2 ?k3 ?k4 ?k5 ?kK ?kd ?ku ?_; (case k1 => k_asm); (case k2 => k_asm); (case k3 => k_asm); (case k4 => k_asm); (case k5 => k_asm); (case kK => first | exact rfl | assumption); (case kd => ktr_room); (case ku => ktr_units); (case h0 => assumption); k_whole); intro t9 h9 tk9 F9 N9; (try dsimp only); (try k_fold)))
local macro_rules | `(tactic| walk_at "call ref") => `(tactic| (k_here; (with_reducible show wpAny _ _ (call (Value.ref 228) _) _ _ _); (with_unfolding_all refine' Pure.use (name_of' _ ?h0 ?h1 ?h2) ?k1 ?k2 ?k3 ?k4 ?k5 ?kK ?kd ?ku ?_; (case k1 => k_asm); (case k2 => k_asm); (case k3 => k_asm); (case k4 => k_asm); (case k5 => k_asm); (case kK => first | exact rfl | assumption); (case kd => ktr_room); (case ku => ktr_units); (case h0 => assumption); (case h1 => assumption); (case h2 => assumption); k_whole); intro t9 h9 tk9 F9 N9; (try dsimp only); (try k_fold)))
local macro_rules | `(tactic| walk_at "call ref") => `(tactic| (k_here; (with_reducible show wpAny _ _ (call (Value.ref 235) _) _ _ _); (with_unfolding_all refine' Pure.use (least_of' _ ?h0 ?h1 ?h2) ?k1 ?k2 ?k3 ?k4 ?k5 ?kK ?kd ?ku ?_; (case k1 => k_asm); (case k2 => k_asm); (case k3 => k_asm); (case k4 => k_asm); (case k5 => k_asm); (case kK => first | exact rfl | assumption); (case kd => ktr_room); (case ku => ktr_units); (case h0 => assumption); (case h1 => assumption); (case h2 => assumption); k_whole); intro t9 h9 tk9 F9 N9; (try dsimp only); (try k_fold)))
local macro_rules | `(tactic| walk_at "call ref") => `(tactic| (k_here; (with_reducible show wpAny _ _ (call (Value.ref 242) _) _ _ _); (with_unfolding_all refine' Pure.use (most_of' _ ?h0 ?h1 ?h2) ?k1 ?k2 ?k3 ?k4 ?k5 ?kK ?kd ?ku ?_; (case k1 => k_asm); (case k2 => k_asm); (case k3 => k_asm); (case k4 => k_asm); (case k5 => k_asm); (case kK => first | exact rfl | assumption); (case kd => ktr_room); (case ku => ktr_units); (case h0 => assumption); (case h1 => assumption); (case h2 => assumption); k_whole); intro t9 h9 tk9 F9 N9; (try dsimp only); (try k_fold)))
local macro_rules | `(tactic| walk_at "call ref") => `(tactic| (k_here; (with_reducible show wpAny _ _ (call (Value.ref 249) _) _ _ _); (with_unfolding_all refine' Pure.use (takes' _ ?h0 ?h1 ?h2 ?h3 ?h4) ?k1 ?k2 ?k3 ?k4 ?k5 ?kK ?kd ?ku ?_; (case k1 => k_asm); (case k2 => k_asm); (case k3 => k_asm); (case k4 => k_asm); (case k5 => k_asm); (case kK => first | exact rfl | assumption); (case kd => ktr_room); (case ku => ktr_units); (case h0 => assumption); (case h1 => assumption); (case h2 => assumption); (case h3 => assumption); (case h4 => assumption); k_whole); intro t9 h9 tk9 F9 N9; (try dsimp only); (try k_fold)))
local macro_rules | `(tactic| walk_at "call ref") => `(tactic| (k_here; (with_reducible show wpAny _ _ (call (Value.ref 287) _) _ _ _); (with_unfolding_all refine' Pure.use (is_let _) ?k1 ?k2 ?k3 ?k4 ?k5 ?kK ?kd ?ku ?_; (case k1 => k_asm); (case k2 => k_asm); (case k3 => k_asm); (case k4 => k_asm); (case k5 => k_asm); (case kK => first | exact rfl | assumption); (case kd => ktr_room); (case ku => ktr_units); k_whole); intro t9 h9 tk9 F9 N9; (try dsimp only); (try k_fold)))

theorem int_at {vs : List Value} {ns : List Int} (hi : IntsAre vs ns) {i : Nat} {v : Value} (e : vs.toArray[i]? = some v) : ∃ n t, v = .int n t := by
  have e' : vs[i]? = some v := by simpa using e
  have hlt : i < ns.length := by
    have := (List.getElem?_eq_some_iff.mp e').1
    rw [hi.length] at this; exact this
  obtain ⟨t, ht⟩ := hi.get i ns[i] (by simp [hlt])
  rw [ht] at e'
  exact ⟨_, t, (Option.some.inj e').symm⟩
theorem bools_rep : ∀ n : Nat, LSm.BoolsAre (List.replicate n (Value.bool true)) (List.replicate n true)
  | 0 => .nil
  | n + 1 => .cons true (bools_rep n)
theorem all_rep (n : Nat) : (List.replicate n true).all id = true := by simp
section
variable {prog : Program} {w : World} {A : Around} {s : Shared} {h₀ : Heap} {L : Addr} {m : Str → Option Value} {env : Env}
/-- a block over ints whose element is True at each -/
theorem rest_true {elt : PySem.Expr} {x : Str} {scope : Scope} {cl : List (Str × Addr)} {ax : Addr} {vs : List Value} {ns : List Int} {news : List (Addr × Obj)} {Fin : List Value → List (Addr × Obj) → Prop} (hi : IntsAre vs ns) (S : LCg.SrcAt h₀ ax vs.toArray news)
    (elt_ok : ∀ n t I oI C oC D m₂ h tk (ys : List Value) (E' Q' : Value → Shared → Prop), LCg.NsObj oC m₂ → m₂ x = some (.int n t) → Fr h₀ L h m → News h₀ L h ((I, oI) :: (C, oC) :: (D, LCg.lst ys) :: news) →
      (∀ h' tk', Fr h₀ L h' m → News h₀ L h' ((I, oI) :: (C, oC) :: (D, LCg.lst ys) :: news) → Q' (.bool true) { s with heap := h', toks := tk' }) →
      wpAny (model prog w) A (eval elt (compEnvC scope cl C env)) Q' E' { s with heap := h, toks := tk })
    (fin : Fin (List.replicate vs.length (.bool true)) news) :
    LCg.CompRest prog w A h₀ L m env elt x scope cl s (LCg.SrcAt h₀ ax vs.toArray) (fun i v => vs.toArray[i]? = some v) Fin vs.toArray.size 0 [] news := by
  have all : ∀ k i, i + k = vs.length → LCg.CompRest prog w A h₀ L m env elt x scope cl s (LCg.SrcAt h₀ ax vs.toArray) (fun i v => vs.toArray[i]? = some v) Fin k i (List.replicate i (.bool true)) news := by
    intro k
    induction k with
    | zero => intro i e; exact LCg.CompRest.zero (by rw [show i = vs.length by omega]; exact fin)
    | succ k ih =>
      intro i e
      refine LCg.CompRest.succ fun v I oI C oC D m₂ h tk E' hv hC hx F N off ne => ?_
      obtain ⟨n, t, rfl⟩ := int_at hi hv
      refine elt_ok n t I oI C oC D m₂ h tk _ E' _ hC hx F N fun h' tk' F' N' => ?_
      refine LCg.CompEnd.intro F' N' news (fun p hp => hp) off S ?_
      rw [show List.replicate i (Value.bool true) ++ [Value.bool true] = List.replicate (i + 1) (.bool true) from (List.replicate_succ' ..).symm]
      exact ih (i + 1) (by omega)
  have := all vs.length 0 (by omega)
  simpa using this
end

abbrev RightC (w : World) : Prop :=
  ∀ (dp un : Nat) (gd : Option (List Code)) (cn : Str) (cs : Scope) (ad : Addr) (ccd : Value) (cl : List (Str × Addr)) (outer : List Env) (A₀ : Around) (base h₀ : Heap) (L : Addr) (m : Str → Option Value)
    (p : Program) (loose : List Str) (mean : ExcName → Option Value) (mg mb : Str → Option Value) (news : List (Addr × Obj)) (s : Shared) (Q E : Value → Shared → Prop)
    (x : Str) (k a b : Int) (u v y : Tok) (c : Addr) (ec : Nat) (cvs : List Value) (cns : List Int),
    Below A₀ base outer h₀ → Fr h₀ L s.heap m → (KK w.params).In h₀ → News h₀ L s.heap news → Top p loose mean mg mb h₀ → cs.kind = .function → dp + 4 < recursionLimit → un + 80 < cLine →
    opOf x = k → 0 ≤ k → k < 192 → nm k.toNat = x → lo k.toNat = a → hi k.toNat = b → -1 ≤ b →
    (c, listOf cvs.toArray ec) ∈ news → IntsAre cvs cns → cvs.length ≤ 10 →
    (∀ h' tk', Fr h₀ L h' m → News h₀ L h' news → Q (.bool true) { s with heap := h', toks := tk' }) →
    wpAny (model PySem.Challenge.rw_on0292_01.row.prog w) (ktrTop dp un gd cn cs L ad ccd cl outer) (call (.ref 292) [.str x u, .int a v, .int b y, .ref c]) Q E s

theorem far_of {news : List (Addr × Obj)} {n c : Nat} (h : ∀ p ∈ news, p.1 < n) (hc : n ≤ c) : ∀ p ∈ news, p.1 ≠ c := fun p hp => Nat.ne_of_lt (Nat.lt_of_lt_of_le (h p hp) hc)
local macro_rules | `(tactic| k_all) => `(tactic| (refine far_of (by assumption) ?_; (try dsimp only); first | exact Nat.le_refl _ | exact Nat.le_add_right _ _ | omega))
local macro_rules | `(tactic| walk_at "eval ListComp") => `(tactic| (k_here; k_dflt (refine LCg.ListComp_U (F₀ := by k_asm) (by with_unfolding_all rfl) (by decide) (by rfl) (by decide) (by rfl) ?_)))
theorem size10 {cvs : List Value} (h : cvs.length ≤ 10) : cvs.toArray.size ≤ sizeLine := by rw [List.size_toArray, sizeLine_eq]; omega
theorem q_same {Q : Value → Shared → Prop} {b : Bool} {s : Shared} (h : Q (.bool true) s) : Q (.bool (b == b)) s := by rw [beq_self_eq_true]; exact h
theorem all_true {prog : Program} {w : World} {A : Around} {E : Value → Shared → Prop} {s : Shared} {h₀ : Heap} {L D : Addr} {m : Str → Option Value} {news : List (Addr × Obj)} {n : Nat} {Q : Value → Shared → Prop} (hh : A.handled = none) (F : Fr h₀ L s.heap m)
    (N : News h₀ L s.heap ((D, LCg.lst (List.replicate n (.bool true))) :: news)) (h : ∀ h' tk, Fr h₀ L h' m → News h₀ L h' news → Q (.bool true) { s with heap := h', toks := tk }) :
    wpAny (model prog w) A (call (.builtin "all") [.ref D]) Q E s :=
  LSm.all_bools F N hh (PySem.IsL.isList (n := (List.replicate n (Value.bool true)).length) (N _ (List.mem_cons_self ..)).1) (bools_rep n) fun h' tk F' N' => by
    rw [all_rep]
    exact h h' tk F' fun p hp => N' p (List.mem_cons_of_mem _ hp)
local macro_rules | `(tactic| walk_at "call builtin:all") => `(tactic| (k_here; (with_reducible show wpAny _ _ (call (Value.builtin "all") [Value.ref _]) _ _ _); (with_unfolding_all refine' all_true ?k0 ?k1 ?k2 ?_; (case k0 => exact rfl); (case k1 => k_asm); (case k2 => k_asm); k_whole); intro h9 tk9 F9 N9; (try dsimp only)))

theorem right (w : World) : RightC w := by
  unfold RightC; k_fill
  intro dp un gd cn cs ad ccd cl outer A₀ base h₀ L m p loose mean mg mb news s Q E x k a b u v y c ec cvs cns hB hF hK hN hT hk hdp hun hop hk0 hk1 hnm hlo hhi hb1 hc hci hcl hret
  refine wpAny_call ?_
  k_dflt (refine' code_defC ?k1 ?k2 ?k3 ?k4 ?k5 ?kA ?kF ?kK ?k6 ?k7 ?k8 ?k9 ?kB ?kD ?_ ?c2 ?c3 ?c4; (case kA => exact rfl); (case kF => exact rfl); (case kK => assumption); (case k1 => k_asm); (case k2 => k_asm); (case k3 => k_asm); (case k4 => k_asm); (case k5 => k_asm); (case k6 => k_is); (case k7 => k_is); (case k8 => ktr_room); (case k9 => exact BindsTo.of_eq rfl); (case kB => exact rfl); (case kD => decide +kernel); (case c2 => exact rfl); (case c3 => exact rfl); (case c4 => exact rfl); k_whole; intro g' L' h' tk' cells' FG' F' N' Y' B' X' T' l1; k_cells Y'; (try simp only [List.cons_append, List.nil_append] at N'); (try dsimp only); (try k_lift B'); (try k_fold))
  k_steps
  all_goals (try first | exact absurd rfl (by assumption) | exact absurd ‹(x != x) = true› (by simp))
  refine' LCg.CompSrc.ledger (its := cvs.toArray) (k := ec) (by rfl) (by k_asm) (by k_asm) ?hm (size10 hcl) ?hr
  case hm => repeat (first | exact hc | apply List.mem_cons_of_mem)
  case hr =>
  intro g'
  refine rest_true hci (Or.inr ⟨listOf cvs.toArray ec, (by repeat (first | exact hc | apply List.mem_cons_of_mem)), rfl, _, rfl⟩) ?_ ?_
  · intro n t I oI C oC D m₂ h₂ tk ys E' Q' hoC hx₂ F₂ N₂ hq
    k_steps
    exact q_same (hq _ _ (by k_asm) (by k_asm))
  · k_steps
    rename News h₀ L _ (_ :: _) => kN
    exact hret _ _ (by k_asm) (cb_drop kN fun q hq => .tail _ (.tail _ (.tail _ hq)))
end Mine
end

-- part D1
section
set_option maxRecDepth 100000
namespace Mine
def idx : List (List Nat) := [
  [11, 12, 15, 16, 45, 47, 50, 7, 8, 137, 138, 139, 67],
  [68, 69, 70, 71, 72, 73, 79, 80, 81, 82, 83, 90, 96],
  [98, 99, 100, 101, 103, 107, 104, 105, 106, 108, 109, 110, 113, 114, 117],
  [128, 129, 130, 131, 132, 133],
  [134, 135, 136, 140, 143, 158, 159, 160],
  [57, 60, 63, 64, 184, 162, 163, 179],
  [17, 18, 19, 20, 21, 22, 23, 24, 25, 26, 27, 28, 29, 36, 44, 39],
  [9, 13, 14, 4, 5, 6, 51, 52, 53, 54, 55, 56, 91, 92, 93],
  [102, 112, 144, 61, 161, 66, 118, 119, 120, 121, 122],
  [123, 124, 146, 147, 148, 149, 150, 151, 152],
  [145, 156, 62],
  [141, 58, 111, 115, 116],
  [46, 48, 59, 142, 157, 86, 87, 94, 95],
  [88, 89, 84, 85],
  [74, 75, 76, 77, 78],
  [182, 175, 176, 177, 178],
  [180, 181, 183],
  [164, 165]]

/-- a lot: least, most, the names in one text -/
def lotE (i : Nat) : Option (Int × Int × Str) := match (tabE 10)[i]? with
  | some (.Tuple [.Constant (.int a) _ _, .Constant (.int b) _ _, .Constant (.str x) _ _] _ _) => some (a, b, x)
  | some (.Tuple [.Constant (.int a) _ _, .UnaryOp .USub (.Constant (.int b) _ _) _, .Constant (.str x) _ _] _ _) => some (a, -b, x)
  | _ => none
def lotD (i : Nat) : Int × Int × Str := (lotE i).getD (0, 0, ⟨#[]⟩)
def la (i : Nat) : Int := (lotD i).1
def lb (i : Nat) : Int := (lotD i).2.1
def ls (i : Nat) : Str := (lotD i).2.2
def lotN (i : Nat) : List Str := Txt.split (ls i) (Str.ofString " ")

theorem lotO_of {i tk : Nat} {a b : Int} {x : Str} (h : lotE i = some (a, b, x)) : ∃ t1 t2 t3, rowO 10 i tk = tupO [.int a t1, .int b t2, .str x t3] := by
  unfold lotE at h
  unfold rowO
  split at h
  · rename_i e
    cases h
    rw [e]
    exact ⟨_, _, _, rfl⟩
  · rename_i e
    cases h
    rw [e]
    exact ⟨_, _, _, rfl⟩
  · cases h
theorem lotE_some : ∀ i < 18, (lotE i).isSome = true := by
  have h : (List.range 18).all (fun i => (lotE i).isSome) = true := by kernel_rfl
  intro i hi
  exact List.all_eq_true.mp h i (List.mem_range.mpr hi)
theorem lotD_of {i : Nat} (h : i < 18) : lotE i = some (la i, lb i, ls i) := by
  obtain ⟨r, e⟩ := Option.isSome_iff_exists.mp (lotE_some i h)
  unfold la lb ls lotD
  rw [e]; rfl
theorem lot_in (P : Params) {i : Nat} (h : i < 18) : ∃ t1 t2 t3, (KK P).lookup (250 + i) = some (tupO [.int (la i) t1, .int (lb i) t2, .str (ls i) t3]) := by
  have e : (List.range 18).map (fun i => (KK P).lookup (250 + i)) = (List.range 18).map (fun i => some (rowO 10 i (tok10.getD i 0))) := by kernel_rfl
  have e1 := List.map_inj_left.mp e i (List.mem_range.mpr h)
  obtain ⟨t1, t2, t3, e2⟩ := lotO_of (tk := tok10.getD i 0) (lotD_of h)
  exact ⟨t1, t2, t3, by rw [e1, e2]⟩
theorem lots_in (P : Params) : (KK P).lookup 268 = some (tupO ((List.range 18).map fun i => .ref (250 + i))) := by kernel_rfl

/-- a text as one number -/
def codeS (x : Str) : Nat := x.cps.toList.foldr (fun c n => c + 1 + 1114113 * n) 0
def apart : List Nat → Bool
  | [] => true
  | a :: r => r.all (fun b => !Nat.beq a b) && apart r
theorem apart_get : ∀ {l : List Nat} {i j a : Nat}, apart l = true → l[i]? = some a → l[j]? = some a → i = j
  | [], _, _, _, _, h, _ => by simp at h
  | x :: r, i, j, a, h, hi, hj => by
    obtain ⟨h1, h2⟩ := Bool.and_eq_true_iff.mp h
    have far : ∀ k, r[k]? = some x → False := fun k hk => by
      have := List.all_eq_true.mp h1 x (List.mem_of_getElem? hk)
      simp at this
    cases i with
    | zero =>
      cases j with
      | zero => rfl
      | succ j =>
        have e : x = a := by simpa using hi
        exact (far j (by simpa [e] using hj)).elim
    | succ i =>
      cases j with
      | zero =>
        have e : x = a := by simpa using hj
        exact (far i (by simpa [e] using hi)).elim
      | succ j => exact congrArg (· + 1) (apart_get (a := a) h2 (by simpa using hi) (by simpa using hj))
theorem codes_apart : apart ((List.range 192).map fun i => codeS (nm i)) = true := by kernel_rfl
theorem nm_inj {i j : Nat} (hi : i < 192) (hj : j < 192) (h : nm i = nm j) : i = j :=
  apart_get codes_apart (a := codeS (nm i)) (by simp [hi]) (by simp [hj, h])
theorem zip_find {l : List Nat} {f : Nat → Bool} {p : Nat} (hp : p < 192) (hf : f p = true) (hu : ∀ i < 192, f i = true → i = p) :
    (List.range 192).zipIdx.find? (fun q => f q.1) = some (p, p) := by
  have _ := l
  have hm : (p, p) ∈ (List.range 192).zipIdx := by
    rw [List.mem_zipIdx_iff_getElem?]
    simp [hp]
  cases e : (List.range 192).zipIdx.find? (fun q => f q.1) with
  | none => exact absurd hf (by simpa using List.find?_eq_none.mp e (p, p) hm)
  | some q =>
    obtain ⟨a, i⟩ := q
    have h1 := List.find?_some e
    have h2 := List.mem_of_find?_eq_some e
    rw [List.mem_zipIdx_iff_getElem?] at h2
    have h2' : (List.range 192)[i]? = some a := h2
    obtain ⟨h3, h4⟩ := List.getElem?_eq_some_iff.mp h2'
    have h5 : i = a := by simpa using h4
    have h6 : i < 192 := by simpa using h3
    have h7 := hu a (h5 ▸ h6) h1
    rw [h5, h7]
theorem op_nm {p : Nat} (hp : p < 192) : opOf (nm p) = (p : Int) := by
  have e := zip_find (l := []) (f := fun i => nm i == nm p) hp (by simp) fun i hi h => nm_inj hi hp (by simpa using h)
  unfold opOf
  rw [e]
theorem op_none {x : Str} (h : ∀ i < 192, codeS (nm i) ≠ codeS x) : opOf x = -1 := by
  have e : (List.range 192).zipIdx.find? (fun p => nm p.1 == x) = none := by
    refine List.find?_eq_none.mpr fun q hq => ?_
    obtain ⟨a, i⟩ := q
    rw [List.mem_zipIdx_iff_getElem?] at hq
    have h2' : (List.range 192)[i]? = some a := hq
    obtain ⟨h3, h4⟩ := List.getElem?_eq_some_iff.mp h2'
    have h5 : i = a := by simpa using h4
    have h6 : i < 192 := by simpa using h3
    intro hx
    exact h a (h5 ▸ h6) (by rw [eq_of_beq (show (nm a == x) = true from hx)])
  unfold opOf
  rw [e]
def noneB (x : Str) : Bool := (List.range 192).all fun i => !Nat.beq (codeS (nm i)) (codeS x)
theorem noneB_of {x : Str} (h : noneB x = true) : opOf x = -1 := op_none fun i hi e => by
  have := List.all_eq_true.mp h i (List.mem_range.mpr hi)
  rw [e] at this
  simp at this

theorem idx_flat : apart idx.flatten = true := by kernel_rfl
theorem idx_lt : idx.flatten.all (fun p => Nat.blt p 192) = true := by kernel_rfl
theorem lots_names : (List.range 18).map lotN = idx.map fun l => l.map nm := by kernel_rfl
theorem lots_least : (List.range 18).all (fun i => (idx.getD i []).all fun p => decide (lo p = la i) && decide (hi p = lb i)) = true := by kernel_rfl
theorem lots_most : (List.range 18).all (fun i => decide (-1 ≤ lb i) && decide ((ls i).length ≤ 200) && decide (2 ≤ (idx.getD i []).length) && decide ((idx.getD i []).length ≤ 16)) = true := by kernel_rfl
theorem rows_most : (List.range 192).all (fun i => decide (0 ≤ lo i) && decide (-1 ≤ hi i) && (decide (hi i = -1) || decide (lo i ≤ hi i))) = true := by kernel_rfl
end Mine
end

-- part HQ
section
set_option maxRecDepth 100000
set_option maxHeartbeats 4000000
namespace Mine
def vw : Program := view PySem.Challenge.pw_on0292_01 [1, 2, 3, 4, 5, 6, 7, 8, 10, 11, 12, 13, 14, 15]

end Mine
end

-- part L1
section
set_option maxRecDepth 100000
set_option maxHeartbeats 4000000
namespace Mine
def Stop (P : Prop) : Prop := P
theorem Stop.out {P : Prop} (h : Stop P) : P := h
/-- the cells of a deck -/
def cellsN (ns : List Int) : List Int := (List.take 40 ns).map (fun k' => (if k' < 0 then -k' else k').fmod 1000003) ++ [(ns.length : Int) + 5]
theorem cellsN_len (ns : List Int) : 1 ≤ (cellsN ns).length ∧ (cellsN ns).length ≤ 41 := by
  unfold cellsN; simp; omega
theorem cellsN_bd {ns : List Int} (h : ¬ (63 : Int) < ns.length) : ∀ n ∈ cellsN ns, 0 ≤ n ∧ n < 1000003 := by
  intro n hn
  rcases List.mem_append.mp hn with q | q
  · obtain ⟨k, _, rfl⟩ := List.mem_map.mp q
    exact ⟨fmod_lo _ (by decide), fmod_hi _ (by decide)⟩
  · have e := List.mem_singleton.mp q
    subst e
    omega
theorem deck_facts {ws : List Value} {ns : List Int} (hI : IntsAre ws (cellsN ns)) (h : ¬ (63 : Int) < ns.length) : ∃ cs, IntsAre ws cs ∧ 1 ≤ cs.length ∧ cs.length ≤ 41 ∧ ∀ n ∈ cs, 0 ≤ n ∧ n < 1000003 :=
  ⟨_, hI, (cellsN_len ns).1, (cellsN_len ns).2, cellsN_bd h⟩

theorem allObj_mono : ∀ {ws : List (Addr × String)} {k k' : List (Addr × Obj) → Prop}, (∀ its, k its → k' its) → AllObj ws k → AllObj ws k'
  | [], _, _, h, x => h _ x
  | _ :: ws, _, _, h, x => fun o ho => allObj_mono (ws := ws) (fun _ q => h _ q) (x o ho)
theorem unrPostW_mono {h₀ : Heap} {L : Addr} {s₁ s₂ : Shared} {its : List (Addr × Obj)} {r r' : (Str → Option Value) → List (Addr × Obj) → Prop} {Q : Flow → Shared → Prop} {f : Flow} (h : ∀ m n, r m n → r' m n) (x : UnrPostW h₀ L s₁ its r Q f s₂) : UnrPostW h₀ L s₁ its r' Q f s₂ := by
  have up : UnrEndW h₀ L s₁ its r s₂ → UnrEndW h₀ L s₁ its r' s₂ := fun ⟨h', tk, m', n', e, F, N, a, b⟩ => ⟨h', tk, m', n', e, F, N, a, h _ _ b⟩
  cases f with
  | ret v => exact x
  | brk => exact x
  | next => exact up x
  | cont => exact up x
section
variable {prog : Program} {w : World} {A : Around} {E : Value → Shared → Prop} {s : Shared} {env : Env} {h₀ : Heap} {target : PySem.Expr} {body : List Stmt} {Q : Flow → Shared → Prop} {ws : List (Addr × String)} {keep : List (Addr × Obj)}
/-- a loop over listed values by what holds between the turns -/
theorem items_inv {J : Nat → (Str → Option Value) → List (Addr × Obj) → Prop} {vs : List Value}
    (turn : ∀ i v m news h tk, vs[i]? = some v → J i m news → Fr h₀ env.locals h m → AllObj ws (fun its => News h₀ env.locals h (its ++ news) →
      wpAny (model prog w) A (assign target env v) (fun _ s₂ => wpAny (model prog w) A (execs body env) (UnrPostW h₀ env.locals { s with heap := h, toks := tk } its (fun m' n' => SubL keep n' ∧ J (i + 1) m' n') Q) E s₂) E { s with heap := h, toks := tk }))
    (done : ∀ m news h tk, J vs.length m news → Fr h₀ env.locals h m → News h₀ env.locals h news → Q .next { s with heap := h, toks := tk }) {m : Str → Option Value} {news : List (Addr × Obj)} (h0 : J 0 m news) :
    ItemsRest prog w A E h₀ env target body Q s ws keep (vs.map .val) m news := by
  have all : ∀ k i, i + k = vs.length → ∀ m news, J i m news → ItemsRest prog w A E h₀ env target body Q s ws keep ((vs.drop i).map .val) m news := by
    intro k
    induction k with
    | zero =>
      intro i e m news hJ
      have e' : i = vs.length := by omega
      subst e'
      rw [List.drop_length]
      exact ItemsRest.zero fun h tk F N => done m news h tk hJ F N
    | succ k ih =>
      intro i e m news hJ
      have hi : i < vs.length := by omega
      rw [List.drop_eq_getElem_cons hi, List.map_cons]
      refine ItemsRest.val fun h tk F => allObj_mono (fun its x N => ?_) (turn i vs[i] m news h tk (List.getElem?_eq_getElem hi) hJ F)
      exact wpAny_mono (x N) (fun _ _ y => wpAny_mono y (fun _ _ z => unrPostW_mono (fun m' n' q => ⟨q.1, ih (i + 1) (by omega) m' n' q.2⟩) z) fun _ _ e => e) fun _ _ e => e
  exact all vs.length 0 (by omega) m news h0
end

/-- the law's frame between the turns -/
abbrev frM (dk ct mt : Addr) (u : Str → Option Value) : Str → Option Value := fun y => if y = Str.ofString "deck" then some (.ref dk) else if y = Str.ofString "counts" then some (.ref ct) else if y = Str.ofString "met" then some (.ref mt) else u y
theorem frM_of {dk ct mt : Addr} {m : Str → Option Value} (h1 : m (Str.ofString "deck") = some (.ref dk)) (h2 : m (Str.ofString "counts") = some (.ref ct)) (h3 : m (Str.ofString "met") = some (.ref mt)) : m = frM dk ct mt m := by
  funext y
  unfold frM
  by_cases a : y = Str.ofString "deck"
  · rw [if_pos a, a, h1]
  · rw [if_neg a]
    by_cases b : y = Str.ofString "counts"
    · rw [if_pos b, b, h2]
    · rw [if_neg b]
      by_cases c : y = Str.ofString "met"
      · rw [if_pos c, c, h3]
      · rw [if_neg c]

structure OuterJ (w : World) (bd dk ct mt : Addr) (cvs ws : List Value) (i : Nat) (m : Str → Option Value) (news : List (Addr × Obj)) : Prop where
  ex : ∃ (k : Int) (t : Tok) (om : Obj) (kvs : List (Str × Value)), m (Str.ofString "deck") = some (.ref dk) ∧ m (Str.ofString "counts") = some (.ref ct) ∧ m (Str.ofString "met") = some (.ref mt) ∧
    news = [(mt, om), (ct, listOf cvs.toArray 0), (dk, deckO bd k t 0), (bd, listOf ws.toArray 0)] ∧ 0 ≤ k ∧ k ≤ 2 * i + 1 ∧ om.IsDictOf (PySem.strKind PySem.Challenge.rw_on0292_01.row.prog w) kvs ∧ kvs.length ≤ 16 * i ∧
    ∀ q ∈ kvs, ∃ p ∈ (idx.take i).flatten, q.1 = nm p
end Mine
end

-- part L2
section
set_option maxRecDepth 100000
set_option maxHeartbeats 4000000
namespace Mine
abbrev lawP : Program := PySem.Challenge.rw_on0292_01.row.prog
theorem range_at {n a i : Nat} {v : Value} (h : ((List.range n).map fun i => Value.ref (a + i))[i]? = some v) : i < n ∧ v = .ref (a + i) := by
  obtain ⟨h1, h2⟩ := List.getElem?_eq_some_iff.mp h
  have h3 : i < n := by simpa using h1
  exact ⟨h3, by simpa using h2.symm⟩

section
variable {w : World} {A : Around} {E : Value → Shared → Prop} {s : Shared} {env : Env} {h₀ : Heap} {target : PySem.Expr} {body : List Stmt} {Q : Flow → Shared → Prop}
theorem outer_loop {T mt ct dk bd : Addr} {oT om : Obj} {cvs ws : List Value} {k : Int} {t : Tok} {xs : List (Addr × Obj)} {m₀ : Str → Option Value} (hh : A.handled = none) (F : Fr h₀ env.locals s.heap m₀)
    (N : News h₀ env.locals s.heap ((T, oT) :: (mt, om) :: (ct, listOf cvs.toArray 0) :: (dk, deckO bd k t 0) :: (bd, listOf ws.toArray 0) :: xs)) (X : (KK w.params).In h₀) (hd : om.IsDictOf (PySem.strKind lawP w) [])
    (hm1 : m₀ (Str.ofString "deck") = some (.ref dk)) (hm2 : m₀ (Str.ofString "counts") = some (.ref ct)) (hm3 : m₀ (Str.ofString "met") = some (.ref mt)) (k0 : 0 ≤ k) (k1 : k ≤ 1)
    (turn : ∀ (I : Addr) (i : Nat) k t om kvs u h tk oI, i < 18 → ((@LT.lt Nat _ mt I) ∧ (@LT.lt Nat _ ct I) ∧ (@LT.lt Nat _ dk I) ∧ (@LT.lt Nat _ bd I)) → 0 ≤ k → k ≤ 2 * (i : Int) + 1 → om.IsDictOf (PySem.strKind lawP w) kvs → kvs.length ≤ 16 * i →
      (∀ q ∈ kvs, ∃ p ∈ (idx.take i).flatten, q.1 = nm p) → oI.cls = .type "tuple_iterator" → Fr h₀ env.locals h (frM dk ct mt u) →
      News h₀ env.locals h [(I, oI), (mt, om), (ct, listOf cvs.toArray 0), (dk, deckO bd k t 0), (bd, listOf ws.toArray 0)] →
      wpAny (model lawP w) A (assign target env (.ref (250 + i))) (fun _ s₂ => wpAny (model lawP w) A (execs body env)
        (UnrPostW h₀ env.locals { s with heap := h, toks := tk } [(I, oI)] (fun m' n' => SubL [] n' ∧ OuterJ w bd dk ct mt cvs ws (i + 1) m' n') Q) E s₂) E { s with heap := h, toks := tk })
    (done : ∀ k t om u h tk, 0 ≤ k → k ≤ 37 → Fr h₀ env.locals h (frM dk ct mt u) → News h₀ env.locals h [(mt, om), (ct, listOf cvs.toArray 0), (dk, deckO bd k t 0), (bd, listOf ws.toArray 0)] → Q .next { s with heap := h, toks := tk }) :
    wpAny (model lawP w) A (pyIter (.ref 268)) (fun it s₂ => TurnsAt lawP w A h₀ env target body Q E it s₂) E s := by
  have N1 : News h₀ env.locals s.heap [(mt, om), (ct, listOf cvs.toArray 0), (dk, deckO bd k t 0), (bd, listOf ws.toArray 0)] := cb_drop N fun p hp => by
    rcases List.mem_cons.mp hp with rfl | hp
    · simp
    · rcases List.mem_cons.mp hp with rfl | hp
      · simp
      · rcases List.mem_cons.mp hp with rfl | hp
        · simp
        · rw [List.mem_singleton.mp hp]; simp
  refine iter_tupK (vs := (List.range 18).map fun i => Value.ref (250 + i)) (n := 0) hh F N1 X (lots_in _) rfl rfl (by simp) fun I hI => ?_
  refine items_inv (J := OuterJ w bd dk ct mt cvs ws) (fun i v m news h tk hv hJ hF => ?_) (fun m news h tk hJ F N => ?_) ⟨k, t, om, [], hm1, hm2, hm3, rfl, k0, by omega, hd, by simp, fun q hq => nomatch hq⟩
  · obtain ⟨hi, rfl⟩ := range_at hv
    obtain ⟨k, t, om', kvs, a1, a2, a3, rfl, b1, b2, b3, b4, b5⟩ := hJ.ex
    refine AllObj.cons fun oI hc => AllObj.nil fun N => ?_
    rw [frM_of a1 a2 a3] at hF
    exact turn I i k t om' kvs m h tk oI hi ⟨hI _ (.head _), hI _ (.tail _ (.head _)), hI _ (.tail _ (.tail _ (.head _))), hI _ (.tail _ (.tail _ (.tail _ (.head _))))⟩ b1 b2 b3 b4 b5 hc hF N
  · obtain ⟨k, t, om', kvs, a1, a2, a3, rfl, b1, b2, b3, b4, b5⟩ := hJ.ex
    have e : ((List.range 18).map fun i => Value.ref (250 + i)).length = 18 := by simp
    rw [e] at b2
    rw [frM_of a1 a2 a3] at F
    exact done k t om' m h tk b1 (by omega) F N
end

/-- the law's frame within a lot -/
abbrev frN (dk ct mt : Addr) (a : Int) (ta : Tok) (b : Int) (tb : Tok) (u : Str → Option Value) : Str → Option Value := fun y => if y = Str.ofString "least" then some (.int a ta) else if y = Str.ofString "most" then some (.int b tb) else frM dk ct mt u y
theorem frN_of {dk ct mt : Addr} {a b : Int} {ta tb : Tok} {m : Str → Option Value} (h1 : m (Str.ofString "deck") = some (.ref dk)) (h2 : m (Str.ofString "counts") = some (.ref ct)) (h3 : m (Str.ofString "met") = some (.ref mt))
    (h4 : m (Str.ofString "least") = some (.int a ta)) (h5 : m (Str.ofString "most") = some (.int b tb)) : m = frN dk ct mt a ta b tb m := by
  funext y
  unfold frN
  by_cases p : y = Str.ofString "least"
  · rw [if_pos p, p, h4]
  · rw [if_neg p]
    by_cases q : y = Str.ofString "most"
    · rw [if_pos q, q, h5]
    · rw [if_neg q]; exact congrFun (frM_of h1 h2 h3) y

structure InnerJ (w : World) (L : List (Addr × Obj)) (mt : Addr) (R : List (Addr × Obj)) (dk ct : Addr) (a : Int) (ta : Tok) (b : Int) (tb : Tok) (old ps : List Nat) (n₀ j : Nat) (m : Str → Option Value) (news : List (Addr × Obj)) : Prop where
  ex : ∃ (om : Obj) (kvs : List (Str × Value)), m (Str.ofString "deck") = some (.ref dk) ∧ m (Str.ofString "counts") = some (.ref ct) ∧ m (Str.ofString "met") = some (.ref mt) ∧ m (Str.ofString "least") = some (.int a ta) ∧ m (Str.ofString "most") = some (.int b tb) ∧
    news = L ++ (mt, om) :: R ∧ om.IsDictOf (PySem.strKind lawP w) kvs ∧ kvs.length ≤ n₀ + j ∧ ∀ q ∈ kvs, ∃ p, (p ∈ old ∨ p ∈ ps.take j) ∧ q.1 = nm p

theorem val_none {kvs : List (Str × Value)} {old ps : List Nat} {j p : Nat} (h : ∀ q ∈ kvs, ∃ r, (r ∈ old ∨ r ∈ ps.take j) ∧ q.1 = nm r) (hp : ps[j]? = some p) (hl : ∀ r ∈ old, r < 192) (hl2 : ∀ r ∈ ps, r < 192) (h1 : p ∉ old) (h2 : ps.Nodup) : valueAt kvs (nm p) = none := by
  refine valueAt_none_of_not_mem fun hm => ?_
  obtain ⟨q, hq, e⟩ := List.mem_map.mp hm
  obtain ⟨r, hr, e2⟩ := h q hq
  have hpm : p ∈ ps := List.mem_of_getElem? hp
  have e3 : nm r = nm p := by rw [← e2, e]
  rcases hr with hr | hr
  · have := nm_inj (hl r hr) (hl2 p hpm) e3
    exact h1 (this ▸ hr)
  · have h3 := nm_inj (hl2 r (List.mem_of_mem_take hr)) (hl2 p hpm) e3
    subst h3
    obtain ⟨i, hi, ei⟩ := List.getElem_of_mem hr
    have hi' : i < j := by
      have := hi; simp at this; omega
    have ei' : ps[i]? = some r := by
      rw [List.getElem_take] at ei
      rw [← ei]; exact List.getElem?_eq_getElem _
    obtain ⟨hj, ej⟩ := List.getElem?_eq_some_iff.mp hp
    obtain ⟨hi2, ei2⟩ := List.getElem?_eq_some_iff.mp ei'
    have := (List.getElem_inj h2).mp (ei2.trans ej.symm)
    omega
theorem keys_next {kvs : List (Str × Value)} {old ps : List Nat} {j p : Nat} {v : Value} (h : ∀ q ∈ kvs, ∃ r, (r ∈ old ∨ r ∈ ps.take j) ∧ q.1 = nm r) (hp : ps[j]? = some p) (hn : valueAt kvs (nm p) = none) : ∀ q ∈ stored kvs (nm p) v, ∃ r, (r ∈ old ∨ r ∈ ps.take (j + 1)) ∧ q.1 = nm r := by
  intro q hq
  rw [stored_absent hn] at hq
  rw [List.take_add_one, hp]
  rcases List.mem_append.mp hq with hq | hq
  · obtain ⟨r, hr, e⟩ := h q hq
    exact ⟨r, hr.imp id (fun x => List.mem_append_left _ x), e⟩
  · rw [List.mem_singleton.mp hq]
    exact ⟨p, .inr (by simp), rfl⟩

section
variable {w : World} {A : Around} {E : Value → Shared → Prop} {s : Shared} {env : Env} {h₀ : Heap} {target : PySem.Expr} {body : List Stmt} {Q : Flow → Shared → Prop}
theorem strs_at {vs : List Value} {xs : List Str} (h : StrsAre vs xs) {i : Nat} {v : Value} (e : vs[i]? = some v) : ∃ x t, xs[i]? = some x ∧ v = .str x t := by
  obtain ⟨x, h1, t, h2⟩ := h.areOf.get i v e
  exact ⟨x, t, h1, h2⟩
theorem inner_loop {sa mt dk ct : Addr} {lo om : Obj} {vs : List Value} {n : Nat} {R : List (Addr × Obj)} {news : List (Addr × Obj)} {m₀ : Str → Option Value} {a b : Int} {ta tb : Tok} {old ps : List Nat} {kvs : List (Str × Value)}
    (hh : A.handled = none) (F : Fr h₀ env.locals s.heap m₀) (N : News h₀ env.locals s.heap news) (hc : lo.cls = .type "list") (hdt : lo.data = .seq vs.toArray n) (hv : StrsAre vs (ps.map nm))
    (hsub : ∀ p ∈ (sa, lo) :: (mt, om) :: R, p ∈ news) (hd : om.IsDictOf (PySem.strKind lawP w) kvs) (hk : ∀ q ∈ kvs, ∃ p ∈ old, q.1 = nm p)
    (hl : ∀ r ∈ old, r < 192) (hl2 : ∀ r ∈ ps, r < 192) (h1 : ∀ p ∈ ps, p ∉ old) (h2 : ps.Nodup)
    (hm1 : m₀ (Str.ofString "deck") = some (.ref dk)) (hm2 : m₀ (Str.ofString "counts") = some (.ref ct)) (hm3 : m₀ (Str.ofString "met") = some (.ref mt)) (hm4 : m₀ (Str.ofString "least") = some (.int a ta)) (hm5 : m₀ (Str.ofString "most") = some (.int b tb))
    (turn : ∀ (I : Addr) (j : Nat) p om kvs' u h tk oI tn, p ∈ ps → (∀ q ∈ (sa, lo) :: (mt, om) :: R, @LT.lt Nat _ q.1 I) → om.IsDictOf (PySem.strKind lawP w) kvs' → kvs'.length ≤ kvs.length + j → j < ps.length → valueAt kvs' (nm p) = none →
      oI.cls = .type "list_iterator" → Fr h₀ env.locals h (frN dk ct mt a ta b tb u) → News h₀ env.locals h ((I, oI) :: (sa, lo) :: (mt, om) :: R) →
      (∀ (m' : Str → Option Value) (om' : Obj), m' (Str.ofString "deck") = some (.ref dk) → m' (Str.ofString "counts") = some (.ref ct) → m' (Str.ofString "met") = some (.ref mt) → m' (Str.ofString "least") = some (.int a ta) → m' (Str.ofString "most") = some (.int b tb) →
        om'.IsDictOf (PySem.strKind lawP w) (stored kvs' (nm p) (.bool true)) → InnerJ w [(sa, lo)] mt R dk ct a ta b tb old ps kvs.length (j + 1) m' ((sa, lo) :: (mt, om') :: R)) →
      wpAny (model lawP w) A (assign target env (.str (nm p) tn)) (fun _ s₂ => wpAny (model lawP w) A (execs body env)
        (UnrPostW h₀ env.locals { s with heap := h, toks := tk } [(I, oI)] (fun m' n' => SubL [(sa, lo)] n' ∧ InnerJ w [(sa, lo)] mt R dk ct a ta b tb old ps kvs.length (j + 1) m' n') Q) E s₂) E { s with heap := h, toks := tk })
    (done : ∀ om' kvs' u h tk, om'.IsDictOf (PySem.strKind lawP w) kvs' → kvs'.length ≤ kvs.length + ps.length → (∀ q ∈ kvs', ∃ p, (p ∈ old ∨ p ∈ ps) ∧ q.1 = nm p) → Fr h₀ env.locals h (frN dk ct mt a ta b tb u) → News h₀ env.locals h ((sa, lo) :: (mt, om') :: R) → Q .next { s with heap := h, toks := tk }) :
    wpAny (model lawP w) A (pyIter (.ref sa)) (fun it s₂ => TurnsAt lawP w A h₀ env target body Q E it s₂) E s := by
  have N1 : News h₀ env.locals s.heap ((sa, lo) :: (mt, om) :: R) := cb_drop N hsub
  have hlen : vs.length = ps.length := by rw [hv.areOf.length, List.length_map]
  refine iter_listTurns hh F N1 (.head _) hc hdt fun I hI => ?_
  refine items_inv (J := InnerJ w [(sa, lo)] mt R dk ct a ta b tb old ps kvs.length) (fun j v m news h tk hvj hJ hF => ?_) (fun m news h tk hJ F N => ?_) ⟨om, kvs, hm1, hm2, hm3, hm4, hm5, rfl, hd, by omega, fun q hq => by obtain ⟨p, hp, e⟩ := hk q hq; exact ⟨p, .inl hp, e⟩⟩
  · obtain ⟨x, tn, hx, rfl⟩ := strs_at hv hvj
    obtain ⟨om', kvs', a1, a2, a3, a4, a5, rfl, b1, b2, b3⟩ := hJ.ex
    rw [List.getElem?_map] at hx
    obtain ⟨p, hp, rfl⟩ := Option.map_eq_some_iff.mp hx
    have hpm : p ∈ ps := List.mem_of_getElem? hp
    have hnone := val_none b3 hp hl hl2 (h1 p hpm) h2
    refine AllObj.cons fun oI hc' => AllObj.nil fun N => ?_
    rw [frN_of a1 a2 a3 a4 a5] at hF
    have hI' : ∀ q ∈ (sa, lo) :: (mt, om') :: R, @LT.lt Nat _ q.1 I := by
      intro q hq
      rcases List.mem_cons.mp hq with rfl | hq
      · exact hI _ (.head _)
      · rcases List.mem_cons.mp hq with rfl | hq
        · exact hI (mt, om) (.tail _ (.head _))
        · exact hI _ (.tail _ (.tail _ hq))
    refine turn I j p om' kvs' m h tk oI tn hpm hI' b1 b2 ((List.getElem?_eq_some_iff.mp hp).1) hnone hc' hF N fun m' om'' c1 c2 c3 c4 c5 c6 => ⟨om'', _, c1, c2, c3, c4, c5, rfl, c6, ?_, keys_next b3 hp hnone⟩
    have := stored_length_le kvs' (nm p) (.bool true)
    omega
  · obtain ⟨om', kvs', a1, a2, a3, a4, a5, rfl, b1, b2, b3⟩ := hJ.ex
    rw [frN_of a1 a2 a3 a4 a5] at F
    rw [hlen] at b2 b3
    rw [List.take_length] at b3
    exact done om' kvs' m h tk b1 b2 b3 F N
end
end Mine
end

-- part L3
section
set_option maxRecDepth 100000
set_option maxHeartbeats 4000000
namespace Mine
theorem apart_nodup : ∀ {l : List Nat}, apart l = true → l.Nodup
  | [], _ => List.nodup_nil
  | a :: r, h => by
    obtain ⟨h1, h2⟩ := Bool.and_eq_true_iff.mp h
    refine List.nodup_cons.mpr ⟨fun hm => ?_, apart_nodup h2⟩
    have := List.all_eq_true.mp h1 a hm
    simp at this
theorem idx_len : idx.length = 18 := by rfl
theorem sizeLot {x : Str} (h : x.length ≤ 200) : x.length + 2 ≤ sizeLine := by rw [sizeLine_eq]; omega
theorem lot_facts {i : Nat} (hi : i < 18) : ∃ ps : List Nat, lotN i = ps.map nm ∧ 2 ≤ ps.length ∧ ps.length ≤ 16 ∧ (∀ p ∈ ps, p < 192 ∧ lo p = la i ∧ Mine.hi p = lb i) ∧ ps.Nodup ∧ (∀ p ∈ ps, p ∉ (idx.take i).flatten) ∧
    (∀ r, r ∈ (idx.take i).flatten ∨ r ∈ ps → r ∈ (idx.take (i + 1)).flatten) ∧ -1 ≤ lb i ∧ (∀ r ∈ (idx.take i).flatten, r < 192) ∧ (ls i).length + 2 ≤ sizeLine := by
  have hi' : i < idx.length := by rw [idx_len]; exact hi
  have g : idx.getD i [] = idx[i] := by simp [List.getD_eq_getElem?_getD, hi']
  have e0 : idx = idx.take i ++ (idx[i] :: idx.drop (i + 1)) := by rw [← List.drop_eq_getElem_cons hi', List.take_append_drop]
  have split : idx.flatten = (idx.take i).flatten ++ (idx[i] ++ (idx.drop (i + 1)).flatten) :=
    (congrArg List.flatten e0).trans (by rw [List.flatten_append, List.flatten_cons])
  have nd := apart_nodup idx_flat
  rw [split] at nd
  obtain ⟨n1, n2, n3⟩ := List.nodup_append.mp nd
  obtain ⟨n4, n5, n6⟩ := List.nodup_append.mp n2
  have lt : ∀ r ∈ idx.flatten, r < 192 := fun r hr => by
    have := List.all_eq_true.mp idx_lt r hr
    simpa using this
  have least := List.all_eq_true.mp lots_least i (List.mem_range.mpr hi)
  have most := List.all_eq_true.mp lots_most i (List.mem_range.mpr hi)
  rw [g] at least most
  simp only [Bool.and_eq_true, decide_eq_true_eq] at most
  obtain ⟨⟨⟨m1, m2⟩, m3⟩, m4⟩ := most
  refine ⟨idx[i], ?_, m3, m4, fun p hp => ?_, n4, fun p hp hq => n3 p hq p (List.mem_append_left _ hp) rfl, fun r hr => ?_, m1, fun r hr => lt r (by rw [split]; exact List.mem_append_left _ hr), sizeLot m2⟩
  · have e := congrArg (fun l => l[i]?) lots_names
    simpa [hi, hi'] using e
  · have h1 := List.all_eq_true.mp least p hp
    simp only [Bool.and_eq_true, decide_eq_true_eq] at h1
    exact ⟨lt p (by rw [split]; exact List.mem_append_right _ (List.mem_append_left _ hp)), h1.1, h1.2⟩
  · rw [List.take_add_one, List.getElem?_eq_getElem hi']
    simp only [Option.toList_some, List.flatten_append, List.mem_append]
    exact hr.imp id fun x => by simpa using x

section
variable {prog : Program} {w : World} {A : Around} {E : Value → Shared → Prop} {s : Shared} {h₀ : Heap} {L : Addr} {m : Str → Option Value} {news : List (Addr × Obj)}
/-- a lot's names, split -/
theorem split_lot {x : Str} {t u : Tok} {ps : List Nat} {Q : Value → Shared → Prop} (hF : Fr h₀ L s.heap m) (hN : News h₀ L s.heap news) (hs : Txt.split x (Str.ofString " ") = ps.map nm) (hsz : x.length + 2 ≤ sizeLine)
    (h : ∀ D vs h' k, StrsAre vs (ps.map nm) → Fr h₀ L h' m → News h₀ L h' ((D, listOf vs.toArray 0) :: news) → (∀ p ∈ news, p.1 < D) → Q (.ref D) { s with heap := h', toks := k }) :
    wpAny (model prog w) A (call (.builtin "str.split") [.str x t, .str (Str.ofString " ") u]) Q E s :=
  KSpl.split1 hF hN (by decide) (fun D l h' k e a F N l1 => h D _ h' k (by rw [e, hs] at a; exact a) F N l1) hsz
theorem strs_len {D : Addr} {vs : List Value} {ps : List Nat} {n : Nat} {Q : Value → Shared → Prop} (N : News h₀ L s.heap news) (hm : (D, listOf vs.toArray n) ∈ news) (hv : StrsAre vs (ps.map nm)) (hl : ps.length ≤ 16)
    (h : Q (.int (ps.length : Nat) (s.toks + 1)) { s with toks := s.toks + 1 + 1 }) : wpAny (model prog w) A (call (.builtin "len") [.ref D]) Q E s := by
  have hL : s.heap.IsList D vs.toArray := PySem.IsL.isList (n := n) (N _ hm).1
  have e : vs.toArray.size = ps.length := by rw [List.size_toArray, hv.areOf.length, List.length_map]
  refine Calls.call_len_list hL (by omega) ?_
  rw [e]; exact h
theorem strs_item {value slice : PySem.Expr} {D : Addr} {vs : List Value} {ps : List Nat} {n : Nat} {k : Int} {u : Tok} {Q : Value → Shared → Prop} (N : News h₀ L s.heap news) (hm : (D, listOf vs.toArray n) ∈ news) (hv : StrsAre vs (ps.map nm)) (hl : ps.length ≤ 16)
    (h0 : 0 ≤ k) (h1 : k < ps.length) (h : ∀ p t, ps[k.toNat]? = some p → Q (.str (nm p) t) s)
    (hs : subscripted slice false (.ref D) (.int k u) = operate [.ref D, .int k u] (getItem (.ref D) (.int k u)) := by with_unfolding_all rfl) :
    wpAny (model prog w) A (subscriptTail value slice (.ref D) (.int k u)) Q E s := by
  have e : vs.length = ps.length := by rw [hv.areOf.length, List.length_map]
  have hk : k.toNat < vs.length := by omega
  obtain ⟨x, t, hx, hq⟩ := strs_at hv (List.getElem?_eq_getElem hk)
  rw [List.getElem?_map] at hx
  obtain ⟨p, hp, rfl⟩ := Option.map_eq_some_iff.mp hx
  exact mem_item N hm h0 (by omega) (by rw [List.getElem?_toArray, List.getElem?_eq_getElem hk, hq]) (h p t hp) hs
theorem half_gen {a : Int} {t u : Tok} {Q : Value → Shared → Prop} (h : ∀ r t', 2 * r ≤ a → a < 2 * r + 2 → Q (.int r t') { s with toks := s.toks + 1 }) : wpAny (model prog w) A (binaryOp .FloorDiv (.int a t) (.int 2 u)) Q E s := by
  have f : a.fdiv 2 = a / 2 := Int.fdiv_eq_ediv_of_nonneg a (by decide)
  exact floordiv_int (by decide) (h _ _ (by rw [f]; omega) (by rw [f]; omega)) (Or.inl (PyProof.noPylong_small (by decide)))
end
end Mine
end

-- part L4
section
set_option maxRecDepth 100000
set_option maxHeartbeats 4000000
namespace Mine
theorem subA {x y z m c d b : Addr × Obj} : ∀ p ∈ x :: m :: [c, d, b, z], p ∈ [x, y, z, m, c, d, b] := by
  intro p hp; simp only [List.mem_cons, List.not_mem_nil, or_false] at hp ⊢; rcases hp with h | h | h | h | h | h <;> simp [h]
theorem subB {x z m c d b : Addr × Obj} : ∀ p ∈ x :: m :: [c, d, b, z], p ∈ [x, z, m, c, d, b] := by
  intro p hp; simp only [List.mem_cons, List.not_mem_nil, or_false] at hp ⊢; rcases hp with h | h | h | h | h | h <;> simp [h]
theorem picks {ps old : List Nat} {P : Nat → Prop} {p q : Nat} {a b : Int} (nd : ps.Nodup) (h1 : ps[a.toNat]? = some p) (h2 : ps[b.toNat]? = some q) (ha : 0 ≤ a) (hab : a < b) (hP : ∀ r ∈ ps, P r) (ho : ∀ r ∈ ps, r ∉ old) :
    (∀ r ∈ [p, q], r ∈ ps) ∧ (∀ r ∈ [p, q], P r) ∧ (∀ r ∈ [p, q], r ∉ old) ∧ [p, q].Nodup := by
  have hp := List.mem_of_getElem? h1
  have hq := List.mem_of_getElem? h2
  have all : ∀ r ∈ [p, q], r ∈ ps := fun r hr => by
    rcases List.mem_cons.mp hr with rfl | hr
    · exact hp
    · rw [List.mem_singleton.mp hr]; exact hq
  refine ⟨all, fun r hr => hP r (all r hr), fun r hr => ho r (all r hr), List.nodup_cons.mpr ⟨fun hm => ?_, List.nodup_cons.mpr ⟨by simp, List.nodup_nil⟩⟩⟩
  have e := List.mem_singleton.mp hm
  subst e
  obtain ⟨i1, e1⟩ := List.getElem?_eq_some_iff.mp h1
  obtain ⟨i2, e2⟩ := List.getElem?_eq_some_iff.mp h2
  have := (List.getElem_inj nd).mp (e1.trans e2.symm)
  omega
section
variable {w : World} {A : Around} {E : Value → Shared → Prop} {s : Shared} {h₀ : Heap} {L : Addr} {m : Str → Option Value} {news : List (Addr × Obj)}
theorem met_in {d : Addr} {o : Obj} {kvs : List (Str × Value)} {x : Str} {t : Tok} {Q : Value → Shared → Prop} (N : News h₀ L s.heap news) (hp : (d, o) ∈ news) (hd : o.IsDictOf (PySem.strKind lawP w) kvs) (lo : (d == sysModules) = false) (hn : valueAt kvs x = none)
    (h : Q (.bool false) { s with toks := s.toks + 1 }) : wpAny (model lawP w) A (compareOp .In (.str x t) (.ref d)) Q E s :=
  kda_in N hp hd lo (strKind_is _ _ _ _) false (by rw [hn]; rfl) h
theorem met_set {d : Addr} {o : Obj} {kvs : List (Str × Value)} {x : Str} {t : Tok} {v : Value} {g : Obj → List (Addr × Obj)} {Q : Unit → Shared → Prop} (F : Fr h₀ L s.heap m) (N : News h₀ L s.heap news) (U : UpdF d o news g) (hd : o.IsDictOf (PySem.strKind lawP w) kvs) (hsz : kvs.length ≤ 1000)
    (h : ∀ h' o', Fr h₀ L h' m → News h₀ L h' (g o') → o'.IsDictOf (PySem.strKind lawP w) (stored kvs x v) → Q () { s with heap := h', toks := s.toks + 1 }) : wpAny (model lawP w) A (setItem (.ref d) (.str x t) v) Q E s :=
  kda_set F N U hd (strKind_is _ _ _ _) (by rw [sizeLine_eq]; omega) h
end
theorem right_use {w : World} {dp un : Nat} {gd : Option (List Code)} {cn : Str} {cs : Scope} {ad : Addr} {ccd : Value} {cl : List (Str × Addr)} {outer : List Env} {A₀ : Around} {base h₀ : Heap} {L : Addr} {m : Str → Option Value}
    {p' : Program} {loose : List Str} {mean : ExcName → Option Value} {mg mb : Str → Option Value} {news : List (Addr × Obj)} {s : Shared} {Q E : Value → Shared → Prop}
    {p : Nat} {a b : Int} {u v y : Tok} {c : Addr} {ec : Nat} {cvs : List Value} {cns : List Int}
    (B : Below A₀ base outer h₀) (F : Fr h₀ L s.heap m) (X : (KK w.params).In h₀) (N : News h₀ L s.heap news) (T : Top p' loose mean mg mb h₀) (hk : cs.kind = .function) (hd : dp + 4 < recursionLimit) (hu : un + 80 < cLine)
    (hp : p < 192 ∧ lo p = a ∧ Mine.hi p = b) (hb : -1 ≤ b) (hc : (c, listOf cvs.toArray ec) ∈ news) (hI : IntsAre cvs cns) (hl : cvs.length ≤ 10)
    (ret : ∀ h' tk', Fr h₀ L h' m → News h₀ L h' news → Q (.bool true) { s with heap := h', toks := tk' }) :
    wpAny (model lawP w) (ktrTop dp un gd cn cs L ad ccd cl outer) (call (.ref 292) [.str (nm p) u, .int a v, .int b y, .ref c]) Q E s :=
  right w dp un gd cn cs ad ccd cl outer A₀ base h₀ L m p' loose mean mg mb news s Q E (nm p) p a b u v y c ec cvs cns B F X N T hk hd hu (op_nm hp.1) (by omega) (by omega) (by simp) (by simpa using hp.2.1) (by simpa using hp.2.2) hb hc hI hl ret
theorem turn_end {h₀ : Heap} {L : Addr} {I : Addr} {oI : Obj} {r : (Str → Option Value) → List (Addr × Obj) → Prop} {s₁ : Shared} {h' : Heap} {tk : Nat} {m' : Str → Option Value} {all news' : List (Addr × Obj)} (F : Fr h₀ L h' m') (N : News h₀ L h' all)
    (hI : (I, oI) ∈ all) (sub : ∀ p ∈ news', p ∈ all) (off : ∀ p ∈ news', @LT.lt Nat _ p.1 I) (hr : r m' news') : UnrEndW h₀ L s₁ [(I, oI)] r { s₁ with heap := h', toks := tk } :=
  ⟨h', tk, m', news', rfl, F, fun p hp => by
    rcases List.mem_cons.mp hp with rfl | hp
    · exact N _ hI
    · exact N _ (sub p hp), fun p hp q hq => by
    rw [List.mem_singleton.mp hq]
    exact Nat.ne_of_lt (off p hp), hr⟩
end Mine
namespace Mine
theorem outer_end {w : World} {h₀ : Heap} {L : Addr} {sa mt ct dk bd I : Addr} {lo om oI : Obj} {cvs ws : List Value} {k a b : Int} {t ta tb : Tok} {u : Str → Option Value} {kvs₀ kvs : List (Str × Value)} {ps qs : List Nat} {i : Nat} {s₁ : Shared} {h : Heap} {tk : Nat}
    (F : Fr h₀ L h (frN dk ct mt a ta b tb u)) (N : News h₀ L h [(sa, lo), (mt, om), (ct, listOf cvs.toArray 0), (dk, deckO bd k t 0), (bd, listOf ws.toArray 0), (I, oI)])
    (hlt : (@LT.lt Nat _ mt I) ∧ (@LT.lt Nat _ ct I) ∧ (@LT.lt Nat _ dk I) ∧ (@LT.lt Nat _ bd I)) (k0 : 0 ≤ k) (k1 : k ≤ 2 * (i : Int) + 3) (hd : om.IsDictOf (PySem.strKind lawP w) kvs) (hl₀ : kvs₀.length ≤ 16 * i) (hl : kvs.length ≤ kvs₀.length + qs.length) (hq : qs.length ≤ 16)
    (hk : ∀ q ∈ kvs, ∃ p, (p ∈ (idx.take i).flatten ∨ p ∈ qs) ∧ q.1 = nm p) (hs : ∀ r ∈ qs, r ∈ ps) (g7 : ∀ r, r ∈ (idx.take i).flatten ∨ r ∈ ps → r ∈ (idx.take (i + 1)).flatten) :
    UnrEndW h₀ L s₁ [(I, oI)] (fun m' n' => SubL [] n' ∧ OuterJ w bd dk ct mt cvs ws (i + 1) m' n') { s₁ with heap := h, toks := tk } := by
  refine turn_end (news' := [(mt, om), (ct, listOf cvs.toArray 0), (dk, deckO bd k t 0), (bd, listOf ws.toArray 0)]) F N (by simp) (fun p hp => ?_) (fun p hp => ?_) ⟨trivial, ⟨k, t, om, kvs, rfl, rfl, rfl, rfl, k0, by omega, hd, by omega, fun q hq' => ?_⟩⟩
  · simp only [List.mem_cons, List.not_mem_nil, or_false] at hp ⊢
    rcases hp with h | h | h | h <;> simp [h]
  · simp only [List.mem_cons, List.not_mem_nil, or_false] at hp
    rcases hp with h | h | h | h <;> rw [h]
    · exact hlt.1
    · exact hlt.2.1
    · exact hlt.2.2.1
    · exact hlt.2.2.2
  · obtain ⟨p, hp, e⟩ := hk q hq'
    exact ⟨p, g7 p (hp.imp id (hs p)), e⟩
end Mine
namespace Mine
theorem lt_upd {sa mt I : Addr} {lo om o' : Obj} {R : List (Addr × Obj)} (h : ∀ q ∈ (sa, lo) :: (mt, om) :: R, @LT.lt Nat _ q.1 I) : ∀ q ∈ (sa, lo) :: (mt, o') :: R, @LT.lt Nat _ q.1 I := by
  intro q hq
  rcases List.mem_cons.mp hq with rfl | hq
  · exact h _ (.head _)
  · rcases List.mem_cons.mp hq with rfl | hq
    · exact h (mt, om) (.tail _ (.head _))
    · exact h q (.tail _ (.tail _ hq))
end Mine
end

-- part L5
section
set_option maxRecDepth 100000
set_option maxHeartbeats 4000000
namespace Mine
section
variable {prog : Program} {w : World} {A : Around} {E : Value → Shared → Prop} {s : Shared} {env : Env} {h₀ : Heap} {target : PySem.Expr} {body : List Stmt} {Q : Flow → Shared → Prop}
abbrev toks (n : Nat) : List Itm := (List.range n).map fun i : Nat => .tok (fun t => .int (0 + (i : Int) * 1) t)
theorem iter_rangeTurns {r : Addr} {b : Int} {n : Nat} {t u v : Tok} {m₀ : Str → Option Value} {news : List (Addr × Obj)} {tx : Str} {tp : Pos}
    (hh : A.handled = none) (hr : IsRange s.heap r 0 b 1 t u v) (hsmall : Builtin.Range.small 0 b 1 = true) (hn : Builtin.Range.rangeSize 0 b 1 = (n : Int)) (F : Fr h₀ env.locals s.heap m₀) (N : News h₀ env.locals s.heap news)
    (rest₀ : ∀ I : Addr, (∀ p ∈ news, p.1 < I) → ItemsRest prog w A E h₀ env (.Name tx tp) body Q s [(I, "range_iterator")] [] (toks n) m₀ news) :
    wpAny (model prog w) A (pyIter (.ref r)) (fun it s₂ => TurnsAt prog w A h₀ env (.Name tx tp) body Q E it s₂) E s := by
  refine wpAny_pyIter_range hr hsmall ?_
  refine ktg_core (tk0 := s.toks) (keep := []) (KTurns.ofWalks ((Walks.range hh s.heap.objs.size 0 1 n).bound) fun _ _ _ _ _ _ q => wpAny_pure q) (by simp) (fun i v h hp => ?_) (fun i h st => ?_) (fun b hb => ?_) (fun b hb => by simpa using hb) (fun b hb => ?_) ?_ (fun p hp hI => ?_) ?_ (F.push _) (fun p hp => ⟨Heap.get?_push_of_some _ (N p hp).1, (N p hp).2⟩) trivial (rest₀ _ fun p hp => Heap.lt_size (N p hp).1)
  · obtain ⟨h1, t, rfl⟩ := hp
    exact ⟨.tok (fun t => .int (0 + (i : Int) * 1) t), by simp [h1], ⟨t, rfl⟩⟩
  · exact ⟨[(s.heap.objs.size, _)], ⟨⟨rfl, rfl⟩, trivial⟩, fun p hp => by rw [List.mem_singleton.mp hp]; exact st⟩
  · have hb' : b = s.heap.objs.size := by simpa using hb
    rw [hb']
    exact ⟨List.mem_cons_self .., next_is_new F⟩
  · exact .inl (by simpa using hb)
  · intro hI
    exact absurd F.ns.lt ((List.mem_singleton.mp hI) ▸ Nat.lt_irrefl _)
  · exact absurd (Heap.lt_size (N p hp).1) ((List.mem_singleton.mp hI) ▸ Nat.lt_irrefl _)
  · show IsRangeIter _ _ _ _ _
    rw [hn]
    simpa using Heap.get?_push_size _ rfl
variable {ws : List (Addr × String)} {keep : List (Addr × Obj)}
theorem toks_inv {J : Nat → (Str → Option Value) → List (Addr × Obj) → Prop} {n : Nat}
    (turn : ∀ i m news h tk t, i < n → J i m news → Fr h₀ env.locals h m → AllObj ws (fun its => News h₀ env.locals h (its ++ news) →
      wpAny (model prog w) A (assign target env (.int (0 + (i : Int) * 1) t)) (fun _ s₂ => wpAny (model prog w) A (execs body env) (UnrPostW h₀ env.locals { s with heap := h, toks := tk } its (fun m' n' => SubL keep n' ∧ J (i + 1) m' n') Q) E s₂) E { s with heap := h, toks := tk }))
    (done : ∀ m news h tk, J n m news → Fr h₀ env.locals h m → News h₀ env.locals h news → Q .next { s with heap := h, toks := tk }) {m : Str → Option Value} {news : List (Addr × Obj)} (h0 : J 0 m news) :
    ItemsRest prog w A E h₀ env target body Q s ws keep (toks n) m news := by
  have all : ∀ k i, i + k = n → ∀ m news, J i m news → ItemsRest prog w A E h₀ env target body Q s ws keep ((toks n).drop i) m news := by
    intro k
    induction k with
    | zero =>
      intro i e m news hJ
      have e' : i = n := by omega
      subst e'
      rw [List.drop_eq_nil_of_le (by simp)]
      exact .zero fun h tk F N => done m news h tk hJ F N
    | succ k ih =>
      intro i e m news hJ
      have hlt : i < n := by omega
      have e2 : (toks n).drop i = .tok (fun t => .int (0 + (i : Int) * 1) t) :: (toks n).drop (i + 1) := by
        rw [List.drop_eq_getElem_cons (by simpa using hlt)]
        simp
      rw [e2]
      refine .tok fun t h tk F => ?_
      exact allObj_mono (fun its x N => wpAny_mono (x N) (fun _ _ y => wpAny_mono y (fun f s₂ z => unrPostW_mono (fun m' n' ⟨a, b⟩ => ⟨a, ih (i + 1) (by omega) m' n' b⟩) z) fun _ _ e => e) fun _ _ e => e) (turn i m news h tk t hlt hJ F)
  have := all n 0 (by omega) m news h0
  simpa using this
end
/-- between the turns of the second loop -/
structure LastJ (bd dk ct mt : Addr) (om : Obj) (cvs ws : List Value) (k₀ : Int) (i : Nat) (m : Str → Option Value) (news : List (Addr × Obj)) : Prop where
  ex : ∃ (k : Int) (t : Tok), m (Str.ofString "deck") = some (.ref dk) ∧ m (Str.ofString "counts") = some (.ref ct) ∧ m (Str.ofString "met") = some (.ref mt) ∧
    news = [(mt, om), (ct, listOf cvs.toArray 0), (dk, deckO bd k t 0), (bd, listOf ws.toArray 0)] ∧ 0 ≤ k ∧ k ≤ k₀ + i
section
variable {w : World} {A : Around} {E : Value → Shared → Prop} {s : Shared} {env : Env} {h₀ : Heap} {target : PySem.Expr} {body : List Stmt} {Q : Flow → Shared → Prop}
theorem last_loop {r mt ct dk bd : Addr} {om : Obj} {cvs ws : List Value} {k b : Int} {t t1 u1 v1 : Tok} {m₀ : Str → Option Value} {tx : Str} {tp : Pos} (hh : A.handled = none) (hr : IsRange s.heap r 0 b 1 t1 u1 v1) (hb0 : 0 ≤ b) (hb1 : b ≤ 4) (F : Fr h₀ env.locals s.heap m₀)
    (N : News h₀ env.locals s.heap [(mt, om), (ct, listOf cvs.toArray 0), (dk, deckO bd k t 0), (bd, listOf ws.toArray 0)])
    (hm1 : m₀ (Str.ofString "deck") = some (.ref dk)) (hm2 : m₀ (Str.ofString "counts") = some (.ref ct)) (hm3 : m₀ (Str.ofString "met") = some (.ref mt)) (k0 : 0 ≤ k) (k1 : k ≤ 40)
    (turn : ∀ (I : Addr) (i : Nat) k' t u h tk oI ti, i < 4 → (∀ q ∈ [(mt, om), (ct, listOf cvs.toArray 0), (dk, deckO bd k' t 0), (bd, listOf ws.toArray 0)], @LT.lt Nat _ q.1 I) → 0 ≤ k' → k' ≤ 44 → k' ≤ k + i → oI.cls = .type "range_iterator" → Fr h₀ env.locals h (frM dk ct mt u) →
      News h₀ env.locals h [(I, oI), (mt, om), (ct, listOf cvs.toArray 0), (dk, deckO bd k' t 0), (bd, listOf ws.toArray 0)] →
      wpAny (model lawP w) A (assign (.Name tx tp) env (.int (0 + (i : Int) * 1) ti)) (fun _ s₂ => wpAny (model lawP w) A (execs body env)
        (UnrPostW h₀ env.locals { s with heap := h, toks := tk } [(I, oI)] (fun m' n' => SubL [] n' ∧ LastJ bd dk ct mt om cvs ws k (i + 1) m' n') Q) E s₂) E { s with heap := h, toks := tk })
    (done : ∀ k t u h tk, Fr h₀ env.locals h (frM dk ct mt u) → News h₀ env.locals h [(mt, om), (ct, listOf cvs.toArray 0), (dk, deckO bd k t 0), (bd, listOf ws.toArray 0)] → Q .next { s with heap := h, toks := tk }) :
    wpAny (model lawP w) A (pyIter (.ref r)) (fun it s₂ => TurnsAt lawP w A h₀ env (.Name tx tp) body Q E it s₂) E s := by
  obtain ⟨n, rfl⟩ : ∃ n : Nat, b = n := ⟨b.toNat, (Int.toNat_of_nonneg hb0).symm⟩
  refine iter_rangeTurns (n := n) hh hr (small_one (by decide) (by decide) (by omega) (by omega)) ?_ F N fun I hI => ?_
  · rw [rangeSize_nat]; simp
  refine toks_inv (J := LastJ bd dk ct mt om cvs ws k) (fun i m news h tk ti hi hJ hF => ?_) (fun m news h tk hJ F N => ?_) ⟨k, t, hm1, hm2, hm3, rfl, k0, by omega⟩
  · obtain ⟨k', t', a1, a2, a3, rfl, b1, b2⟩ := hJ.ex
    refine AllObj.cons fun oI hc => AllObj.nil fun N => ?_
    rw [frM_of a1 a2 a3] at hF
    have hI' : ∀ q ∈ [(mt, om), (ct, listOf cvs.toArray 0), (dk, deckO bd k' t' 0), (bd, listOf ws.toArray 0)], @LT.lt Nat _ q.1 I := by
      intro q hq
      simp only [List.mem_cons, List.not_mem_nil, or_false] at hq
      rcases hq with h | h | h | h <;> rw [h]
      · exact hI _ (.head _)
      · exact hI _ (.tail _ (.head _))
      · exact hI (dk, deckO bd k t 0) (.tail _ (.tail _ (.head _)))
      · exact hI _ (.tail _ (.tail _ (.tail _ (.head _))))
    exact turn I i k' t' m h tk oI ti (by omega) hI' b1 (by omega) b2 hc hF N
  · obtain ⟨k', t', a1, a2, a3, rfl, b1, b2⟩ := hJ.ex
    rw [frM_of a1 a2 a3] at F
    exact done k' t' m h tk F N
end

/-- a tuple of the ledger, and a block over it -/
abbrev tupOf (vs : List Value) (n : Nat) : Obj := { cls := .type "tuple", data := .seq vs.toArray n }
def OverTup (prog : Program) (w : World) (A : Around) (h₀ : Heap) (L : Addr) (m : Str → Option Value) (env : Env) (elt : PySem.Expr) (x : Str) (scope : Scope) (cl : List (Str × Addr)) (Fin : Shared → List Value → List (Addr × Obj) → Prop) (xv : Value) (s₁ : Shared) : Prop :=
  ∃ (T : Addr) (vs : List Value) (n : Nat) (news : List (Addr × Obj)), xv = .ref T ∧ (T, tupOf vs n) ∈ news ∧ vs.toArray.size ≤ sizeLine ∧ Fr h₀ L s₁.heap m ∧ News h₀ L s₁.heap news ∧ A.handled = none ∧
    ∀ g : Heap, LCg.CompRest prog w A h₀ L m env elt x scope cl { s₁ with heap := g } (fun nw => (T, tupOf vs n) ∈ nw) (fun i v => vs.toArray[i]? = some v) (Fin { s₁ with heap := g }) vs.toArray.size 0 [] news
section
variable {prog : Program} {w : World} {A : Around} {E : Value → Shared → Prop} {s : Shared} {h₀ : Heap} {L : Addr} {m : Str → Option Value} {env : Env}
theorem comp_over_tup {elt iter : PySem.Expr} {x : Str} {px pos : Pos} {scope : Scope} {cl : List (Str × Addr)} {Q : Value → Shared → Prop} (_ : Fr h₀ L s.heap m) (closes : closureFor scope env = pure cl) (noCell : ∀ y ∈ scope.names, y.2 ≠ .cell) (kind : scope.kind = .function)
    (ownNames : ∀ y ∈ scope.names, y.2 = .local → scope.names.lookup y.1 = some .local) (isLocal : scope.names.lookup x = some .local)
    (h : wpAny (model prog w) A (eval iter env) (OverTup prog w A h₀ L m env elt x scope cl fun s₂ => LCg.FinE h₀ L m s₂ Q) E s) (plain : ∀ x, foldedSetIterable iter env x = pure x := by intro _; rfl) :
    wpAny (model prog w) A (eval (.ListComp elt [⟨.Name x px, iter, [], 0⟩] scope pos) env) Q E s := by
  rw [eval_ListComp]
  refine wpAny_comprehension_free (use := none) rfl plain closes kind ownNames (wpAny_mono h ?_ fun _ _ e => e)
  rintro _ s₁ ⟨T, vs, n, news, rfl, inN, small, F, N, hh, rest⟩
  have tup : s₁.heap.IsTuple T vs.toArray := ⟨_, (N _ inN).1, rfl, n, rfl⟩
  have low : @LT.lt Nat _ T s₁.heap.objs.size := Heap.lt_size (N _ inN).1
  have grown {b : Addr} {o : Obj} (e : s₁.heap.get? b = some o) : (s₁.heap.push (tupIt T)).get? b = some o := Heap.get?_push_of_some _ e
  refine wpAny_pyIter_tuple tup (LCg.block_U (I := s₁.heap.objs.size) (S := fun nw => (T, tupOf vs n) ∈ nw) (W := Walks.tuple hh _ T (Nat.ne_of_lt low) vs.toArray) (hsz := small) (hIo := ?live) (hSt := ?stays) (hcell := noCell) (hkind := kind) (hx := isLocal) (hst := ?start) (hfp := ?below)
    (F := F.keeps fun _ _ => grown) (N := N.grown fun _ _ => grown) (hIL := Nat.ne_of_lt F.ns.lt) (hI₀ := next_is_new F) (off := ?off) (hS := inN) (R := rest _) (hRR := ?ends))
  case live => rintro _ _ ⟨⟨o, e, _⟩, _⟩; exact ⟨o, e⟩
  case stays =>
    rintro _ _ _ _ _ ⟨⟨_, e', q⟩, _⟩ e up _ N' S
    exact ⟨⟨_, up, Option.some.inj (e'.symm.trans e) ▸ q⟩, _, (N' _ S).1, rfl, n, rfl⟩
  case start => exact ⟨⟨_, Heap.get?_push_size _ rfl, rfl, rfl⟩, _, grown (N _ inN).1, rfl, n, rfl⟩
  case below =>
    intro b hb
    show @LT.lt Nat _ b (s₁.heap.push _).objs.size
    rw [Heap.size_push]
    rcases of_pair hb with e | e <;> omega
  case off => exact fun p hp => Nat.ne_of_lt (Heap.lt_size (N p hp).1)
  case ends =>
    intro D C h tk m' ys news' F' N' o1 ns hC₀ _ hCL _ hCD offC fin
    have off : ∀ p ∈ (D, LCg.lst ys) :: news', p.1 ≠ C := List.forall_mem_cons.mpr ⟨hCD.symm, offC⟩
    exact ⟨m', ns, fun h₂ same => fin D h₂ tk (F'.change same hCL hC₀) (fun p hp => ⟨same.extBut _ _ (off p hp) (N' p hp).1, (N' p hp).2⟩) o1⟩
/-- a block over strs whose element is True at each -/
theorem rest_strs {elt : PySem.Expr} {x : Str} {scope : Scope} {cl : List (Str × Addr)} {vs : List Value} {S : List (Addr × Obj) → Prop} {news : List (Addr × Obj)} {Fin : List Value → List (Addr × Obj) → Prop} {P : Str → Prop} (hi : ∀ v ∈ vs, ∃ x t, v = .str x t ∧ P x) (hS : S news)
    (elt_ok : ∀ xs t I oI C oC D m₂ h tk (ys : List Value) (E' Q' : Value → Shared → Prop), P xs → LCg.NsObj oC m₂ → m₂ x = some (.str xs t) → Fr h₀ L h m → News h₀ L h ((I, oI) :: (C, oC) :: (D, LCg.lst ys) :: news) →
      (∀ h' tk', Fr h₀ L h' m → News h₀ L h' ((I, oI) :: (C, oC) :: (D, LCg.lst ys) :: news) → Q' (.bool true) { s with heap := h', toks := tk' }) →
      wpAny (model prog w) A (eval elt (compEnvC scope cl C env)) Q' E' { s with heap := h, toks := tk })
    (fin : Fin (List.replicate vs.length (.bool true)) news) :
    LCg.CompRest prog w A h₀ L m env elt x scope cl s S (fun i v => vs.toArray[i]? = some v) Fin vs.toArray.size 0 [] news := by
  have all : ∀ k i, i + k = vs.length → LCg.CompRest prog w A h₀ L m env elt x scope cl s S (fun i v => vs.toArray[i]? = some v) Fin k i (List.replicate i (.bool true)) news := by
    intro k
    induction k with
    | zero => intro i e; exact LCg.CompRest.zero (by rw [show i = vs.length by omega]; exact fin)
    | succ k ih =>
      intro i e
      refine LCg.CompRest.succ fun v I oI C oC D m₂ h tk E' hv hC hx F N off ne => ?_
      obtain ⟨n, t, rfl, hP⟩ := hi v (by have e' : vs[i]? = some v := by simpa using hv
                                         exact List.mem_of_getElem? e')
      refine elt_ok n t I oI C oC D m₂ h tk _ E' _ hP hC hx F N fun h' tk' F' N' => ?_
      refine LCg.CompEnd.intro F' N' news (fun p hp => hp) off hS ?_
      rw [show List.replicate i (Value.bool true) ++ [Value.bool true] = List.replicate (i + 1) (.bool true) from (List.replicate_succ' ..).symm]
      exact ih (i + 1) (by omega)
  have := all vs.length 0 (by omega)
  simpa using this
end
theorem most_facts {i : Nat} (h : i < 192) : 0 ≤ lo i ∧ -1 ≤ Mine.hi i ∧ (Mine.hi i = -1 ∨ lo i ≤ Mine.hi i) := by
  have := List.all_eq_true.mp rows_most i (List.mem_range.mpr h)
  simpa [and_assoc] using this
end Mine
namespace Mine
theorem op_nmI {v : Int} (h0 : 0 ≤ v) (h1 : v < 192) : opOf (nm v.toNat) = v := by
  rw [op_nm (by omega)]; omega
theorem takesLo (w : World) {v : Int} {a b : Tok} (h0 : 0 ≤ v) (h1 : v < 192) : Pure 2 w 249 [.int v a, .int (lo v.toNat) b] (fun _ => .bool true) := by
  have e : takesV v (lo v.toNat) = true := by
    have := most_facts (i := v.toNat) (by omega)
    unfold takesV
    simp
    omega
  exact e ▸ takes w h0 h1
theorem takesHi (w : World) {v : Int} {a b : Tok} (h0 : 0 ≤ v) (h1 : v < 192) (h : ¬ Mine.hi v.toNat < 0) : Pure 2 w 249 [.int v a, .int (Mine.hi v.toNat + 1) b] (fun _ => .bool false) := by
  have e : takesV v (Mine.hi v.toNat + 1) = false := by
    unfold takesV
    simp
    omega
  exact e ▸ takes w h0 h1
theorem last_end {h₀ : Heap} {L : Addr} {mt ct dk bd I : Addr} {om oI : Obj} {cvs ws : List Value} {k k' kk : Int} {t tt : Tok} {u : Str → Option Value} {m : Str → Option Value} {i : Nat} {s₁ : Shared} {h : Heap} {tk : Nat}
    (F : Fr h₀ L h m) (N : News h₀ L h [(I, oI), (mt, om), (ct, listOf cvs.toArray 0), (dk, deckO bd k t 0), (bd, listOf ws.toArray 0)])
    (hm1 : m (Str.ofString "deck") = some (.ref dk)) (hm2 : m (Str.ofString "counts") = some (.ref ct)) (hm3 : m (Str.ofString "met") = some (.ref mt))
    (hlt : ∀ q ∈ [(mt, om), (ct, listOf cvs.toArray 0), (dk, deckO bd kk tt 0), (bd, listOf ws.toArray 0)], @LT.lt Nat _ q.1 I) (k0 : 0 ≤ k) (k1 : k ≤ k' + (i : Int) + 1) :
    UnrEndW h₀ L s₁ [(I, oI)] (fun m' n' => SubL [] n' ∧ LastJ bd dk ct mt om cvs ws k' (i + 1) m' n') { s₁ with heap := h, toks := tk } := by
  have _ := u
  refine turn_end (news' := [(mt, om), (ct, listOf cvs.toArray 0), (dk, deckO bd k t 0), (bd, listOf ws.toArray 0)]) F N (by simp) (fun p hp => .tail _ hp) (fun p hp => ?_) ⟨trivial, ⟨k, t, hm1, hm2, hm3, rfl, k0, by omega⟩⟩
  simp only [List.mem_cons, List.not_mem_nil, or_false] at hp
  rcases hp with h | h | h | h <;> rw [h]
  · exact hlt _ (.head _)
  · exact hlt _ (.tail _ (.head _))
  · exact hlt (dk, deckO bd kk tt 0) (.tail _ (.tail _ (.head _)))
  · exact hlt _ (.tail _ (.tail _ (.tail _ (.head _))))
end Mine
end

-- part LH
section
set_option maxRecDepth 100000
set_option maxHeartbeats 4000000
namespace Mine
def tupL (vs : List Value) : Obj := { cls := .type "tuple", data := .seq vs.toArray }
section
variable {p : Program} {w : World} {n₀ : Nat} {ann : Option Value} {env : Env} {q : Pos} {N : Nat} {h : Heap} {g : Array GenState} {d : Drawn} {t : Nat} {os : OsState} {K : Value → Sem Fin} {H : Value → Sem Fin} {gd : Bool → Bool} {lv : List Value → List Value} {c : Code} {pos pos0 p1 p2 p3 p4 p5 : Pos}
theorem row_a {x : Str} {a b k : Int} {i1 i2 i3 i4 : Nat} {n : Nat} : topRun treeTable p w n₀ ann (N + 6) ⟨h, g, d, t, os⟩ ⟨(eval (.Tuple [.Constant (.str x) i1 p1, .Constant (.int a) i2 p2, .Constant (.int b) i3 p3, .Constant (.int k) i4 p4] n pos) env).wrap K H gd lv, c, pos0, [topFrame q]⟩ =
    topRun treeTable p w n₀ ann N ⟨h.push (tupL [.str x t, .int a (t + 1), .int b (t + 2), .int k (t + 3)]), g, d, t + 4, os⟩ ⟨K (.ref h.objs.size), c, pos, [topFrame q]⟩ := by kernel_rfl
theorem row_b {x : Str} {a k : Int} {i1 i2 i3 i4 : Nat} {n : Nat} : topRun treeTable p w n₀ ann (N + 11) ⟨h, g, d, t, os⟩ ⟨(eval (.Tuple [.Constant (.str x) i1 p1, .Constant (.int a) i2 p2, .UnaryOp .USub (.Constant (.int 1) i3 p3) p5, .Constant (.int k) i4 p4] n pos) env).wrap K H gd lv, c, pos0, [topFrame q]⟩ =
    topRun treeTable p w n₀ ann N ⟨h.push (tupL [.str x t, .int a (t + 1), .int (-1) (t + 3), .int k (t + 4)]), g, d, t + 5, os⟩ ⟨K (.ref h.objs.size), c, p5, [topFrame q]⟩ := by kernel_rfl
end
/-- the rows as they are laid -/
inductive RowS : PySem.Expr → Prop
  | a (x : Str) (a b k : Int) (i1 i2 i3 i4 n : Nat) (p1 p2 p3 p4 pos : Pos) : RowS (.Tuple [.Constant (.str x) i1 p1, .Constant (.int a) i2 p2, .Constant (.int b) i3 p3, .Constant (.int k) i4 p4] n pos)
  | b (x : Str) (a k : Int) (i1 i2 i3 i4 n : Nat) (p1 p2 p3 p4 p5 pos : Pos) : RowS (.Tuple [.Constant (.str x) i1 p1, .Constant (.int a) i2 p2, .UnaryOp .USub (.Constant (.int 1) i3 p3) p5, .Constant (.int k) i4 p4] n pos)
def rowNext : PySem.Expr → Shared → Shared
  | .Tuple [.Constant (.str x) _ _, .Constant (.int a) _ _, .Constant (.int b) _ _, .Constant (.int k) _ _] _ _, ⟨h, g, d, t, os⟩ => ⟨h.push (tupL [.str x t, .int a (t + 1), .int b (t + 2), .int k (t + 3)]), g, d, t + 4, os⟩
  | .Tuple [.Constant (.str x) _ _, .Constant (.int a) _ _, .UnaryOp .USub _ _, .Constant (.int k) _ _] _ _, ⟨h, g, d, t, os⟩ => ⟨h.push (tupL [.str x t, .int a (t + 1), .int (-1) (t + 3), .int k (t + 4)]), g, d, t + 5, os⟩
  | _, s => s
def rowPos : PySem.Expr → Pos → Pos
  | .Tuple [_, _, .UnaryOp _ _ p5, _] _ _, _ => p5
  | .Tuple _ _ pos, _ => pos
  | _, p => p
def rowCost : PySem.Expr → Nat
  | .Tuple [_, _, .UnaryOp _ _ _, _] _ _ => 11
  | _ => 6
def rowsNext : List PySem.Expr → Shared → Shared
  | [], s => s
  | e :: es, s => rowsNext es (rowNext e s)
def rowsPos : List PySem.Expr → Pos → Pos
  | [], p => p
  | e :: es, p => rowsPos es (rowPos e p)
def rowsCost : List PySem.Expr → Nat
  | [] => 0
  | e :: es => rowsCost es + rowCost e
def refsFrom : List PySem.Expr → Nat → List Value
  | [], _ => []
  | _ :: es, n => .ref n :: refsFrom es (n + 1)
def rowOk : PySem.Expr → Bool
  | .Tuple [.Constant (.str _) _ _, .Constant (.int _) _ _, .Constant (.int _) _ _, .Constant (.int _) _ _] _ _ => true
  | .Tuple [.Constant (.str _) _ _, .Constant (.int _) _ _, .UnaryOp .USub (.Constant (.int 1) _ _) _, .Constant (.int _) _ _] _ _ => true
  | _ => false
theorem rowS_of {e : PySem.Expr} (h : rowOk e = true) : RowS e := by
  unfold rowOk at h
  split at h
  · exact .a ..
  · exact .b ..
  · cases h
theorem rowsS_of {es : List PySem.Expr} (h : es.all rowOk = true) : ∀ e ∈ es, RowS e := fun e he => rowS_of (List.all_eq_true.mp h e he)

theorem spliced_cons_wrap {x : Sem Value} {rest : List (Bool × Sem Value)} {K : List Value → Sem Fin} {H : Value → Sem Fin} {gd : Bool → Bool} {lv : List Value → List Value} :
    (spliced ((false, x) :: rest)).wrap K H gd lv = x.wrap (fun v => (holding [v] (spliced rest)).wrap (fun vs => K (v :: vs)) H gd lv) H gd lv := by
  show (x >>= fun v => (holding [v] (spliced rest)) >>= fun vs => (pure ([v] ++ vs) : Sem (List Value))).wrap K H gd lv = _
  rw [Sem.bind_eq_wrap', Sem.wrap_wrap]
  refine Sem.wrap_congr _ _ _ (fun v => ?_) fun _ => rfl
  rw [Sem.bind_eq_wrap', Sem.wrap_wrap]
  exact Sem.wrap_congr _ _ _ (fun vs => rfl) fun _ => rfl
theorem holding_ref_wrap {a : Addr} {m : Sem (List Value)} {K : List Value → Sem Fin} {H : Value → Sem Fin} {gd : Bool → Bool} {lv : List Value → List Value} :
    (holding [.ref a] m).wrap K H gd lv = m.wrap K H gd (fun l => lv ([.ref a] ++ l)) := by
  show (m.keep [.ref a]).wrap K H gd lv = _
  rw [Sem.keep_eq_wrap, Sem.wrap_wrap]
  exact Sem.wrap_congr _ _ _ (fun vs => rfl) fun _ => rfl
section
variable {p : Program} {w : World} {n₀ : Nat} {ann : Option Value} {env : Env} {q bp : Pos} {N : Nat} {H : Value → Sem Fin} {gd : Bool → Bool} {c : Code} {r : Shared}
theorem rows_top : ∀ (es : List PySem.Expr), (∀ e ∈ es, RowS e) → ∀ (s : Shared) (K : List Value → Sem Fin) (lv : List Value → List Value) (pos : Pos),
    topRun treeTable p w n₀ ann N (rowsNext es s) ⟨K (refsFrom es s.heap.objs.size), c, rowsPos es pos, [topFrame q]⟩ = some r →
    topRun treeTable p w n₀ ann (N + rowsCost es) s ⟨(spliced (backTo bp (starEach es env))).wrap K H gd lv, c, pos, [topFrame q]⟩ = some r
  | [], _, _, _, _, _, h => h
  | e :: es, hs, s, K, lv, pos, h => by
    have ih := rows_top es (fun e' he => hs e' (List.mem_cons_of_mem _ he))
    have hh : ∀ o : Obj, (s.heap.push o).objs.size = s.heap.objs.size + 1 := fun o => Heap.size_push ..
    obtain ⟨hp, g, d, t, os⟩ := s
    cases hs e List.mem_cons_self with
    | a x a b k i1 i2 i3 i4 n p1 p2 p3 p4 pos' =>
      show topRun treeTable p w n₀ ann (N + rowsCost es + 6) _ ⟨(spliced ((false, eval _ env) :: backTo bp (starEach es env))).wrap K H gd lv, c, pos, [topFrame q]⟩ = some r
      rw [spliced_cons_wrap, row_a, holding_ref_wrap]
      refine ih _ _ _ _ ?_
      have e1 : (hp.push (tupL [.str x t, .int a (t + 1), .int b (t + 2), .int k (t + 3)])).objs.size = hp.objs.size + 1 := hh _
      dsimp only
      rw [e1]
      exact h
    | b x a k i1 i2 i3 i4 n p1 p2 p3 p4 p5 pos' =>
      show topRun treeTable p w n₀ ann (N + rowsCost es + 11) _ ⟨(spliced ((false, eval _ env) :: backTo bp (starEach es env))).wrap K H gd lv, c, pos, [topFrame q]⟩ = some r
      rw [spliced_cons_wrap, row_b, holding_ref_wrap]
      refine ih _ _ _ _ ?_
      have e1 : (hp.push (tupL [.str x t, .int a (t + 1), .int (-1) (t + 3), .int k (t + 4)])).objs.size = hp.objs.size + 1 := hh _
      dsimp only
      rw [e1]
      exact h
/-- what a statement does with its value -/
def useF (tg : List PySem.Expr) (value : PySem.Expr) (env : Env) (v : Value) : Sem Flow := do
  assignStores env v (← swappedStores tg value env) ((assignEach tg env).map (·.2))
theorem prim_top {es : List PySem.Expr} {tg : List PySem.Expr} {k : Nat} {tp pos p0 : Pos} {K : Flow → Sem Fin} {H : Value → Sem Fin} {s : Shared} (hs : ∀ e ∈ es, RowS e) (hw : swapsWithSole tg (.Tuple es k tp) pos.line env = pure false)
    (h : topRun treeTable p w n₀ ann N (rowsNext es s) ⟨((newTuple (refsFrom es s.heap.objs.size)).wrap (useF tg (.Tuple es k tp) env) .raise id id).wrap K H id id, c, rowsPos es tp, [topFrame q]⟩ = some r) :
    topRun treeTable p w n₀ ann (N + rowsCost es + 2) s ⟨(exec (.Assign tg (.Tuple es k tp) pos) env).wrap K H id id, c, p0, [topFrame q]⟩ = some r := by
  have e : exec (.Assign tg (.Tuple es k tp) pos) env = (do standAt pos; (do standAt tp; (spliced (backTo tp (starEach es env)) >>= newTuple : Sem Value)) >>= useF tg (.Tuple es k tp) env) := by
    rw [exec_Assign, hw]; rfl
  rw [e]
  show topRun treeTable p w n₀ ann (N + rowsCost es) s ⟨((spliced (backTo tp (starEach es env)) >>= newTuple) >>= useF tg (.Tuple es k tp) env).wrap K H id id, c, tp, [topFrame q]⟩ = some r
  rw [Sem.bind_eq_wrap', Sem.bind_eq_wrap', Sem.wrap_wrap, Sem.wrap_wrap]
  refine rows_top es hs s _ _ _ ?_
  rw [Sem.wrap_wrap] at h
  exact h
end
end Mine
end

-- part LI
section
set_option maxRecDepth 100000
set_option maxHeartbeats 4000000
namespace Mine
abbrev pG : Program := PySem.Challenge.rw_on0292_01.row.toRowW.prog
def env0 : Env := { scope := pG.main.scope, locals := mainNs, globals := mainNs, cells := [], code := .ref 13, frame := some 14 }
def body0 : List Stmt := behindTheImports pG
def q0 : Pos := ⟨0, 0, 0, 0⟩
def code0 : Code := .body body0 env0
def tg0 : List PySem.Expr := match (body0[2]? : Option Stmt) with | some (.Assign tg _ _) => tg | _ => []
def es0 : List PySem.Expr := match (body0[2]? : Option Stmt) with | some (.Assign _ (.Tuple es _ _) _) => es | _ => []
def k0 : Nat := match (body0[2]? : Option Stmt) with | some (.Assign _ (.Tuple _ k _) _) => k | _ => 0
def tp0 : Pos := match (body0[2]? : Option Stmt) with | some (.Assign _ (.Tuple _ _ tp) _) => tp | _ => q0
def ps0 : Pos := match (body0[2]? : Option Stmt) with | some (.Assign _ _ ps) => ps | _ => q0
def sts0 : List Stmt := body0.take 2
def rest0 : List Stmt := body0.drop 3
theorem body_split : body0 = sts0 ++ .Assign tg0 (.Tuple es0 k0 tp0) ps0 :: rest0 := by kernel_rfl
theorem es0_ok : es0.all rowOk = true := by kernel_rfl
abbrev an0 : Option Value := some (.ref 6)
noncomputable abbrev s0 (w : World) (os : OsState) : Shared := ⟨boot_heap w.params, Array.mk [], boot_drawn, boot_toks, os⟩
noncomputable def sA (w : World) (os : OsState) : Shared := match topGo treeTable pG w 11 an0 12 (s0 w os) (topStub pG) with | some (s, _) => s | none => s0 w os
theorem goA (w : World) (os : OsState) : topGo treeTable pG w 11 an0 12 (s0 w os) (topStub pG) = some (sA w os, ⟨denote treeTable code0, code0, q0, [topFrame q0]⟩) := by kernel_rfl
theorem goB (w : World) (os : OsState) : segRun treeTable pG w 11 an0 1 1 (sA w os) (blockOf body0 env0 code0 q0 [topFrame q0]) = some (.next, sA w os, code0, q0) := by kernel_rfl
noncomputable def sC (w : World) (os : OsState) : Shared := match segRun treeTable pG w 11 an0 1 24 (sA w os) (piecesOf sts0 env0 code0 q0 [topFrame q0]) with | some (_, s, _, _) => s | none => sA w os
theorem goC (w : World) (os : OsState) : segRun treeTable pG w 11 an0 1 24 (sA w os) (piecesOf sts0 env0 code0 q0 [topFrame q0]) = some (.next, sC w os, code0, ⟨2, 0, 2, 3⟩) := by kernel_rfl
theorem solo0 : swapsWithSole tg0 (.Tuple es0 k0 tp0) ps0.line env0 = pure false := by kernel_rfl
noncomputable def sD (w : World) (os : OsState) : Shared := rowsNext es0 (sC w os)
noncomputable def tD (w : World) (os : OsState) : Thread := ⟨((newTuple (refsFrom es0 (sC w os).heap.objs.size)).wrap (useF tg0 (.Tuple es0 k0 tp0) env0) .raise id id).wrap (fun f => match f with | .next => (execs rest0 env0).wrap doneF (leaveH env0) id id | f => doneF f) (leaveH env0) id id, code0, rowsPos es0 tp0, [topFrame q0]⟩
theorem chain {w : World} {os : OsState} {M : Nat} {r : Shared} (h : topRun treeTable pG w 11 an0 M (sD w os) (tD w os) = some r) :
    topRun treeTable pG w 11 an0 (12 + (1 + (24 + (M + rowsCost es0 + 2)))) (s0 w os) (topStub pG) = some r := by
  refine go_top (goA w os) ?_
  refine piece_block (goB w os) ?_
  rw [body_split]
  refine piece_app (goC w os) ?_
  unfold restOf
  rw [execs_cons_wrap]
  exact prim_top (rowsS_of es0_ok) solo0 h
theorem cost0 : Nat.ble (12 + (1 + (24 + (600 + rowsCost es0 + 2)))) 3576 = true := by kernel_rfl
end Mine
end

-- part LJ
section
set_option maxRecDepth 100000
set_option maxHeartbeats 4000000
namespace Mine
theorem litsAt_split (h : Heap) : ∀ (k : Nat) (ds : List WData) (vs : List Value), litsAt h (ds.take k) (vs.take k) = true → litsAt h (ds.drop k) (vs.drop k) = true → litsAt h ds vs = true
  | 0, _, _, _, b => b
  | _ + 1, [], [], _, _ => by simp [litsAt]
  | _ + 1, [], _ :: _, a, _ => by simp [litsAt] at a
  | _ + 1, _ :: _, [], a, _ => by simp [litsAt] at a
  | k + 1, d :: ds, v :: vs, a, b => by
    simp only [List.take_succ_cons, List.drop_succ_cons, litsAt, Bool.and_eq_true] at a b ⊢
    exact ⟨a.1, litsAt_split h k ds vs a.2 b⟩
/-- a part of the rows of a written tuple -/
def partAt (f : List WData → List WData) (g : List Value → List Value) (h : Heap) (c : Str × WData) : Bool :=
  match h.nsMap mainGlobals c.1, c.2 with
  | some (.ref a), .tuple ds => (match h.get? a with
    | some o => o.cls == .type "tuple" && (match o.data with
        | .seq vs _ => litsAt h (f ds) (g vs.toList)
        | _ => false)
    | none => false)
  | _, _ => false
theorem const_split {h : Heap} {c : Str × WData} (k : Nat) (a : partAt (List.take k) (List.take k) h c = true) (b : partAt (List.drop k) (List.drop k) h c = true) : constAt h c = true := by
  obtain ⟨x, dt⟩ := c
  unfold partAt at a b
  unfold constAt
  split at a
  · rename_i v ds h1 h2
    dsimp only at h1 h2
    subst h2
    simp only [h1] at b ⊢
    rw [litAt]
    split at a
    · rename_i o ho
      simp only [ho] at b ⊢
      obtain ⟨a1, a2⟩ := Bool.and_eq_true_iff.mp a
      obtain ⟨_, b2⟩ := Bool.and_eq_true_iff.mp b
      refine Bool.and_eq_true_iff.mpr ⟨a1, ?_⟩
      split at a2
      · rename_i vs x e
        simp only [e] at b2 ⊢
        exact litsAt_split h k _ _ a2 b2
      · cases a2
    · cases a
  · cases a
/-- the first | the second written constant -/
def firstAt (ws : List (Str × WData)) (h : Heap) : Bool := match ws with | x :: _ => constAt h x | [] => true
def secondAt (f : List WData → List WData) (g : List Value → List Value) (ws : List (Str × WData)) (h : Heap) : Bool := match ws with | _ :: y :: _ => partAt f g h y | _ => true
theorem map_at {α β : Type} {o : Option α} {f : α → β} {b : β} {r : α} (h : o.map f = some b) (e : o = some r) : f r = b := by rw [e] at h; exact Option.some.inj h
theorem lits_gen {ws : List (Str × WData)} {o : Option Shared} {r : Shared} (k : Nat) (h2 : ws.length = 2) (e1 : o.map (fun s => firstAt ws s.heap) = some true) (ea : o.map (fun s => secondAt (List.take k) (List.take k) ws s.heap) = some true)
    (eb : o.map (fun s => secondAt (List.drop k) (List.drop k) ws s.heap) = some true) (er : o = some r) : ws.all (constAt r.heap) = true := by
  have e1 := map_at e1 er
  have ea := map_at ea er
  have eb := map_at eb er
  match ws, h2 with
  | [x, y], _ => 
    have h1 : constAt r.heap x = true := e1
    have h3 : constAt r.heap y = true := const_split k ea eb
    simp [h1, h3]
def SA (q : Program) (l m : List Str) (X : Shared → Bool) (s : Shared) :=
  ((openSeen q l m X true s).1, (openSeen q l m X true s).2.1, (openSeen q l m X true s).2.2.1, tabsOk q s, pinSeenD q (drecsOf q) s, plainSeenE q (looseW q l) s, plainSeenD q l s, ((wdefsOf q).map fun d => shapeAtK s.heap d.1.name, (wdefsOf q).all fun d => s.heap.restOk (q.nameAt false d.1.name) d.1.name && dfltAt s.heap d), clsSeenW q l s)
def GA (q : Program) (l : List Str) := (expectedOf q, bltViewBooted, true, true, pinGoodD (drecsOf q), plainGoodE q (looseW q l), plainGoodD q l, ((wdefsOf q).map fun d => some d.1.shape, true), clsGoodW q l)
theorem pr {α β : Type} {a c : α} {b d : β} (h : (a, b) = (c, d)) : a = c ∧ b = d := by cases h; exact ⟨rfl, rfl⟩
theorem pair9 {α β γ δ : Type} {x y : α × β × γ × δ} (h1 : x.1 = y.1) (h2 : x.2.1 = y.2.1) (h3 : x.2.2.1 = y.2.2.1) (h4 : x.2.2.2 = y.2.2.2) : x = y := Prod.ext h1 (Prod.ext h2 (Prod.ext h3 h4))
theorem seen_of {q : Program} {l m : List Str} {X : Shared → Bool} {s : Shared} (h : SA q l m X s = GA q l) (hl : (wlitsOf q).all (constAt s.heap) = true) : openSeen q l m X true s = openGood q l := by
  unfold SA GA at h
  obtain ⟨h1, h⟩ := pr h
  obtain ⟨h2, h⟩ := pr h
  obtain ⟨h3, h⟩ := pr h
  obtain ⟨h4, h⟩ := pr h
  obtain ⟨h5, h⟩ := pr h
  obtain ⟨h6, h⟩ := pr h
  obtain ⟨h7, h⟩ := pr h
  obtain ⟨h8, h9⟩ := pr h
  obtain ⟨h8a, h8b⟩ := pr h8
  have hw : wideSeen q s = wideGood q := by
    unfold wideSeen wideGood
    rw [h8a, h8b, hl]; rfl
  refine pair9 h1 h2 h3 ?_
  show (tabsOk q s, pinSeenD q (drecsOf q) s, plainSeenE q (looseW q l) s, plainSeenD q l s, wideSeen q s, clsSeenW q l s) = (true, pinGoodD (drecsOf q), plainGoodE q (looseW q l), plainGoodD q l, wideGood q, clsGoodW q l)
  rw [h4, h5, h6, h7, hw, h9]
theorem runs_gen {α : Type} {q : Program} {l m : List Str} {X : Shared → Bool} {o : Option Shared} {T : Shared → Prop} {f0 f1 : Shared → Bool} {f3 : Shared → α} {v : α} (h0 : o.map (fun s => (f0 s, f1 s, SA q l m X s)) = some (true, true, GA q l)) (h3 : o.map f3 = some v)
    (hl : ∀ r, o = some r → (wlitsOf q).all (constAt r.heap) = true) (k : ∀ r, o = some r → T r) : ∃ r, T r ∧ f1 r = true ∧ openSeen q l m X true r = openGood q l ∧ f3 r = v := by
  obtain ⟨r, er, _⟩ := Option.map_eq_some_iff.mp h0
  have e := map_at h0 er
  exact ⟨r, k r er, (pr (pr e).2).1, seen_of (pr (pr e).2).2 (hl r er), map_at h3 er⟩
theorem two0 : (wlitsOf vw).length = 2 := by kernel_rfl
abbrev Xt0 : Shared → Bool := fun s => xlAt vw [] s && recOk (RowW.records (OpenRow.toRowW (OpenLaw.row PySem.Challenge.rw_on0292_01))) s
noncomputable abbrev rD (w : World) (os : OsState) : Option Shared := topRun treeTable pG w 11 an0 600 (sD w os) (tD w os)
abbrev md0 : List Str := importedModules pG.main.body
noncomputable abbrev kept0 (w : World) (s : Shared) : Bool := staticsOk md0 (boot_heap w.params) s.heap && namesBound pG s.heap && gensDone s && laidKept (boot_heap w.params) s.heap
-- the looks, each one evaluation of the rest of the top by the kernel
theorem d0 (w : World) (os : OsState) : (rD w os).map (fun s => (gensDone s, kept0 w s, SA vw [] md0 Xt0 s)) = some (true, true, GA vw []) := by kernel_rfl
theorem d1 (w : World) (os : OsState) : (rD w os).map (fun s => firstAt (wlitsOf vw) s.heap) = some true := by kernel_rfl
theorem d2a (w : World) (os : OsState) : (rD w os).map (fun s => secondAt (List.take 5) (List.take 5) (wlitsOf vw) s.heap) = some true := by kernel_rfl
theorem d2b (w : World) (os : OsState) : (rD w os).map (fun s => secondAt (List.drop 5) (List.drop 5) (wlitsOf vw) s.heap) = some true := by kernel_rfl
theorem d3 (w : World) (os : OsState) : (rD w os).map (Hook.obs (kHook KK addrs addrs_ok)) = some (Hook.val (kHook KK addrs addrs_ok) w) := by kernel_rfl
end Mine
end

-- part LK
section
set_option maxRecDepth 100000
set_option maxHeartbeats 4000000
namespace Mine
abbrev startOf (h : Heap) (gs : Array GenState) := (h.isNs mainGlobals && gs.size == 0, h.objs.size, h.nsMap mainGlobals "__annotations__")
abbrev keptAt (p : Program) (h : Heap) (r : Shared) : Bool := staticsOk (importedModules p.main.body) h r.heap && namesBound p r.heap && gensDone r && laidKept h r.heap
/-- the top from a state laid, by its run and what is kept -/
theorem top_by_run {p : Program} {w : World} {N m : Nat} {ann : Option Value} {s r : Shared} (hz : startOf s.heap s.gens = (true, m, ann)) (hr : topRun treeTable p w m ann N s (topStub p) = some r) (hk : keptAt p s.heap r = true) : topFrom treeTable p w N s = some r := by
  have z := (Prod.mk.inj hz).1
  obtain ⟨rfl, rfl⟩ := Prod.mk.inj (Prod.mk.inj hz).2
  simp only [topFrom, z, hr, Option.bind_some]
  exact (congrArg (fun b : Bool => match b with | true => some r | false => none) hk :)
/-- the head, from the opening, its sizes, and a run whose end is looked at -/
theorem left_run {p q : Program} {loose : List Str} {Xt : Shared → Bool} {α : Type} {Yf : Shared → α} {Ya : World → α} {N m : Nat} {g0 : Bool} {hp : Params → Heap} {gs : Array GenState} {dr : Drawn} {tk : Nat} {ann : Option Value}
    (opens : ∀ w : World, (fencedOpening treeTable p w N).map (fun s => (s.heap, s.gens, s.drawn, s.toks)) = some (hp w.params, gs, dr, tk)) (sized : ∀ w : World, startOf (hp w.params) gs = (true, m, ann))
    (runs : ∀ (w : World) (os : OsState), ∃ r, topRun treeTable p w m ann N ⟨hp w.params, gs, dr, tk, os⟩ (topStub p) = some r ∧ keptAt p (hp w.params) r = true ∧
      openSeen q loose (importedModules p.main.body) Xt g0 r = openGood q loose ∧ Yf r = Ya w) : LeftO p q loose Xt Yf Ya N g0 := by
  intro w
  have ho := opens w
  cases hf : fencedOpening treeTable p w N with
  | none => rw [hf] at ho; cases ho
  | some s =>
    rw [hf] at ho
    rcases s with ⟨sh, sg, sd, st, os⟩
    have parts : (sh, sg, sd, st) = (hp w.params, gs, dr, tk) := Option.some.inj ho
    cases parts
    rcases runs w os with ⟨r, run, kept, seen, own⟩
    have top := top_by_run (s := ⟨hp w.params, gs, dr, tk, os⟩) (sized w) run kept
    simp only [openEnds, hf, Option.bind_some, top, Option.map_some, seen, own]
end Mine
end

-- part LK2
section
set_option maxRecDepth 100000
set_option maxHeartbeats 4000000
namespace Mine
theorem sizes0 (w : World) : ((boot_heap w.params).isNs mainGlobals && (Array.mk [] : Array GenState).size == 0, (boot_heap w.params).objs.size, (boot_heap w.params).nsMap mainGlobals "__annotations__") = (true, 11, an0) := by kernel_rfl
theorem open0 : opening pG = plainProg pG.main.scope.names := by kernel_rfl
theorem fence0 (s : Shared) : fenceModules? pG s = some s := by kernel_rfl
theorem fuel_gen {n m : Nat} (h : Nat.ble n m = true) : n + (m - n) = m := by have := Nat.le_of_ble_eq_true h; omega
theorem at_fuel {n m : Nat} {P : Nat → Prop} (h : Nat.ble n m = true) (x : P (n + (m - n))) : P m := fuel_gen h ▸ x
theorem run0 (w : World) (os : OsState) {r : Shared} (er : rD w os = some r) : topRun treeTable pG w 11 an0 3576 (s0 w os) (topStub pG) = some r :=
  at_fuel (P := fun n => topRun treeTable pG w 11 an0 n (s0 w os) (topStub pG) = some r) cost0 (topRun_mono _ _ _ _ _ (chain er))
theorem lits0 (w : World) (os : OsState) {r : Shared} (er : rD w os = some r) : (wlitsOf vw).all (constAt r.heap) = true := lits_gen 5 two0 (d1 w os) (d2a w os) (d2b w os) er
theorem runs0 (w : World) (os : OsState) : ∃ r, topRun treeTable pG w 11 an0 3576 (s0 w os) (topStub pG) = some r ∧ (staticsOk md0 (boot_heap w.params) r.heap && namesBound pG r.heap && gensDone r && laidKept (boot_heap w.params) r.heap) = true ∧ openSeen vw [] md0 Xt0 true r = openGood vw [] ∧ Hook.obs (kHook KK addrs addrs_ok) r = Hook.val (kHook KK addrs addrs_ok) w :=
  runs_gen (T := fun r => topRun treeTable pG w 11 an0 3576 (s0 w os) (topStub pG) = some r) (f0 := fun s => gensDone s) (f1 := fun r => staticsOk md0 (boot_heap w.params) r.heap && namesBound pG r.heap && gensDone r && laidKept (boot_heap w.params) r.heap) (f3 := Hook.obs (kHook KK addrs addrs_ok)) (d0 w os) (d3 w os) (fun _ er => lits0 w os er) (fun _ er => run0 w os er)
end Mine
end

-- part LK3
section
set_option maxRecDepth 100000
set_option maxHeartbeats 4000000
namespace Mine
theorem left : LeftO PySem.Challenge.rw_on0292_01.row.toRowW.prog vw [] (fun s => xlAt vw [] s && recOk (RowW.records (OpenRow.toRowW (OpenLaw.row PySem.Challenge.rw_on0292_01))) s) (Hook.obs (kHook KK addrs addrs_ok)) (Hook.val (kHook KK addrs addrs_ok)) 3576 := left_run (boot_open open0 (by decide) fence0) sizes0 runs0
end Mine
end

-- the end
section
set_option maxHeartbeats 8000000
open Mine
local macro_rules | `(tactic| walk_at "call ref") => `(tactic| (k_here; (with_reducible show wpAny _ _ (call (Value.ref 280) _) _ _ _); refine Stop.out ?_))
local macro_rules | `(tactic| walk_at "call ref") => `(tactic| (k_here; (with_reducible show wpAny _ _ (call (Value.ref 280) _) _ _ _); (with_unfolding_all refine' DrawC.use ?k1 ?k2 ?k3 ?k4 ?k5 ?kK ?kd ?ku ?U ?hb ?hbd ?hi ?h1 ?h2 ?hns ?k0 ?k6 ?m0 ?m1 ?_; (case k1 => k_asm); (case k2 => k_asm); (case k3 => k_asm); (case k4 => k_asm); (case k5 => k_asm); (case kK => first | exact rfl | assumption); (case kd => ktr_room); (case ku => ktr_units); (case U => k_updF); (case hb => k_mem); (case hbd => k_ne); (case hi => assumption); (case h1 => assumption); (case h2 => assumption); (case hns => assumption); (case k0 => omega); (case k6 => omega); (case m0 => omega); (case m1 => omega); k_whole); intro v9 u9 h9 tk9 t9 lo9 hi9 F9 N9; (try dsimp only at N9); (try dsimp only); (try k_sweep); (try k_fold)))
local macro_rules | `(tactic| walk_at "pyIter ref") => `(tactic| (k_here; (with_reducible show wpAny _ _ (pyIter (Value.ref _)) (fun it s₂ => TurnsAt _ _ _ _ _ _ _ _ _ it s₂) _ _); refine Stop.out ?_))
local macro_rules | `(tactic| walk_at "exec For Name Name cons nil") => `(tactic| (k_here; (rename Fr _ _ _ _ => lF'); (with_unfolding_all refine' For_turns lF' ?_; k_whole)))
local macro_rules | `(tactic| walk_at "exec For Name Call cons nil") => `(tactic| (k_here; (rename Fr _ _ _ _ => lF'); (with_unfolding_all refine' For_turns lF' ?_; k_whole)))
local macro_rules | `(tactic| walk_at "assign Tuple") => `(tactic| (k_here; (with_reducible show wpAny _ _ (assign (Expr.Tuple _ _ _) _ (Value.ref (250 + _))) _ _ _); k_dflt (refine' unpackK ?F ?N ?X ?k ?c ?d ?k1 ?k2 ?k3 ?_; (case F => k_asm); (case N => k_asm); (case X => k_asm); (case k => assumption); (case c => exact rfl); (case d => exact rfl); (case k1 => exact rfl); (case k2 => exact rfl); (case k3 => exact rfl)); intro h' F' N'; (try k_sweep)))
local macro_rules | `(tactic| walk_at "call builtin:str.split") => `(tactic| (k_here; (with_reducible show wpAny _ _ (call (Value.builtin "str.split") _) _ _ _); (refine split_lot (by k_asm) (by k_asm) (by assumption) (by assumption) ?_); intro D' vs' h' k' hv' F' N' l1; (try k_lt l1)))
local macro_rules | `(tactic| walk_at "call builtin:len") => `(tactic| (k_here; (with_reducible show wpAny _ _ (call (Value.builtin "len") [Value.ref _]) _ _ _); k_dflt (refine' strs_len ?k1 ?k2 ?k3 ?k4 ?_; (case k1 => k_asm); (case k2 => k_mem); (case k3 => assumption); (case k4 => assumption); k_whole)))
local macro_rules | `(tactic| walk_at "subscriptTail") => `(tactic| (k_here; (with_reducible show wpAny _ _ (subscriptTail _ _ (Value.ref _) (Value.int _ _)) _ _ _); k_dflt (refine' strs_item ?k1 ?k2 ?k3 ?k4 ?k5 ?k6 ?_ ?k7; (case k1 => k_asm); (case k2 => k_mem); (case k3 => assumption); (case k4 => assumption); (case k5 => omega); (case k6 => omega); (case k7 => with_unfolding_all rfl); k_whole); intro p9 t9 hp9))
local macro_rules | `(tactic| walk_at "binaryOp FloorDiv int int") => `(tactic| (refine half_gen ?_; intro r9 t9 hr9 hs9; (try dsimp only)))
local macro_rules | `(tactic| walk_at "call ref") => `(tactic| (k_here; (with_reducible show wpAny _ _ (call (Value.ref 292) _) _ _ _); refine Stop.out ?_))
local macro_rules | `(tactic| walk_at "compareOp In str ref") => `(tactic| (k_here; k_dflt (refine met_in (by k_asm) (by k_mem) (by assumption) (by assumption) (by assumption) ?_)))
local macro_rules | `(tactic| walk_at "setItem ref str") => `(tactic| (k_here; k_dflt (refine' met_set ?F ?N ?U ?hd ?hsz ?_; (case F => k_asm); (case N => k_asm); (case U => k_updF); (case hd => assumption); (case hsz => omega); k_whole); intro h' o' F' N' hd'; (try dsimp only at N'); (try dsimp only)))
local macro_rules | `(tactic| walk_at "call ref") => `(tactic| (k_here; (with_reducible show wpAny _ _ (call (Value.ref 292) _) _ _ _); (with_unfolding_all refine' right_use ?k1 ?k2 ?k3 ?k4 ?k5 ?kK ?kd ?ku ?hp ?hb ?hc ?hI ?hl ?_; (case k1 => k_asm); (case k2 => k_asm); (case k3 => k_asm); (case k4 => k_asm); (case k5 => k_asm); (case kK => first | exact rfl | assumption); (case kd => ktr_room); (case ku => ktr_units); (case hp => assumption); (case hb => assumption); (case hc => k_mem); (case hI => exact .cons _ _ (.cons _ _ (.cons _ _ (.cons _ _ (.cons _ _ (.cons _ _ .nil)))))); (case hl => exact Nat.le_of_ble_eq_true rfl); k_whole); intro h9 tk9 F9 N9; (try dsimp only); (try k_sweep); (try k_fold)))
local macro_rules | `(tactic| walk_at "UnrEndW") => `(tactic| (refine Stop.out ?_))
local macro_rules | `(tactic| walk_at "call ref") => `(tactic| (k_here; (with_reducible show wpAny _ _ (call (Value.ref 214) _) _ _ _); (with_unfolding_all refine' Pure.use (how_many _) ?k1 ?k2 ?k3 ?k4 ?k5 ?kK ?kd ?ku ?_; (case k1 => k_asm); (case k2 => k_asm); (case k3 => k_asm); (case k4 => k_asm); (case k5 => k_asm); (case kK => first | exact rfl | assumption); (case kd => ktr_room); (case ku => ktr_units); k_whole); intro t9 h9 tk9 F9 N9; (try dsimp only); (try k_fold)))
local macro_rules | `(tactic| walk_at "call ref") => `(tactic| (k_here; (with_reducible show wpAny _ _ (call (Value.ref 221) _) _ _ _); (with_unfolding_all refine' Pure.use (op_of' _ ?h0) ?k1 ?k2 ?k3 ?k4 ?k5 ?kK ?kd ?ku ?_; (case k1 => k_asm); (case k2 => k_asm); (case k3 => k_asm); (case k4 => k_asm); (case k5 => k_asm); (case kK => first | exact rfl | assumption); (case kd => ktr_room); (case ku => ktr_units); (case h0 => first | assumption | omega); k_whole); intro t9 h9 tk9 F9 N9; (try dsimp only); (try k_fold)))
local macro_rules | `(tactic| walk_at "call ref") => `(tactic| (k_here; (with_reducible show wpAny _ _ (call (Value.ref 221) _) _ _ _); (with_unfolding_all refine' Pure.use (op_of' _ (op_nmI ?h0 ?h1)) ?k1 ?k2 ?k3 ?k4 ?k5 ?kK ?kd ?ku ?_; (case k1 => k_asm); (case k2 => k_asm); (case k3 => k_asm); (case k4 => k_asm); (case k5 => k_asm); (case kK => first | exact rfl | assumption); (case kd => ktr_room); (case ku => ktr_units); (case h0 => first | assumption | omega); (case h1 => first | assumption | omega); k_whole); intro t9 h9 tk9 F9 N9; (try dsimp only); (try k_fold)))
local macro_rules | `(tactic| walk_at "call ref") => `(tactic| (k_here; (with_reducible show wpAny _ _ (call (Value.ref 228) _) _ _ _); (with_unfolding_all refine' Pure.use (name_of _ ?h0 ?h1) ?k1 ?k2 ?k3 ?k4 ?k5 ?kK ?kd ?ku ?_; (case k1 => k_asm); (case k2 => k_asm); (case k3 => k_asm); (case k4 => k_asm); (case k5 => k_asm); (case kK => first | exact rfl | assumption); (case kd => ktr_room); (case ku => ktr_units); (case h0 => first | assumption | omega); (case h1 => first | assumption | omega); k_whole); intro t9 h9 tk9 F9 N9; (try dsimp only); (try k_fold)))
local macro_rules | `(tactic| walk_at "call ref") => `(tactic| (k_here; (with_reducible show wpAny _ _ (call (Value.ref 235) _) _ _ _); (with_unfolding_all refine' Pure.use (least_of _ ?h0 ?h1) ?k1 ?k2 ?k3 ?k4 ?k5 ?kK ?kd ?ku ?_; (case k1 => k_asm); (case k2 => k_asm); (case k3 => k_asm); (case k4 => k_asm); (case k5 => k_asm); (case kK => first | exact rfl | assumption); (case kd => ktr_room); (case ku => ktr_units); (case h0 => first | assumption | omega); (case h1 => first | assumption | omega); k_whole); intro t9 h9 tk9 F9 N9; (try dsimp only); (try k_fold)))
local macro_rules | `(tactic| walk_at "call ref") => `(tactic| (k_here; (with_reducible show wpAny _ _ (call (Value.ref 242) _) _ _ _); (with_unfolding_all refine' Pure.use (most_of _ ?h0 ?h1) ?k1 ?k2 ?k3 ?k4 ?k5 ?kK ?kd ?ku ?_; (case k1 => k_asm); (case k2 => k_asm); (case k3 => k_asm); (case k4 => k_asm); (case k5 => k_asm); (case kK => first | exact rfl | assumption); (case kd => ktr_room); (case ku => ktr_units); (case h0 => first | assumption | omega); (case h1 => first | assumption | omega); k_whole); intro t9 h9 tk9 F9 N9; (try dsimp only); (try k_fold)))
local macro_rules | `(tactic| walk_at "call ref") => `(tactic| (k_here; (with_reducible show wpAny _ _ (call (Value.ref 249) _) _ _ _); (with_unfolding_all refine' Pure.use (takesHi _ ?h0 ?h1 ?h2) ?k1 ?k2 ?k3 ?k4 ?k5 ?kK ?kd ?ku ?_; (case k1 => k_asm); (case k2 => k_asm); (case k3 => k_asm); (case k4 => k_asm); (case k5 => k_asm); (case kK => first | exact rfl | assumption); (case kd => ktr_room); (case ku => ktr_units); (case h0 => first | assumption | omega); (case h1 => first | assumption | omega); (case h2 => first | assumption | omega); k_whole); intro t9 h9 tk9 F9 N9; (try dsimp only); (try k_fold)))
local macro_rules | `(tactic| walk_at "call ref") => `(tactic| (k_here; (with_reducible show wpAny _ _ (call (Value.ref 249) _) _ _ _); (with_unfolding_all refine' Pure.use (takesLo _ ?h0 ?h1) ?k1 ?k2 ?k3 ?k4 ?k5 ?kK ?kd ?ku ?_; (case k1 => k_asm); (case k2 => k_asm); (case k3 => k_asm); (case k4 => k_asm); (case k5 => k_asm); (case kK => first | exact rfl | assumption); (case kd => ktr_room); (case ku => ktr_units); (case h0 => first | assumption | omega); (case h1 => first | assumption | omega); k_whole); intro t9 h9 tk9 F9 N9; (try dsimp only); (try k_fold)))
local macro_rules | `(tactic| walk_at "call type:range") => `(tactic| (k_here; (with_unfolding_all refine' range1_rows ?k1 ?k2 ?_; (case k1 => k_asm); (case k2 => k_asm); k_whole); intro h9 tk9 t9 u9 v9 hr9 F9 N9 up9; (try dsimp only)))
local macro_rules | `(tactic| walk_at "eval ListComp") => `(tactic| (k_here; (with_reducible show wpAny _ _ (eval (Expr.ListComp _ [⟨_, Expr.Tuple _ _ _, _, _⟩] _ _) _) _ _ _); k_dflt (refine comp_over_tup (by k_asm) (by with_unfolding_all rfl) (by decide) (by rfl) (by decide) (by rfl) ?_)))
local macro_rules | `(tactic| walk_at "call builtin:all") => `(tactic| (k_here; (with_reducible show wpAny _ _ (call (Value.builtin "all") [Value.ref _]) _ _ _); (with_unfolding_all refine' all_true ?k0 ?k1 ?k2 ?_; (case k0 => exact rfl); (case k1 => k_asm); (case k2 => k_asm); k_whole); intro h9 tk9 F9 N9; (try dsimp only)))
theorem PySem.Challenge.cw_on0292_01_holds : PySem.Challenge.rw_on0292_01.Holds := by
  w_on; o_law
  open Mine in
  refine holds_open (q := vw) (loose := []) (Xt := fun s => xlAt vw [] s && recOk (RowW.records (OpenRow.toRowW (OpenLaw.row PySem.Challenge.rw_on0292_01))) s) (XP := XL vw []) (Yf := Hook.obs (kHook Mine.KK Mine.addrs Mine.addrs_ok)) (Ya := Hook.val (kHook Mine.KK Mine.addrs Mine.addrs_ok)) (YP := Hook.says (kHook Mine.KK Mine.addrs Mine.addrs_ok)) (N := 3576) ?hl (Hook.of (kHook Mine.KK Mine.addrs Mine.addrs_ok)) (Hook.keeps (kHook Mine.KK Mine.addrs Mine.addrs_ok)) (fun s e => xl_of s (Bool.and_eq_true_iff.mp e).1) XL.keeps (by rfl) (by rfl) (by rfl) (fun s e => recFacts_of (Bool.and_eq_true_iff.mp e).2) (by first | rfl) (by first | assumption | decide +kernel) (by decide +kernel) ⟨rfl, rfl, rfl, rfl, rfl, by decide +kernel⟩ ?hw ?hc
  case hw => w_witness2
  case hl => exact Mine.left
  case hc =>
    open Mine in
    w_strict (
    k_go0; (all_goals try k_fold); k_steps
    unfold Stop
    rename ¬ _ < _ => hlen
    rename IntsAre _ (List.map _ _ ++ _) => hI
    obtain ⟨cs, hI, hc1, hc2, hc3⟩ := deck_facts hI hlen
    k_steps
    unfold Stop
    rename Fr _ _ _ _ => F0
    rename News _ _ _ _ => N0
    rename Obj.IsDictOf (PySem.strKind _ _) _ [] => hd0
    rename Frag.In _ _ => X0
    rename ∀ p ∈ _, Prod.fst p ≠ _ => hne
    have f1 : @Ne Nat _ _ := hne _ (.head _)
    have f2 : @Ne Nat _ _ := hne _ (.tail _ (.head _))
    have f3 : @Ne Nat _ _ := hne _ (.tail _ (.tail _ (.head _)))
    clear hne
    dsimp only at f1 f2 f3
    refine outer_loop (cvs := [_, _, _, _, _, _]) (by rfl) F0 N0 X0 hd0 rfl rfl rfl (by decide) (by decide) ?turn ?done
    case turn =>
      clear F0 N0 hd0
      intro I i k t om kvs u h tk oI hi hlt hk0 hk1 hd hkl hkk hcI F1 N1
      have hlt' := hlt
      obtain ⟨hlt1, hlt2, hlt3, hlt4⟩ := hlt'
      (try dsimp only at hlt1)
      obtain ⟨ps, g1, g2, g3, g4, g5, g6, g7, g8, g9, g10⟩ := lot_facts hi
      obtain ⟨t1, t2, t3, e⟩ := lot_in _ hi
      k_steps
      · unfold Stop
        rename Fr _ _ _ _ => F2
        rename News _ _ _ _ => N2
        rename ps[_]? = some _ => q2
        revert q2
        rename ps[_]? = some _ => q1
        intro q2
        obtain ⟨z1, z2, z3, z4⟩ := picks g5 q1 q2 (by omega) (by omega) g4 g6
        refine' inner_loop (vs := [_, _]) (by rfl) F2 N2 ?hc ?hdt (.cons _ _ (.cons _ _ .nil)) subA hd hkk g9 (fun r hr => (z2 r hr).1) z3 z4 rfl rfl rfl rfl rfl ?turn2 ?done2
        case hc => rfl
        case hdt => rfl
        case turn2 =>
          clear F2 N2
          intro I' j p om' kvs' u' h' tk' oI' tn hpm hI' hd' hkl' hj hnone hc' F3 N3 hend
          have hp9 := g4 p (z1 p hpm)
          have hj2 : j < 2 := hj
          have o1 := hI' _ (.head _)
          have o2 := hI' _ (.tail _ (.head _))
          have o3 := hI' _ (.tail _ (.tail _ (.head _)))
          have o4 := hI' _ (.tail _ (.tail _ (.tail _ (.head _))))
          have o5 := hI' _ (.tail _ (.tail _ (.tail _ (.tail _ (.head _)))))
          have o6 := hI' _ (.tail _ (.tail _ (.tail _ (.tail _ (.tail _ (.head _))))))
          dsimp only at o1 o2 o3 o4 o5 o6
          k_steps
          unfold Stop
          rename Fr _ _ _ _ => F5
          rename News _ _ _ _ => N5
          rename Obj.IsDictOf _ _ (stored _ _ _) => d5
          exact turn_end F5 N5 (.head _) (fun p hp => .tail _ hp) (lt_upd hI') ⟨⟨.head _, trivial⟩, hend _ _ rfl rfl rfl rfl rfl d5⟩
        case done2 =>
          clear F2 N2
          intro om' kvs' u' h' tk' b1 b2 b3 F3 N3
          k_steps
          unfold Stop
          exact outer_end F3 N3 hlt (by omega) (by omega) b1 hkl b2 (by simp) b3 z1 g7
      · unfold Stop
        rename Fr _ _ _ _ => F2
        rename News _ _ _ _ => N2
        rename StrsAre _ (List.map nm ps) => hv2
        refine' inner_loop (by rfl) F2 N2 ?hc ?hdt hv2 subB hd hkk g9 (fun r hr => (g4 r hr).1) g6 g5 rfl rfl rfl rfl rfl ?turn3 ?done3
        case hc => rfl
        case hdt => rfl
        case turn3 =>
          clear F2 N2
          intro I' j p om' kvs' u' h' tk' oI' tn hpm hI' hd' hkl' hj hnone hc' F3 N3 hend
          have hp9 := g4 p hpm
          have o1 := hI' _ (.head _)
          have o2 := hI' _ (.tail _ (.head _))
          have o3 := hI' _ (.tail _ (.tail _ (.head _)))
          have o4 := hI' _ (.tail _ (.tail _ (.tail _ (.head _))))
          have o5 := hI' _ (.tail _ (.tail _ (.tail _ (.tail _ (.head _)))))
          have o6 := hI' _ (.tail _ (.tail _ (.tail _ (.tail _ (.tail _ (.head _))))))
          dsimp only at o1 o2 o3 o4 o5 o6
          k_steps
          unfold Stop
          rename Fr _ _ _ _ => F5
          rename News _ _ _ _ => N5
          rename Obj.IsDictOf _ _ (stored _ _ _) => d5
          exact turn_end F5 N5 (.head _) (fun p hp => .tail _ hp) (lt_upd hI') ⟨⟨.head _, trivial⟩, hend _ _ rfl rfl rfl rfl rfl d5⟩
        case done3 =>
          clear F2 N2
          intro om' kvs' u' h' tk' b1 b2 b3 F3 N3
          k_steps
          unfold Stop
          exact outer_end F3 N3 hlt (by omega) (by omega) b1 hkl b2 g3 b3 (fun r hr => hr) g7
    case done =>
      clear F0 N0 hd0
      intro k t om u h tk hk0 hk1 F1 N1
      k_steps
      unfold Stop
      rename IsRange _ _ _ _ _ _ _ _ => hr9
      rename Fr _ _ _ _ => F2
      rename News _ _ _ _ => N2
      refine last_loop (b := _) (k := k + 1) (by rfl) hr9 (by omega) (by omega) F2 N2 rfl rfl rfl (by omega) (by omega) ?turn4 ?done4
      case turn4 =>
        clear F2 N2 hr9
        intro I i k' t u h tk oI ti hi hI hk0' hk1' hk2' hc F3 N3
        have o1 := hI _ (.head _)
        have o2 := hI _ (.tail _ (.head _))
        have o3 := hI _ (.tail _ (.tail _ (.head _)))
        have o4 := hI _ (.tail _ (.tail _ (.tail _ (.head _))))
        dsimp only at o1 o2 o3 o4
        k_steps
        all_goals unfold Stop
        all_goals (rename Fr _ _ _ _ => F5; rename News _ _ _ _ => N5; exact last_end (u := u) F5 N5 rfl rfl rfl hI (by omega) (by omega))
      case done4 =>
        clear F2 N2 hr9
        intro k t u h tk F3 N3
        k_steps
        rename Fr _ _ _ _ => F5
        rename News _ _ _ _ => N5
        refine ⟨_, [_, _, _, _, _, _, _, _], _, _, rfl, .head _, (by rw [sizeLine_eq]; exact Nat.le_of_ble_eq_true rfl), F5, N5, rfl, fun g => ?_⟩
        refine rest_strs (P := fun x => opOf x = -1) ?hi (.head _) ?elt ?fin
        case hi =>
          repeat' (first | exact List.forall_mem_nil _ | refine List.forall_mem_cons.mpr ⟨⟨_, _, rfl, noneB_of (by kernel_rfl)⟩, ?_⟩)
        case elt =>
          clear F5 N5
          intro xs t I oI C oC D m₂ h tk ys E' Q' hP hoC hx₂ F₂ N₂ hq
          change opOf xs = -1 at hP
          k_steps
          rename Fr _ _ _ _ => F6
          rename News _ _ _ _ => N6
          exact hq _ _ F6 N6
        case fin =>
          k_steps)
end
